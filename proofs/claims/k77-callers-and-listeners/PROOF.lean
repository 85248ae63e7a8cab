import PyProof.Rows.All
import Wide.All
import OpenK.AllK
import Wide.FinOn
import HandS.ForMost
import HandS.ForExc
import HandS.Deep
import HandS.Flow
import HandS.IsInst
import HandS.Style
import HandS.TupAny
import HandS.TupLe
import HandS.Wide
import HandS.More
import HandS.Walk
import HandS.SortInts
import HandS.SetFor
import HandS.NoneIn
import HandS.Small
import HandS.CallSlots
import HandS.Conv
import HandS.Strs
import KE.KTupSum
import HandS.TupMul
import PySem.Challenge.RW_nowhisper_k77_callers_and_listeners
import KE.KBits
import KE.OsRunLaw
set_option Elab.async false
set_option linter.all false
set_option maxRecDepth 100000
local macro_rules | `(tactic| k_head) => `(tactic| k_headL)
namespace Pf
set_option maxHeartbeats 0 in
open_top hd for PySem.Challenge.rw_nowhisper_k77_callers_and_listeners
end Pf
namespace Mir
open PySem L2

/-! ### data, objects, results -/
inductive D where
  | non | bl (b : Bool) | int (i : Int) | str (x : Str) | tup (xs : List D) | fl (xs : List D) | ref (n : Nat) | opq (v : V)

inductive O where
  | lst (xs : List D)
  | dk (kvs : List (Key × D))
  | dt (kvs : List (List Key × D))
  | ins (c : Str) (fs : List (Str × D))

inductive R (α : Type) where
  | ok (a : α) (S : List O)
  | exc (c : Str) (fs : List (Str × D)) (S : List O)
  | bad

abbrev GE := List (Option D)
abbrev ST := List O
/-- a computation -/
abbrev C (α : Type) := ST → R α
def R.bind {α β : Type} (r : R α) (f : α → ST → R β) : R β := match r with
  | .ok a S => f a S
  | .exc c fs S => .exc c fs S
  | .bad => .bad
@[simp] theorem R.bind_ok {α β : Type} (a : α) (S : ST) (f : α → ST → R β) : (R.ok a S).bind f = f a S := rfl
@[simp] theorem R.bind_exc {α β : Type} (c : Str) (fs) (S : ST) (f : α → ST → R β) : (R.exc c fs S : R α).bind f = .exc c fs S := rfl
@[simp] theorem R.bind_bad {α β : Type} (f : α → ST → R β) : (R.bad : R α).bind f = .bad := rfl

/-- a statement's result -/
inductive RS where
  | nx (G : GE) (S : ST)
  | rt (d : D) (S : ST)
  | bk (G : GE) (S : ST)
  | ct (G : GE) (S : ST)
  | exc (c : Str) (fs : List (Str × D)) (G : GE) (S : ST)
  | bad

abbrev ME := GE → ST → R D
abbrev MA := GE → ST → R (List D)
abbrev MT := GE → ST → R Bool
abbrev MS := GE → ST → RS
abbrev Fn := List D → ST → R D

/-! ### the relations -/
section
variable (K : PySem.W.Frag)
/-- a list that is read, never written -/
def FrL (H : Hp) (a : Addr) (xs : List V) : Prop :=
  (∃ o, H a = some (.frz o (.lst xs))) ∨
    ∃ (o : Obj) (its : Array Value) (n : Nat), K.lookup a = some o ∧ o.cls = .type "list" ∧ o.dict = none ∧ o.data = .seq its n ∧ its.size ≤ sizeLine ∧ Vals xs its.toList
mutual
def VR (ρ : List Addr) (H : Hp) : D → V → Prop
  | .non, v => v = .non
  | .bl b, v => v = .bl b
  | .int i, v => v = .int i
  | .str x, v => v = .str x
  | .tup ds, v => ∃ a vs, v = .ref a ∧ SqT K H a vs ∧ VRs ρ H ds vs
  | .fl ds, v => ∃ a vs, v = .ref a ∧ FrL K H a vs ∧ VRs ρ H ds vs
  | .ref n, v => ∃ a, ρ[n]? = some a ∧ v = .ref a
  | .opq u, v => v = u
def VRs (ρ : List Addr) (H : Hp) : List D → List V → Prop
  | [], vs => vs = []
  | d :: ds, vs => ∃ v r, vs = v :: r ∧ VR ρ H d v ∧ VRs ρ H ds r
end
end

/-- what never changes stands as before -/
structure Keep (H H' : Hp) : Prop where
  tup : ∀ a xs, H a = some (.tup xs) → H' a = some (.tup xs)
  frz : ∀ a o u, H a = some (.frz o u) → H' a = some (.frz o u)
theorem Keep.refl (H : Hp) : Keep H H := ⟨fun _ _ h => h, fun _ _ _ h => h⟩
theorem Keep.trans {H H1 H2 : Hp} (a : Keep H H1) (b : Keep H1 H2) : Keep H H2 := ⟨fun x y h => b.tup x y (a.tup x y h), fun x y z h => b.frz x y z (a.frz x y z h)⟩
structure Ext (ρ : List Addr) (H : Hp) (ρ' : List Addr) (H' : Hp) : Prop where
  pre : ρ <+: ρ'
  kp : Keep H H'
theorem Ext.refl (ρ : List Addr) (H : Hp) : Ext ρ H ρ H := ⟨List.prefix_refl _, .refl H⟩
theorem Ext.trans {ρ ρ1 ρ2 : List Addr} {H H1 H2 : Hp} (a : Ext ρ H ρ1 H1) (b : Ext ρ1 H1 ρ2 H2) : Ext ρ H ρ2 H2 := ⟨a.pre.trans b.pre, a.kp.trans b.kp⟩
theorem Ext.get {ρ ρ' : List Addr} {H H' : Hp} (e : Ext ρ H ρ' H') {n : Nat} {a : Addr} (h : ρ[n]? = some a) : ρ'[n]? = some a := by
  obtain ⟨t, rfl⟩ := e.pre
  have : n < ρ.length := (List.getElem?_eq_some_iff.mp h).1
  rw [List.getElem?_append_left this]; exact h
theorem Keep.sqt {K : PySem.W.Frag} {H H' : Hp} (k : Keep H H') {a : Addr} {xs : List V} (h : SqT K H a xs) : SqT K H' a xs := by
  rcases h with (h | ⟨o, h⟩) | h
  · exact .inl (.inl (k.tup _ _ h))
  · exact .inl (.inr ⟨o, k.frz _ _ _ h⟩)
  · exact .inr h
theorem Keep.frl {K : PySem.W.Frag} {H H' : Hp} (k : Keep H H') {a : Addr} {xs : List V} (h : FrL K H a xs) : FrL K H' a xs := by
  rcases h with ⟨o, h⟩ | h
  · exact .inl ⟨o, k.frz _ _ _ h⟩
  · exact .inr h
theorem FrL.sql {K : PySem.W.Frag} {H : Hp} {a : Addr} {xs : List V} (h : FrL K H a xs) : SqL K H a xs := by
  rcases h with ⟨o, h⟩ | h
  · exact .inl (.inr ⟨o, h⟩)
  · exact .inr h

section
variable {K : PySem.W.Frag} {ρ ρ' : List Addr} {H H' : Hp}
mutual
theorem VR.mono (e : Ext ρ H ρ' H') : ∀ {d : D} {v : V}, VR K ρ H d v → VR K ρ' H' d v
  | .non, v, h => by simpa [VR] using h
  | .bl b, v, h => by simpa [VR] using h
  | .int i, v, h => by simpa [VR] using h
  | .str x, v, h => by simpa [VR] using h
  | .opq u, v, h => by simpa [VR] using h
  | .tup ds, v, h => by
    unfold VR at h ⊢
    obtain ⟨a, vs, h1, h2, h3⟩ := h
    exact ⟨a, vs, h1, e.kp.sqt h2, VRs.mono e h3⟩
  | .fl ds, v, h => by
    unfold VR at h ⊢
    obtain ⟨a, vs, h1, h2, h3⟩ := h
    exact ⟨a, vs, h1, e.kp.frl h2, VRs.mono e h3⟩
  | .ref n, v, h => by
    unfold VR at h ⊢
    obtain ⟨a, h1, h2⟩ := h
    exact ⟨a, e.get h1, h2⟩
theorem VRs.mono (e : Ext ρ H ρ' H') : ∀ {ds : List D} {vs : List V}, VRs K ρ H ds vs → VRs K ρ' H' ds vs
  | [], vs, h => by simpa [VRs] using h
  | d :: ds, vs, h => by
    unfold VRs at h ⊢
    obtain ⟨v, r, h1, h2, h3⟩ := h
    exact ⟨v, r, h1, VR.mono e h2, VRs.mono e h3⟩
end
theorem VRs.nil : VRs K ρ H [] [] := by simp [VRs]
theorem VRs.cons {d : D} {v : V} {ds : List D} {vs : List V} (h : VR K ρ H d v) (t : VRs K ρ H ds vs) : VRs K ρ H (d :: ds) (v :: vs) := by
  unfold VRs; exact ⟨v, vs, rfl, h, t⟩
theorem VRs.cons_inv {d : D} {v : V} {ds : List D} {vs : List V} (h : VRs K ρ H (d :: ds) (v :: vs)) : VR K ρ H d v ∧ VRs K ρ H ds vs := by
  unfold VRs at h
  obtain ⟨a, b, e, h1, h2⟩ := h
  cases e
  exact ⟨h1, h2⟩
theorem VRs.cons_l {d : D} {ds : List D} {vs : List V} (h : VRs K ρ H (d :: ds) vs) : ∃ v r, vs = v :: r ∧ VR K ρ H d v ∧ VRs K ρ H ds r := by
  unfold VRs at h; exact h
theorem VRs.nil_l {vs : List V} (h : VRs K ρ H [] vs) : vs = [] := by unfold VRs at h; exact h
theorem VRs.length : ∀ {ds : List D} {vs : List V}, VRs K ρ H ds vs → ds.length = vs.length
  | [], vs, h => by rw [h.nil_l]; rfl
  | d :: ds, vs, h => by
    obtain ⟨v, r, rfl, _, h2⟩ := h.cons_l
    simp [VRs.length h2]
theorem VRs.get : ∀ {ds : List D} {vs : List V} {i : Nat} {d : D}, VRs K ρ H ds vs → ds[i]? = some d → ∃ v, vs[i]? = some v ∧ VR K ρ H d v
  | [], vs, i, d, h, e => by simp at e
  | d :: ds, vs, 0, d', h, e => by
    obtain ⟨v, r, rfl, h1, h2⟩ := h.cons_l
    simp at e; subst e
    exact ⟨v, rfl, h1⟩
  | d :: ds, vs, i + 1, d', h, e => by
    obtain ⟨v, r, rfl, h1, h2⟩ := h.cons_l
    simpa using VRs.get (i := i) h2 (by simpa using e)
theorem VRs.append : ∀ {ds es : List D} {vs ws : List V}, VRs K ρ H ds vs → VRs K ρ H es ws → VRs K ρ H (ds ++ es) (vs ++ ws)
  | [], es, vs, ws, h, t => by rw [h.nil_l]; exact t
  | d :: ds, es, vs, ws, h, t => by
    obtain ⟨v, r, rfl, h1, h2⟩ := h.cons_l
    exact .cons h1 (VRs.append h2 t)
theorem VRs.take : ∀ {ds : List D} {vs : List V} (n : Nat), VRs K ρ H ds vs → VRs K ρ H (ds.take n) (vs.take n)
  | ds, vs, 0, h => by simpa using VRs.nil
  | [], vs, n + 1, h => by rw [h.nil_l]; simpa using VRs.nil
  | d :: ds, vs, n + 1, h => by
    obtain ⟨v, r, rfl, h1, h2⟩ := h.cons_l
    exact .cons h1 (VRs.take n h2)
theorem VRs.drop : ∀ {ds : List D} {vs : List V} (n : Nat), VRs K ρ H ds vs → VRs K ρ H (ds.drop n) (vs.drop n)
  | ds, vs, 0, h => h
  | [], vs, n + 1, h => by rw [h.nil_l]; simpa using VRs.nil
  | d :: ds, vs, n + 1, h => by
    obtain ⟨v, r, rfl, h1, h2⟩ := h.cons_l
    exact VRs.drop n h2
theorem VRs.set : ∀ {ds : List D} {vs : List V} {d : D} {v : V} (i : Nat), VRs K ρ H ds vs → VR K ρ H d v → VRs K ρ H (ds.set i d) (vs.set i v)
  | [], vs, d, v, i, h, k => by rw [h.nil_l]; simpa using VRs.nil
  | e :: ds, vs, d, v, 0, h, k => by
    obtain ⟨v', r, rfl, h1, h2⟩ := h.cons_l
    exact .cons k h2
  | e :: ds, vs, d, v, i + 1, h, k => by
    obtain ⟨v', r, rfl, h1, h2⟩ := h.cons_l
    exact .cons h1 (VRs.set i h2 k)
theorem VRs.eraseIdx : ∀ {ds : List D} {vs : List V} (i : Nat), VRs K ρ H ds vs → VRs K ρ H (ds.eraseIdx i) (vs.eraseIdx i)
  | [], vs, i, h => by rw [h.nil_l]; simpa using VRs.nil
  | e :: ds, vs, 0, h => by
    obtain ⟨v', r, rfl, h1, h2⟩ := h.cons_l
    exact h2
  | e :: ds, vs, i + 1, h => by
    obtain ⟨v', r, rfl, h1, h2⟩ := h.cons_l
    exact .cons h1 (VRs.eraseIdx i h2)
theorem VRs.dropLast {ds : List D} {vs : List V} (h : VRs K ρ H ds vs) : VRs K ρ H ds.dropLast vs.dropLast := by
  rw [List.dropLast_eq_take, List.dropLast_eq_take, h.length]; exact h.take _
theorem VRs.insertIdx : ∀ {ds : List D} {vs : List V} {d : D} {v : V} (i : Nat), VRs K ρ H ds vs → VR K ρ H d v → VRs K ρ H (ds.insertIdx i d) (vs.insertIdx i v)
  | ds, vs, d, v, 0, h, k => by simpa using VRs.cons k h
  | [], vs, d, v, i + 1, h, k => by rw [h.nil_l]; simpa using VRs.nil
  | e :: ds, vs, d, v, i + 1, h, k => by
    obtain ⟨v', r, rfl, h1, h2⟩ := h.cons_l
    simpa using VRs.cons h1 (VRs.insertIdx i h2 k)
theorem VRs.reverse : ∀ {ds : List D} {vs : List V}, VRs K ρ H ds vs → VRs K ρ H ds.reverse vs.reverse
  | [], vs, h => by rw [h.nil_l]; simpa using VRs.nil
  | d :: ds, vs, h => by
    obtain ⟨v, r, rfl, h1, h2⟩ := h.cons_l
    rw [List.reverse_cons, List.reverse_cons]
    exact (VRs.reverse h2).append (.cons h1 .nil)
theorem VRs.ints : ∀ {ns : List Int} {vs : List V}, VRs K ρ H (ns.map D.int) vs → vs = ns.map V.int
  | [], vs, h => h.nil_l
  | n :: ns, vs, h => by
    obtain ⟨v, r, rfl, h1, h2⟩ := h.cons_l
    have : v = V.int n := by simpa [VR] using h1
    rw [this, VRs.ints h2]; rfl
theorem VRs.of_ints : ∀ (ns : List Int), VRs K ρ H (ns.map D.int) (ns.map V.int)
  | [] => .nil
  | n :: ns => .cons (by simp [VR]) (VRs.of_ints ns)
end

/-- names and values -/
def FR {α : Type} (K : PySem.W.Frag) (ρ : List Addr) (H : Hp) (fs : List (α × D)) (gs : List (α × V)) : Prop := fs.map (·.1) = gs.map (·.1) ∧ VRs K ρ H (fs.map (·.2)) (gs.map (·.2))
theorem FR.mono {α : Type} {K : PySem.W.Frag} {ρ ρ' : List Addr} {H H' : Hp} (e : Ext ρ H ρ' H') {fs : List (α × D)} {gs : List (α × V)} (h : FR K ρ H fs gs) : FR K ρ' H' fs gs := ⟨h.1, h.2.mono e⟩

/-- how an object of the store lies in the heap -/
def OR (K : PySem.W.Frag) (mg : Str → Option Value) (ρ : List Addr) (H : Hp) (a : Addr) : O → Prop
  | .lst ds => ∃ vs, H a = some (.lst vs) ∧ VRs K ρ H ds vs
  | .dk kvs => ∃ ws, H a = some (.dK ws) ∧ FR K ρ H kvs ws
  | .dt kvs => ∃ ws, H a = some (.dT ws) ∧ FR K ρ H kvs ws
  | .ins c fs => ∃ C dx gs, mg c = some (.ref C) ∧ H a = some (.ins C dx gs) ∧ FR K ρ H fs gs
theorem OR.mono {K : PySem.W.Frag} {mg : Str → Option Value} {ρ ρ' : List Addr} {H H' : Hp} {a : Addr} (e : Ext ρ H ρ' H') (ha : H' a = H a) : ∀ {o : O}, OR K mg ρ H a o → OR K mg ρ' H' a o
  | .lst ds, ⟨vs, h1, h2⟩ => ⟨vs, ha.trans h1, h2.mono e⟩
  | .dk kvs, ⟨ws, h1, h2⟩ => ⟨ws, ha.trans h1, h2.mono e⟩
  | .dt kvs, ⟨ws, h1, h2⟩ => ⟨ws, ha.trans h1, h2.mono e⟩
  | .ins c fs, ⟨C, dx, gs, h0, h1, h2⟩ => ⟨C, dx, gs, h0, ha.trans h1, h2.mono e⟩
theorem OR.some {K : PySem.W.Frag} {mg : Str → Option Value} {ρ : List Addr} {H : Hp} {a : Addr} : ∀ {o : O}, OR K mg ρ H a o → ∃ ho, H a = Option.some ho ∧ Mut (H a)
  | .lst ds, ⟨vs, h1, h2⟩ => ⟨_, h1, by rw [h1]; exact True.intro⟩
  | .dk kvs, ⟨ws, h1, h2⟩ => ⟨_, h1, by rw [h1]; exact True.intro⟩
  | .dt kvs, ⟨ws, h1, h2⟩ => ⟨_, h1, by rw [h1]; exact True.intro⟩
  | .ins c fs, ⟨C, dx, gs, h0, h1, h2⟩ => ⟨_, h1, by rw [h1]; exact True.intro⟩

structure Sim (K : PySem.W.Frag) (mg : Str → Option Value) (ρ : List Addr) (S : ST) (H : Hp) : Prop where
  nd : ρ.Nodup
  len : ρ.length = S.length
  obj : ∀ (n : Nat) (a : Addr) (o : O), ρ[n]? = some a → S[n]? = some o → OR K mg ρ H a o
section
variable {K : PySem.W.Frag} {mg : Str → Option Value} {ρ : List Addr} {S : ST} {H : Hp}
theorem Sim.addr (s : Sim K mg ρ S H) {n : Nat} {o : O} (h : S[n]? = some o) : ∃ a, ρ[n]? = some a ∧ OR K mg ρ H a o := by
  have hn : n < ρ.length := by rw [s.len]; exact (List.getElem?_eq_some_iff.mp h).1
  exact ⟨ρ[n], List.getElem?_eq_getElem hn, s.obj n _ o (List.getElem?_eq_getElem hn) h⟩
theorem Sim.ref (s : Sim K mg ρ S H) {n : Nat} {o : O} {v : V} (r : VR K ρ H (.ref n) v) (h : S[n]? = some o) : ∃ a, v = .ref a ∧ ρ[n]? = some a ∧ OR K mg ρ H a o := by
  unfold VR at r
  obtain ⟨a, h1, h2⟩ := r
  exact ⟨a, h2, h1, s.obj n a o h1 h⟩
theorem Sim.mem (s : Sim K mg ρ S H) {a : Addr} (h : a ∈ ρ) : ∃ ho, H a = some ho ∧ Mut (H a) := by
  obtain ⟨n, hn, e⟩ := List.getElem_of_mem h
  have hn' : n < S.length := by rw [← s.len]; exact hn
  exact (s.obj n a S[n] (by rw [List.getElem?_eq_getElem hn, e]) (List.getElem?_eq_getElem hn')).some
theorem Keep.new {p : Addr} {o : HO} (h : H p = none) : Keep H (upd H p o) :=
  ⟨fun a xs e => by rw [upd_ne (ne_of_none e h)]; exact e, fun a x u e => by rw [upd_ne (ne_of_none e h)]; exact e⟩
theorem Keep.write {p : Addr} {o : HO} (h : Mut (H p)) : Keep H (upd H p o) :=
  ⟨fun a xs e => by rw [upd_ne (fun z => by subst z; rw [e] at h; exact h)]; exact e, fun a x u e => by rw [upd_ne (fun z => by subst z; rw [e] at h; exact h)]; exact e⟩
/-- a new object that nobody of the store knows -/
theorem Sim.junk (s : Sim K mg ρ S H) {p : Addr} {o : HO} (h : H p = none) : Sim K mg ρ S (upd H p o) := by
  refine ⟨s.nd, s.len, fun n a ob h1 h2 => ?_⟩
  have q := s.obj n a ob h1 h2
  obtain ⟨ho, e, _⟩ := q.some
  exact q.mono ⟨List.prefix_refl _, .new h⟩ (upd_ne (ne_of_none e h))
theorem Sim.free (s : Sim K mg ρ S H) {p : Addr} (h : H p = none) : p ∉ ρ := fun z => by
  obtain ⟨ho, e, _⟩ := s.mem z
  rw [h] at e; cases e
theorem Ext.alloc {p : Addr} {o : HO} (h : H p = none) : Ext ρ H (ρ ++ [p]) (upd H p o) := ⟨List.prefix_append _ _, .new h⟩
theorem Sim.alloc (s : Sim K mg ρ S H) {p : Addr} {ho : HO} {o : O} (h : H p = none) (q : OR K mg (ρ ++ [p]) (upd H p ho) p o) : Sim K mg (ρ ++ [p]) (S ++ [o]) (upd H p ho) := by
  have hp := s.free h
  refine ⟨?_, by simp [s.len], fun n a ob h1 h2 => ?_⟩
  · rw [List.nodup_append]
    refine ⟨s.nd, by simp, fun a ha b hb => ?_⟩
    simp at hb; subst hb
    exact fun e => hp (e ▸ ha)
  · by_cases hn : n < ρ.length
    · rw [List.getElem?_append_left hn] at h1
      rw [List.getElem?_append_left (by rw [← s.len]; exact hn)] at h2
      have q := s.obj n a ob h1 h2
      obtain ⟨hh, e, _⟩ := q.some
      exact q.mono (.alloc h) (upd_ne (ne_of_none e h))
    · have hn' : ρ.length ≤ n := by omega
      rw [List.getElem?_append_right hn'] at h1
      rw [List.getElem?_append_right (by rw [← s.len]; exact hn')] at h2
      have e0 : n - ρ.length = 0 := by
        have := (List.getElem?_eq_some_iff.mp h1).1
        simp at this; omega
      rw [e0] at h1
      rw [← s.len, e0] at h2
      simp at h1 h2
      subst h1 h2
      exact q
theorem VR.alloc (s : Sim K mg ρ S H) {p : Addr} {ho : HO} : VR K (ρ ++ [p]) (upd H p ho) (.ref S.length) (.ref p) := by
  unfold VR
  exact ⟨p, by rw [← s.len]; simp, rfl⟩
theorem Sim.write (s : Sim K mg ρ S H) {n : Nat} {a : Addr} {ho : HO} {o : O} (h1 : ρ[n]? = some a) (hm : Mut (H a)) (q : OR K mg ρ (upd H a ho) a o) : Sim K mg ρ (S.set n o) (upd H a ho) := by
  refine ⟨s.nd, by simp [s.len], fun m b ob hb hs => ?_⟩
  by_cases e : n = m
  · subst e
    rw [h1] at hb; cases hb
    have hn : n < S.length := by rw [← s.len]; exact (List.getElem?_eq_some_iff.mp h1).1
    rw [List.getElem?_set_self hn] at hs
    cases hs
    exact q
  · rw [List.getElem?_set_ne e] at hs
    have q' := s.obj m b ob hb hs
    refine q'.mono ⟨List.prefix_refl _, .write hm⟩ (upd_ne ?_)
    intro z
    subst z
    have hn := (List.getElem?_eq_some_iff.mp h1)
    have hm' := (List.getElem?_eq_some_iff.mp hb)
    obtain ⟨l1, e1⟩ := hn
    obtain ⟨l2, e2⟩ := hm'
    exact e ((List.getElem_inj s.nd).mp (e1.trans e2.symm))
theorem Ext.write {a : Addr} {ho : HO} (hm : Mut (H a)) : Ext ρ H ρ (upd H a ho) := ⟨List.prefix_refl _, .write hm⟩
theorem Ext.junk {a : Addr} {ho : HO} (hm : H a = none) : Ext ρ H ρ (upd H a ho) := ⟨List.prefix_refl _, .new hm⟩
end

/-- the slots -/
structure GR (K : PySem.W.Frag) (ρ : List Addr) (H : Hp) (G : GE) (σ : St) : Prop where
  len : G.length = σ.length
  get : ∀ (i : Nat) (d : D), G[i]? = some (some d) → ∃ v, σ[i]? = some (some v) ∧ VR K ρ H d v
theorem GR.mono {K : PySem.W.Frag} {ρ ρ' : List Addr} {H H' : Hp} {G : GE} {σ : St} (g : GR K ρ H G σ) (e : Ext ρ H ρ' H') : GR K ρ' H' G σ :=
  ⟨g.len, fun i d h => let ⟨v, h1, h2⟩ := g.get i d h; ⟨v, h1, h2.mono e⟩⟩
theorem GR.set {K : PySem.W.Frag} {ρ : List Addr} {H : Hp} {G : GE} {σ : St} (g : GR K ρ H G σ) {d : D} {v : V} (i : Nat) (r : VR K ρ H d v) : GR K ρ H (G.set i (some d)) (σ.set i (some v)) := by
  refine ⟨by simp [g.len], fun j e h => ?_⟩
  by_cases hj : i = j
  · subst hj
    have hi : i < G.length := by
      have := (List.getElem?_eq_some_iff.mp h).1
      simpa using this
    rw [List.getElem?_set_self hi] at h
    cases h
    exact ⟨v, List.getElem?_set_self (by rw [← g.len]; exact hi), r⟩
  · rw [List.getElem?_set_ne hj] at h ⊢
    exact g.get j e h
def wipeG (G : GE) : List Nat → GE
  | [] => G
  | v :: vs => (wipeG G vs).set v none
theorem GR.wipe {K : PySem.W.Frag} {ρ : List Addr} {H : Hp} {G : GE} {σ : St} (g : GR K ρ H G σ) : ∀ vs : List Nat, GR K ρ H (wipeG G vs) (L2.wipe σ vs)
  | [] => g
  | v :: vs => by
    have q := GR.wipe g vs
    refine ⟨by simp [wipeG, L2.wipe, q.len], fun i d h => ?_⟩
    unfold wipeG at h
    by_cases hj : v = i
    · subst hj
      have hi : v < (wipeG G vs).length := by
        have := (List.getElem?_eq_some_iff.mp h).1
        simpa using this
      rw [List.getElem?_set_self hi] at h
      cases h
    · rw [List.getElem?_set_ne hj] at h
      unfold L2.wipe
      rw [List.getElem?_set_ne hj]
      exact q.get i d h

/-! ### ends -/
/-- how an exception of the mirror lies in the heap -/
def ExR (K : PySem.W.Frag) (mg : Str → Option Value) (ρ : List Addr) (H : Hp) (c : Str) (fs : List (Str × D)) (cls : Value) (dx : Option Addr) : Prop :=
  ∃ C, mg c = some (.ref C) ∧ cls = .ref C ∧ ((fs = [] ∧ dx = none) ∨ ∃ a gs, dx = some a ∧ H a = some (.xd gs) ∧ FR K ρ H fs gs)
def OutK {α β : Type} (K : PySem.W.Frag) (mg : Str → Option Value) (W : WX) (rel : List Addr → Hp → α → β → Prop) (ρ : List Addr) (σ : St) (H : Hp) (r : R α) (Q : β → Hp → Prop) : Prop := match r with
  | .ok d S' => ∀ ρ' H' v, Ext ρ H ρ' H' → Sim K mg ρ' S' H' → rel ρ' H' d v → Q v H'
  | .exc c fs S' => ∀ ρ' H' cls dx, Ext ρ H ρ' H' → Sim K mg ρ' S' H' → ExR K mg ρ' H' c fs cls dx → W cls dx σ H'
  | .bad => False
abbrev OutG {α β : Type} (X : Cx) (W : WX) (rel : List Addr → Hp → α → β → Prop) (ρ : List Addr) (σ : St) (H : Hp) (r : R α) (Q : β → Hp → Prop) : Prop := OutK X.K X.mg W rel ρ σ H r Q
def tG {α β : Type} (X : Cx) (W : WX) (rel : List Addr → Hp → α → β → Prop) (f : GE → ST → R α) (σ : St) (H : Hp) (Q : β → Hp → Prop) : Prop :=
  ∃ ρ G S, GR X.K ρ H G σ ∧ Sim X.K X.mg ρ S H ∧ OutG X W rel ρ σ H (f G S) Q
section
variable {X : Cx} {W : WX} {α β γ δ : Type} {rel : List Addr → Hp → α → β → Prop} {rel' : List Addr → Hp → γ → δ → Prop} {ρ ρ' : List Addr} {σ : St} {H H' : Hp}
theorem OutG.mono {r : R α} {Q Q' : β → Hp → Prop} (h : OutG X W rel ρ σ H r Q) (e : Ext ρ H ρ' H') (q : ∀ v H, Q v H → Q' v H) : OutG X W rel ρ' σ H' r Q' := by
  cases r with
  | ok d S => exact fun ρ2 H2 v e2 s2 r2 => q _ _ (h ρ2 H2 v (e.trans e2) s2 r2)
  | exc c fs S => exact fun ρ2 H2 cls dx e2 s2 r2 => h ρ2 H2 cls dx (e.trans e2) s2 r2
  | bad => exact h
theorem tG_mono {f : GE → ST → R α} {Q Q' : β → Hp → Prop} (h : tG X W rel f σ H Q) (q : ∀ v H, Q v H → Q' v H) : tG X W rel f σ H Q' := by
  obtain ⟨ρ, G, S, h1, h2, h3⟩ := h
  exact ⟨ρ, G, S, h1, h2, h3.mono (.refl _ _) q⟩
/-- one thing, then the rest -/
theorem tG_bind {f : GE → ST → R α} {g : α → GE → ST → R γ} {Q : δ → Hp → Prop} (h : tG X W rel' (fun G S => (f G S).bind fun a S1 => g a G S1) σ H Q) :
    tG X W rel f σ H fun x H1 => ∃ ρ G S a, GR X.K ρ H1 G σ ∧ Sim X.K X.mg ρ S H1 ∧ rel ρ H1 a x ∧ OutG X W rel' ρ σ H1 (g a G S) Q := by
  obtain ⟨ρ, G, S, h1, h2, h3⟩ := h
  refine ⟨ρ, G, S, h1, h2, ?_⟩
  dsimp only at h3
  cases e : f G S with
  | ok a S1 =>
    rw [e] at h3
    exact fun ρ1 H1 x e1 s1 r1 => ⟨ρ1, G, S1, a, h1.mono e1, s1, r1, OutG.mono (r := g a G S1) h3 e1 fun _ _ z => z⟩
  | exc c fs S1 =>
    rw [e] at h3
    exact h3
  | bad =>
    rw [e] at h3
    exact h3
/-- the same from what an end leaves -/
theorem out_tG {f : GE → ST → R α} {G : GE} {S : ST} {Q : β → Hp → Prop} (g : GR X.K ρ H G σ) (s : Sim X.K X.mg ρ S H) (h : OutG X W rel ρ σ H (f G S) Q) : tG X W rel f σ H Q := ⟨ρ, G, S, g, s, h⟩
theorem out_bind {f : R α} {g : α → ST → R γ} {Q : δ → Hp → Prop} (h : OutG X W rel' ρ σ H (f.bind g) Q) :
    OutG X W rel ρ σ H f fun x H1 => ∃ ρ1 S1 a, Ext ρ H ρ1 H1 ∧ Sim X.K X.mg ρ1 S1 H1 ∧ rel ρ1 H1 a x ∧ OutG X W rel' ρ1 σ H1 (g a S1) Q := by
  cases f with
  | ok a S1 => exact fun ρ1 H1 x e1 s1 r1 => ⟨ρ1, S1, a, e1, s1, r1, OutG.mono (r := g a S1) h e1 fun _ _ z => z⟩
  | exc c fs S1 => exact h
  | bad => exact h
end

abbrev rV (X : Cx) : List Addr → Hp → D → V → Prop := fun ρ H => VR X.K ρ H
abbrev rVs (X : Cx) : List Addr → Hp → List D → List V → Prop := fun ρ H => VRs X.K ρ H
abbrev rB : List Addr → Hp → Bool → Bool → Prop := fun _ _ a b => b = a
abbrev tE (X : Cx) (W : WX) (f : ME) : TE := tG X W (rV X) f
abbrev tA (X : Cx) (W : WX) (f : MA) : TA := tG X W (rVs X) f
abbrev tT (X : Cx) (W : WX) (f : MT) : TT := tG X W rB f
def OutS (X : Cx) (W : WX) (ρ : List Addr) (H : Hp) (r : RS) (Dn : Ends) : Prop := match r with
  | .nx G' S' => ∀ ρ' H' σ', Ext ρ H ρ' H' → Sim X.K X.mg ρ' S' H' → GR X.K ρ' H' G' σ' → Dn.nx σ' H'
  | .bk G' S' => ∀ ρ' H' σ', Ext ρ H ρ' H' → Sim X.K X.mg ρ' S' H' → GR X.K ρ' H' G' σ' → Dn.bk σ' H'
  | .ct G' S' => ∀ ρ' H' σ', Ext ρ H ρ' H' → Sim X.K X.mg ρ' S' H' → GR X.K ρ' H' G' σ' → Dn.ct σ' H'
  | .rt d S' => ∀ ρ' H' v, Ext ρ H ρ' H' → Sim X.K X.mg ρ' S' H' → VR X.K ρ' H' d v → Dn.rt v H'
  | .exc c fs G' S' => ∀ ρ' H' σ' cls dx, Ext ρ H ρ' H' → Sim X.K X.mg ρ' S' H' → GR X.K ρ' H' G' σ' → ExR X.K X.mg ρ' H' c fs cls dx → W cls dx σ' H'
  | .bad => False
def tS (X : Cx) (W : WX) (f : MS) : TS := fun Dn σ H => ∃ ρ G S, GR X.K ρ H G σ ∧ Sim X.K X.mg ρ S H ∧ OutS X W ρ H (f G S) Dn
theorem OutS.mono {X : Cx} {W : WX} {ρ ρ' : List Addr} {H H' : Hp} {r : RS} {Dn : Ends} (h : OutS X W ρ H r Dn) (e : Ext ρ H ρ' H') : OutS X W ρ' H' r Dn := by
  cases r with
  | nx G S => exact fun ρ2 H2 v e2 s2 r2 => h ρ2 H2 v (e.trans e2) s2 r2
  | bk G S => exact fun ρ2 H2 v e2 s2 r2 => h ρ2 H2 v (e.trans e2) s2 r2
  | ct G S => exact fun ρ2 H2 v e2 s2 r2 => h ρ2 H2 v (e.trans e2) s2 r2
  | rt d S => exact fun ρ2 H2 v e2 s2 r2 => h ρ2 H2 v (e.trans e2) s2 r2
  | exc c fs G S => exact fun ρ2 H2 v cls dx e2 s2 r2 => h ρ2 H2 v cls dx (e.trans e2) s2 r2
  | bad => exact h

abbrev DE (X : Cx) (W : WX) (e : Expr) (f : ME) : Prop := PE X e (tE X W f)
abbrev DT (X : Cx) (W : WX) (e : Expr) (f : MT) : Prop := PT X e (tT X W f)
abbrev DW (X : Cx) (W : WX) (e : Expr) (f : MT) : Prop := PW X e (tT X W f)
abbrev DA (X : Cx) (W : WX) (es : List Expr) (f : MA) : Prop := PA X es (tA X W f)
abbrev DS (X : Cx) (W : WX) (st : Stmt) (f : MS) : Prop := PS X st (tS X W f)
abbrev DSs (X : Cx) (W : WX) (st : List Stmt) (f : MS) : Prop := PSs X st (tS X W f)

theorem PE.weak {X : Cx} {e : Expr} {t t' : TE} (h : PE X e t) (i : ∀ σ H Q, t' σ H Q → t σ H Q) : PE X e t' := ⟨fun pins s σ H Q I q => h.run pins s σ H Q I (i σ H Q q)⟩
theorem PT.weak {X : Cx} {e : Expr} {t t' : TT} (h : PT X e t) (i : ∀ σ H Q, t' σ H Q → t σ H Q) : PT X e t' := ⟨fun pins s σ H Q I q => h.run pins s σ H Q I (i σ H Q q)⟩
theorem PW.weak {X : Cx} {e : Expr} {t t' : TT} (h : PW X e t) (i : ∀ σ H Q, t' σ H Q → t σ H Q) : PW X e t' := ⟨fun wh pins s σ H Q I q => h.run wh pins s σ H Q I (i σ H Q q)⟩
theorem PA.weak {X : Cx} {e : List Expr} {t t' : TA} (h : PA X e t) (i : ∀ σ H Q, t' σ H Q → t σ H Q) : PA X e t' := ⟨fun pos pins s σ H Q I q => h.run pos pins s σ H Q I (i σ H Q q)⟩
theorem PS.weak {X : Cx} {e : Stmt} {t t' : TS} (h : PS X e t) (i : ∀ D σ H, t' D σ H → t D σ H) : PS X e t' := ⟨fun pins s σ H D I q => h.run pins s σ H D I (i D σ H q)⟩
theorem PSs.weak {X : Cx} {e : List Stmt} {t t' : TS} (h : PSs X e t) (i : ∀ D σ H, t' D σ H → t D σ H) : PSs X e t' := ⟨fun pins s σ H D I q => h.run pins s σ H D I (i D σ H q)⟩
theorem PG.weak {X : Cx} {e : Expr} {t t' : TG} (h : PG X e t) (i : ∀ v σ H Q, t' v σ H Q → t v σ H Q) : PG X e t' := ⟨fun pins s σ H v u Q I r q => h.run pins s σ H v u Q I r (i v σ H Q q)⟩
theorem PGs.weak {X : Cx} {e : List Expr} {t t' : TGs} (h : PGs X e t) (i : ∀ v σ H Q, t' v σ H Q → t v σ H Q) : PGs X e t' := ⟨fun pins s σ H v u Q I r q => h.run pins s σ H v u Q I r (i v σ H Q q)⟩
theorem PE.orr {X : Cx} {e : Expr} {t t' : TE} (h : PE X e t) (h' : PE X e t') : PE X e (fun σ H Q => t σ H Q ∨ t' σ H Q) := ⟨fun pins s σ H Q I q => q.elim (h.run pins s σ H Q I) (h'.run pins s σ H Q I)⟩
theorem PS.orr {X : Cx} {e : Stmt} {t t' : TS} (h : PS X e t) (h' : PS X e t') : PS X e (fun D σ H => t D σ H ∨ t' D σ H) := ⟨fun pins s σ H Q I q => q.elim (h.run pins s σ H Q I) (h'.run pins s σ H Q I)⟩
end Mir

namespace Mir
open PySem L2
section
variable {K : PySem.W.Frag} {ρ : List Addr} {H : Hp} {v : V}
theorem VR_non : VR K ρ H .non v ↔ v = .non := by simp [VR]
theorem VR_bl {b} : VR K ρ H (.bl b) v ↔ v = .bl b := by simp [VR]
theorem VR_int {i} : VR K ρ H (.int i) v ↔ v = .int i := by simp [VR]
theorem VR_str {x} : VR K ρ H (.str x) v ↔ v = .str x := by simp [VR]
theorem VR_opq {x} : VR K ρ H (.opq x) v ↔ v = x := by simp [VR]
theorem VR_tup {ds} : VR K ρ H (.tup ds) v ↔ ∃ a vs, v = .ref a ∧ SqT K H a vs ∧ VRs K ρ H ds vs := by rw [VR]
theorem VR_fl {ds} : VR K ρ H (.fl ds) v ↔ ∃ a vs, v = .ref a ∧ FrL K H a vs ∧ VRs K ρ H ds vs := by rw [VR]
theorem VR_ref {n} : VR K ρ H (.ref n) v ↔ ∃ a, ρ[n]? = some a ∧ v = .ref a := by rw [VR]
end

/-! ### operations by values -/
/-- a two-place operation: f keeps what m says -/
def Op2 (X : Cx) (W : WX) (f : Value → Value → Sem Value) (m : D → D → C D) : Prop :=
  ∃ r : R2, OpR X f r ∧ ∀ (ρ : List Addr) (S : ST) (H : Hp) (σ : St) (d e : D) (x y : V) (Q : VK), Sim X.K X.mg ρ S H → VR X.K ρ H d x → VR X.K ρ H e y → OutG X W (rV X) ρ σ H (m d e S) Q → r x y H Q
def Op1 (X : Cx) (W : WX) (f : Value → Sem Value) (m : D → C D) : Prop :=
  ∃ r : V → Hp → VK → Prop, UnR X f r ∧ ∀ (ρ : List Addr) (S : ST) (H : Hp) (σ : St) (d : D) (x : V) (Q : VK), Sim X.K X.mg ρ S H → VR X.K ρ H d x → OutG X W (rV X) ρ σ H (m d S) Q → r x H Q
section
variable {X : Cx} {W : WX} {a b c : Expr} {fa fb fc : ME} {pos : Pos}

def e2 (m : D → D → C D) (fa fb : ME) : ME := fun G S => (fa G S).bind fun a S1 => (fb G S1).bind fun b S2 => m a b S2
def e1 (m : D → C D) (fa : ME) : ME := fun G S => (fa G S).bind fun a S1 => m a S1
theorem two {m : D → D → C D} {r : R2} {σ : St} {H : Hp} {Q : VK}
    (hr : ∀ (ρ : List Addr) (S : ST) (H : Hp) (σ : St) (d e : D) (x y : V) (Q : VK), Sim X.K X.mg ρ S H → VR X.K ρ H d x → VR X.K ρ H e y → OutG X W (rV X) ρ σ H (m d e S) Q → r x y H Q)
    (h : tE X W (e2 m fa fb) σ H Q) : tOp r (tE X W fa) (tE X W fb) σ H Q := by
  refine tG_mono (tG_bind (f := fa) (g := fun a G S1 => (fb G S1).bind fun b S2 => m a b S2) h) fun x H1 q => ?_
  obtain ⟨ρ, G, S, d, g, s, r1, o⟩ := q
  refine ⟨ρ, G, S, g, s, OutG.mono (out_bind (rel := rV X) o) (.refl _ _) fun y H2 q2 => ?_⟩
  obtain ⟨ρ2, S2, e, x2, s2, r2, o2⟩ := q2
  exact hr ρ2 S2 H2 σ d e x y Q s2 (VR.mono x2 r1) r2 o2
theorem one {m : D → C D} {r : V → Hp → VK → Prop} {σ : St} {H : Hp} {Q : VK}
    (hr : ∀ (ρ : List Addr) (S : ST) (H : Hp) (σ : St) (d : D) (x : V) (Q : VK), Sim X.K X.mg ρ S H → VR X.K ρ H d x → OutG X W (rV X) ρ σ H (m d S) Q → r x H Q)
    (h : tE X W (e1 m fa) σ H Q) : tUn r (tE X W fa) σ H Q := by
  refine tG_mono (tG_bind (f := fa) (g := fun a G S1 => m a S1) h) fun x H1 q => ?_
  obtain ⟨ρ, G, S, d, g, s, r1, o⟩ := q
  exact hr ρ S H1 σ d x Q s r1 o
theorem de_bin {op : Operator} {m : D → D → C D} (ho : Op2 X W (binaryOp op) m) (ha : DE X W a fa) (hb : DE X W b fb) : DE X W (.BinOp a op b pos) (e2 m fa fb) := by
  obtain ⟨r, h1, h2⟩ := ho
  exact PE.weak (pe_op h1 ha hb) fun σ H Q h => two h2 h
theorem de_un {op : UnaryOp} {m : D → C D} (ho : Op1 X W (unaryOp op) m) (ha : DE X W a fa) : DE X W (.UnaryOp op a pos) (e1 m fa) := by
  obtain ⟨r, h1, h2⟩ := ho
  exact PE.weak (pe_un h1 ha) fun σ H Q h => one h2 h
theorem de_cmp {op : CmpOp} {m : D → D → C D} (ho : Op2 X W (compareOp op) m) (ha : DE X W a fa) (hb : DE X W b fb) (hm : behindInMarks op b = false := by first | exact nomark _ (by decide) (by decide) | rfl) : DE X W (.Compare a [op] [b] pos) (e2 m fa fb) := by
  obtain ⟨r, h1, h2⟩ := ho
  exact PE.weak (pe_cmpR h1 ha hb hm) fun σ H Q h => two h2 h
/-- a truth value as a test -/
def tb (f : ME) : MT := fun G S => (f G S).bind fun d S1 => match d with | .bl b => .ok b S1 | _ => .bad
theorem tb_test {t : TE} {f : ME} {σ : St} {H : Hp} {Q : Bool → Hp → Prop} (ht : ∀ Q, tE X W f σ H Q → t σ H Q) (h : tT X W (tb f) σ H Q) : tTest t σ H Q := by
  refine ht _ (tG_mono (tG_bind (f := f) (g := fun d G S1 => match d with | .bl b => R.ok b S1 | _ => .bad) h) fun x H1 q => ?_)
  obtain ⟨ρ, G, S, d, g, s, r1, o⟩ := q
  cases d <;> first | exact o.elim | skip
  rename_i b
  exact ⟨b, VR_bl.mp r1, o ρ H1 b (.refl _ _) s rfl⟩
theorem dt_cmp {op : CmpOp} {m : D → D → C D} (ho : Op2 X W (compareOp op) m) (ha : DE X W a fa) (hb : DE X W b fb) (hm : behindInMarks op b = false := by first | exact nomark _ (by decide) (by decide) | rfl) : DT X W (.Compare a [op] [b] pos) (tb (e2 m fa fb)) := by
  obtain ⟨r, h1, h2⟩ := ho
  exact PT.weak (pt_cmpR h1 ha hb hm) fun σ H Q h => tb_test (fun Q h => two h2 h) h

/-! ### names, constants -/
def eV (i : Nat) : ME := fun G S => match G[i]? with | some (some d) => .ok d S | _ => .bad
def eC (d : D) : ME := fun _ S => .ok d S
theorem de_v (i : Nat) {x : Str} {pos : Pos} (hN : X.N[i]? = some x := by rfl) (hv : Vis X.env.scope x := by first | exact Or.inl rfl | exact Or.inr (Or.inl rfl) | exact Or.inr (Or.inr rfl)) (hd : (x == ("__debug__" : Str)) = false := by decide)
    (hcd : (x == ("__classdict__" : Str)) = false := by decide) : DE X W (.Name x pos) (eV i) := by
  refine PE.weak (pe_var hN hv hd hcd) fun σ H Q h => ?_
  obtain ⟨ρ, G, S, g, s, o⟩ := h
  unfold eV at o
  split at o
  · rename_i d e
    obtain ⟨v, e1, r⟩ := g.get i d e
    exact ⟨v, e1, o ρ H v (.refl _ _) s r⟩
  · exact o.elim
theorem eC_ok {d : D} {v : V} {σ : St} {H : Hp} {Q : VK} (r : ∀ ρ, VR X.K ρ H d v) (h : tE X W (eC d) σ H Q) : tC v σ H Q := by
  obtain ⟨ρ, G, S, g, s, o⟩ := h
  exact o ρ H v (.refl _ _) s (r ρ)
theorem de_int {i j} : DE X W (.Constant (.int i) j pos) (eC (.int i)) := PE.weak pe_int fun σ H Q h => eC_ok (fun ρ => VR_int.mpr rfl) h
theorem de_bl {b j} : DE X W (.Constant (.bool b) j pos) (eC (.bl b)) := PE.weak pe_bl fun σ H Q h => eC_ok (fun ρ => VR_bl.mpr rfl) h
theorem de_non {j} : DE X W (.Constant .none j pos) (eC .non) := PE.weak pe_non fun σ H Q h => eC_ok (fun ρ => VR_non.mpr rfl) h
theorem de_str {x j} : DE X W (.Constant (.str x) j pos) (eC (.str x)) := PE.weak pe_str fun σ H Q h => eC_ok (fun ρ => VR_str.mpr rfl) h
/-- a module's constant -/
theorem de_glob {x : Str} {d : D} {v : V} {u : Value} (hg : Gl X x) (hm : X.mg x = some u) (r : RelV v u) (hd : ∀ ρ H, VR X.K ρ H d v) (hdb : (x == ("__debug__" : Str)) = false := by decide) : DE X W (.Name x pos) (eC d) :=
  PE.weak (pe_glob hg hm r hdb) fun σ H Q h => eC_ok (fun ρ => hd ρ H) h

/-! ### numbers -/
def lim64 (i : Int) : Bool := decide (-18446744073709551616 < i) && decide (i < 18446744073709551616)
theorem lim64_iff {i : Int} : lim64 i = true ↔ (-(2 ^ 64) < i ∧ i < 2 ^ 64) := by simp [lim64]
def mI (g : Int → Int → Int) : D → D → C D := fun a b S => match a, b with | .int i, .int j => .ok (.int (g i j)) S | _, _ => .bad
def mIc (c : Int → Int → Bool) (g : Int → Int → Int) : D → D → C D := fun a b S => match a, b with | .int i, .int j => if c i j = true then .ok (.int (g i j)) S else .bad | _, _ => .bad
theorem op2_I {f : Value → Value → Sem Value} {g : Int → Int → Int} (h : OpR X f (rI0 fun i j => .int (g i j))) : Op2 X W f (mI g) := by
  refine ⟨_, h, fun ρ S H σ d e x y Q s r1 r2 o => ?_⟩
  unfold mI at o
  split at o
  · exact ⟨_, _, VR_int.mp r1, VR_int.mp r2, o ρ H _ (.refl _ _) s (VR_int.mpr rfl)⟩
  · exact o.elim
theorem op2_Ic {f : Value → Value → Sem Value} {P : Int → Int → Prop} {c : Int → Int → Bool} {g : Int → Int → Int} (h : OpR X f (rI P fun i j => .int (g i j))) (hc : ∀ i j, c i j = true → P i j) : Op2 X W f (mIc c g) := by
  refine ⟨_, h, fun ρ S H σ d e x y Q s r1 r2 o => ?_⟩
  unfold mIc at o
  split at o
  · split at o
    · rename_i k
      exact ⟨_, _, VR_int.mp r1, VR_int.mp r2, hc _ _ k, o ρ H _ (.refl _ _) s (VR_int.mpr rfl)⟩
    · exact o.elim
  · exact o.elim
def mSub : D → D → C D := mI fun i j => i - j
theorem op2_sub : Op2 X W (binaryOp .Sub) mSub := op2_I op_sub
theorem op2_isub : Op2 X W (inplaceOp .Sub) mSub := op2_I iop_sub
def cDiv (i j : Int) : Bool := decide (0 < j) && decide (j < 18446744073709551616)
def mFDiv : D → D → C D := mIc cDiv fun i j => i / j
theorem op2_fdiv : Op2 X W (binaryOp .FloorDiv) mFDiv := op2_Ic op_fdivW fun i j h => by
  simp [cDiv] at h
  exact wide_div (b := 64) h.1 (by omega) (by decide) (by decide)
def cMod (_ j : Int) : Bool := decide (0 < j)
def mMod : D → D → C D := mIc cMod fun i j => i % j
theorem op2_mod : Op2 X W (binaryOp .Mod) mMod := op2_Ic op_mod fun i j h => by simpa [cMod] using h
def cPow (i j : Int) : Bool := decide (0 ≤ j) && decide (j ≤ 1000000) && lim64 i
theorem cPow_ok {i j : Int} (h : cPow i j = true) : CPow i j := by
  simp [cPow, lim64] at h
  exact ⟨h.1.1, h.1.2, by omega⟩
def mPow : D → D → C D := mIc cPow fun i j => i ^ j.toNat
theorem op2_pow : Op2 X W (binaryOp .Pow) mPow := op2_Ic op_pow fun i j h => cPow_ok h
def mShl : D → D → C D := mIc cPow fun i j => i * 2 ^ j.toNat
theorem op2_shl : Op2 X W (binaryOp .LShift) mShl := op2_Ic op_shl fun i j h => cPow_ok h
def cNn (_ j : Int) : Bool := decide (0 ≤ j)
def mShr : D → D → C D := mIc cNn fun i j => i / 2 ^ j.toNat
theorem op2_shr : Op2 X W (binaryOp .RShift) mShr := op2_Ic op_shr fun i j h => by simpa [cNn] using h
def mAnd : D → D → C D := mI fun i j => Builtin.bitAnd i j
theorem op2_and : Op2 X W (binaryOp .BitAnd) mAnd := op2_I op_and
def mOr : D → D → C D := mI fun i j => Builtin.bitOr i j
theorem op2_or : Op2 X W (binaryOp .BitOr) mOr := op2_I op_or
def mXor : D → D → C D := mI fun i j => Builtin.bitXor i j
theorem op2_xor : Op2 X W (binaryOp .BitXor) mXor := op2_I op_xor
def mNeg : D → C D := fun a S => match a with | .int i => .ok (.int (-i)) S | _ => .bad
theorem op1_neg : Op1 X W (unaryOp .USub) mNeg := by
  refine ⟨_, un_neg, fun ρ S H σ d x Q s r1 o => ?_⟩
  unfold mNeg at o
  split at o
  · exact ⟨_, VR_int.mp r1, o ρ H _ (.refl _ _) s (VR_int.mpr rfl)⟩
  · exact o.elim

/-! ### + and * -/
def allocO (o : O) : C D := fun S => .ok (.ref S.length) (S ++ [o])
/-- a new object by the rule «for any free address» -/
theorem alloc_ok {ρ : List Addr} {S : ST} {H : Hp} {σ : St} {o : O} {ho : HO} {Q : VK} (s : Sim X.K X.mg ρ S H) (h : OutG X W (rV X) ρ σ H (allocO o S) Q)
    (q : ∀ p, H p = none → OR X.K X.mg (ρ ++ [p]) (upd H p ho) p o) : ∀ p, H p = none → Q (.ref p) (upd H p ho) := fun p hp =>
  h (ρ ++ [p]) _ _ (.alloc hp) (s.alloc hp (q p hp)) (VR.alloc s)
theorem alloc_lst {ρ : List Addr} {S : ST} {H : Hp} {σ : St} {ds : List D} {vs : List V} {Q : VK} (s : Sim X.K X.mg ρ S H) (h : OutG X W (rV X) ρ σ H (allocO (.lst ds) S) Q)
    (r : VRs X.K ρ H ds vs) : ∀ p, H p = none → Q (.ref p) (upd H p (.lst vs)) := alloc_ok s h fun p hp => ⟨vs, upd_same, r.mono (.alloc hp)⟩
/-- a new tuple -/
theorem new_tup {ρ : List Addr} {S : ST} {H : Hp} {σ : St} {ds : List D} {vs : List V} {Q : VK} (s : Sim X.K X.mg ρ S H) (h : OutG X W (rV X) ρ σ H (.ok (.tup ds) S) Q)
    (r : VRs X.K ρ H ds vs) : ∀ p, H p = none → Q (.ref p) (upd H p (.tup vs)) := fun p hp =>
  h ρ _ _ (.junk hp) (s.junk hp) (VR_tup.mpr ⟨p, vs, rfl, .inl (.inl upd_same), r.mono (.junk hp)⟩)
abbrev SZ : Nat := 16777216
def mAdd : D → D → C D := fun a b S => match a, b with
  | .int i, .int j => .ok (.int (i + j)) S
  | .str x, .str y => if x.length + y.length ≤ SZ then .ok (.str (x ++ y)) S else .bad
  | .tup xs, .tup ys => if xs.length + ys.length ≤ SZ then .ok (.tup (xs ++ ys)) S else .bad
  | .ref m, .ref n => match S[m]?, S[n]? with
    | some (.lst xs), some (.lst ys) => if xs.length + ys.length ≤ SZ then allocO (.lst (xs ++ ys)) S else .bad
    | _, _ => .bad
  | .int i, .bl k => .ok (.int (i + if k then 1 else 0)) S
  | _, _ => .bad
theorem op2_add : Op2 X W (binaryOp .Add) mAdd := by
  refine ⟨_, op_add.or (op_add_str.or (op_catA.or (op_cat.or op_add_ib))), fun ρ S H σ d e x y Q s r1 r2 o => ?_⟩
  unfold mAdd at o
  split at o
  · exact .inl ⟨_, _, VR_int.mp r1, VR_int.mp r2, o ρ H _ (.refl _ _) s (VR_int.mpr rfl)⟩
  · split at o
    · rename_i k
      exact .inr (.inl ⟨_, _, VR_str.mp r1, VR_str.mp r2, by rw [sizeLine_eq]; exact k, o ρ H _ (.refl _ _) s (VR_str.mpr rfl)⟩)
    · exact o.elim
  · split at o
    · rename_i xs ys k
      obtain ⟨a, vs, e1, q1, v1⟩ := VR_tup.mp r1
      obtain ⟨b, ws, e2, q2, v2⟩ := VR_tup.mp r2
      refine .inr (.inr (.inl ⟨a, b, vs, ws, e1, e2, q1, q2, ?_, fun z => ?_, fun z1 z2 => ?_, fun z1 z2 => new_tup s o (v1.append v2)⟩))
      · rw [sizeLine_eq, ← v1.length, ← v2.length]; exact k
      · subst z
        refine o ρ H _ (.refl _ _) s (VR_tup.mpr ⟨b, _, rfl, q2, ?_⟩)
        have := v1.length
        have hx : xs = [] := List.length_eq_zero_iff.mp (by simpa using this)
        rw [hx]; exact v2
      · subst z2
        refine o ρ H _ (.refl _ _) s (VR_tup.mpr ⟨a, _, rfl, q1, ?_⟩)
        have := v2.length
        have hx : ys = [] := List.length_eq_zero_iff.mp (by simpa using this)
        rw [hx, List.append_nil]; exact v1
    · exact o.elim
  · rename_i m n
    split at o
    · rename_i xs ys h1 h2
      split at o
      · rename_i k
        obtain ⟨a, e1, p1, vs, w1, v1⟩ := s.ref r1 h1
        obtain ⟨b, e2, p2, ws, w2, v2⟩ := s.ref r2 h2
        refine .inr (.inr (.inr (.inl ⟨a, b, vs, ws, e1, e2, w1, w2, ?_, alloc_lst s o (v1.append v2)⟩)))
        rw [sizeLine_eq, ← v1.length, ← v2.length]; exact k
      · exact o.elim
    · exact o.elim
  · exact .inr (.inr (.inr (.inr ⟨_, _, VR_int.mp r1, VR_bl.mp r2, o ρ H _ (.refl _ _) s (VR_int.mpr rfl)⟩)))
  · exact o.elim
theorem op_add_bi : OpR X (inplaceOp .Add) (rI0 fun i j => .int (i + j)) := iop_add
def mIAdd : D → D → C D := fun a b S => match a, b with
  | .int i, .int j => .ok (.int (i + j)) S
  | .str x, .str y => if x.length + y.length ≤ SZ then .ok (.str (x ++ y)) S else .bad
  | .ref m, .ref n => match S[m]?, S[n]? with
    | some (.lst xs), some (.lst ys) => if xs.length + ys.length ≤ SZ then .ok (.ref m) (S.set m (.lst (xs ++ ys))) else .bad
    | _, _ => .bad
  | _, _ => .bad
theorem op2_iadd : Op2 X W (inplaceOp .Add) mIAdd := by
  refine ⟨_, iop_add.or (iop_add_str.or iop_ext), fun ρ S H σ d e x y Q s r1 r2 o => ?_⟩
  unfold mIAdd at o
  split at o
  · exact .inl ⟨_, _, VR_int.mp r1, VR_int.mp r2, o ρ H _ (.refl _ _) s (VR_int.mpr rfl)⟩
  · split at o
    · rename_i k
      exact .inr (.inl ⟨_, _, VR_str.mp r1, VR_str.mp r2, by rw [sizeLine_eq]; exact k, o ρ H _ (.refl _ _) s (VR_str.mpr rfl)⟩)
    · exact o.elim
  · rename_i m n
    split at o
    · rename_i xs ys h1 h2
      split at o
      · rename_i k
        obtain ⟨a, e1, p1, vs, w1, v1⟩ := s.ref r1 h1
        obtain ⟨b, e2, p2, ws, w2, v2⟩ := s.ref r2 h2
        refine .inr (.inr ⟨a, b, vs, ws, e1, e2, w1, w2, ?_, ?_⟩)
        · rw [sizeLine_eq, ← v1.length, ← v2.length]; exact k
        · have hm : Mut (H a) := by rw [w1]; exact True.intro
          refine o ρ _ _ (.write hm) (s.write p1 hm ⟨_, upd_same, (v1.append v2).mono (.write hm)⟩) (VR_ref.mpr ⟨a, p1, rfl⟩)
      · exact o.elim
    · exact o.elim
  · exact o.elim
def mMul : D → D → C D := fun a b S => match a, b with
  | .int i, .int j => if (lim64 i || lim64 j) = true then .ok (.int (i * j)) S else .bad
  | .ref m, .int k => match S[m]? with
    | some (.lst xs) => if 0 ≤ k ∧ k < 16777217 ∧ xs.length * k.toNat ≤ SZ then allocO (.lst (List.replicate k.toNat xs).flatten) S else .bad
    | _ => .bad
  | _, _ => .bad
theorem VRs.rep {K : PySem.W.Frag} {ρ : List Addr} {H : Hp} {ds : List D} {vs : List V} (h : VRs K ρ H ds vs) : ∀ k : Nat, VRs K ρ H (List.replicate k ds).flatten (List.replicate k vs).flatten
  | 0 => by simpa using VRs.nil
  | k + 1 => by rw [List.replicate_succ, List.replicate_succ, List.flatten_cons, List.flatten_cons]; exact h.append (VRs.rep h k)
theorem op2_mul : Op2 X W (binaryOp .Mult) mMul := by
  refine ⟨_, op_mul.or op_rep, fun ρ S H σ d e x y Q s r1 r2 o => ?_⟩
  unfold mMul at o
  split at o
  · split at o
    · rename_i k
      rw [Bool.or_eq_true, lim64_iff, lim64_iff] at k
      exact .inl ⟨_, _, VR_int.mp r1, VR_int.mp r2, k, o ρ H _ (.refl _ _) s (VR_int.mpr rfl)⟩
    · exact o.elim
  · rename_i m k
    split at o
    · rename_i xs h1
      split at o
      · rename_i c
        obtain ⟨a, e1, p1, vs, w1, v1⟩ := s.ref r1 h1
        refine .inr ⟨a, k, vs, e1, VR_int.mp r2, w1, by omega, by omega, ?_, alloc_lst s o (v1.rep _)⟩
        rw [sizeLine_eq, ← v1.length]; exact c.2.2
      · exact o.elim
    · exact o.elim
  · exact o.elim

/-! ### comparisons of numbers and texts -/
def mCmp (p : Int → Int → Bool) (q : List Nat → List Nat → Bool) : D → D → C D := fun a b S => match a, b with
  | .int i, .int j => .ok (.bl (p i j)) S
  | .str x, .str y => .ok (.bl (q x.cps.toList y.cps.toList)) S
  | _, _ => .bad
theorem op2_cmp {f : Value → Value → Sem Value} {p : Int → Int → Bool} {q : List Nat → List Nat → Bool} (h : OpR X f (rI0 fun i j => .bl (p i j))) (h' : OpR X f (fun x y H Q => ∃ i j, x = .str i ∧ y = .str j ∧ Q (.bl (q i.cps.toList j.cps.toList)) H)) : Op2 X W f (mCmp p q) := by
  refine ⟨_, h.or h', fun ρ S H σ d e x y Q s r1 r2 o => ?_⟩
  unfold mCmp at o
  split at o
  · exact .inl ⟨_, _, VR_int.mp r1, VR_int.mp r2, o ρ H _ (.refl _ _) s (VR_bl.mpr rfl)⟩
  · exact .inr ⟨_, _, VR_str.mp r1, VR_str.mp r2, o ρ H _ (.refl _ _) s (VR_bl.mpr rfl)⟩
  · exact o.elim
def mLt : D → D → C D := mCmp (fun i j => decide (i < j)) fun x y => decide (x < y)
def mLe : D → D → C D := mCmp (fun i j => decide (i ≤ j)) fun x y => !decide (y < x)
def mGt : D → D → C D := mCmp (fun i j => decide (j < i)) fun x y => decide (y < x)
def mGe : D → D → C D := mCmp (fun i j => decide (j ≤ i)) fun x y => !decide (x < y)
theorem op2_lt : Op2 X W (compareOp .Lt) mLt := op2_cmp op_lt op_lt_str
theorem op2_le : Op2 X W (compareOp .LtE) mLe := op2_cmp op_le op_le_str
theorem op2_gt : Op2 X W (compareOp .Gt) mGt := op2_cmp op_gt op_gt_str
theorem op2_ge : Op2 X W (compareOp .GtE) mGe := op2_cmp op_ge op_ge_str

/-! ### == -/
mutual
def D.py : D → Option PyData
  | .non => some .none
  | .bl b => some (.bool b)
  | .int i => some (.int i)
  | .str x => some (.str x)
  | .tup ds => (D.pys ds).map .tuple
  | .fl ds => (D.pys ds).map .list
  | .ref _ => none
  | .opq _ => none
def D.pys : List D → Option (List PyData)
  | [] => some []
  | d :: ds => match D.py d, D.pys ds with | some p, some ps => some (p :: ps) | _, _ => none
end
/-- one list deep in the store -/
def D.pyS (S : ST) : D → Option PyData
  | .ref n => match S[n]? with | some (.lst ds) => (D.pys ds).map .list | _ => none
  | d => d.py
section
variable {ρ : List Addr} {H : Hp}
mutual
theorem VR.dp {K : PySem.W.Frag} : ∀ {d : D} {v : V} {p : PyData}, VR K ρ H d v → d.py = some p → Dp K H v p
  | .non, v, p, h, e => by rw [VR_non] at h; subst h; simp [D.py] at e; subst e; exact .non
  | .bl b, v, p, h, e => by rw [VR_bl] at h; subst h; simp [D.py] at e; subst e; exact .bl _
  | .int i, v, p, h, e => by rw [VR_int] at h; subst h; simp [D.py] at e; subst e; exact .int _
  | .str x, v, p, h, e => by rw [VR_str] at h; subst h; simp [D.py] at e; subst e; exact .str _
  | .tup ds, v, p, h, e => by
    obtain ⟨a, vs, rfl, q, r⟩ := VR_tup.mp h
    simp [D.py] at e
    obtain ⟨ps, e1, rfl⟩ := e
    exact .tup q (VRs.dp r e1)
  | .fl ds, v, p, h, e => by
    obtain ⟨a, vs, rfl, q, r⟩ := VR_fl.mp h
    simp [D.py] at e
    obtain ⟨ps, e1, rfl⟩ := e
    exact .lst q.sql (VRs.dp r e1)
  | .ref n, v, p, h, e => by simp [D.py] at e
  | .opq x, v, p, h, e => by simp [D.py] at e
theorem VRs.dp {K : PySem.W.Frag} : ∀ {ds : List D} {vs : List V} {ps : List PyData}, VRs K ρ H ds vs → D.pys ds = some ps → DpAll K H vs ps
  | [], vs, ps, h, e => by
    rw [h.nil_l]
    simp [D.pys] at e; subst e
    exact .nil
  | d :: ds, vs, ps, h, e => by
    obtain ⟨v, r, rfl, h1, h2⟩ := h.cons_l
    unfold D.pys at e
    split at e
    · rename_i p ps' e1 e2
      cases e
      exact .cons (VR.dp h1 e1) (VRs.dp h2 e2)
    · cases e
end
theorem VR.dpS {K : PySem.W.Frag} {mg : Str → Option Value} {S : ST} (s : Sim K mg ρ S H) {d : D} {v : V} {p : PyData} (h : VR K ρ H d v) (e : d.pyS S = some p) : Dp K H v p := by
  cases d with
  | ref n =>
    unfold D.pyS at e
    dsimp only at e
    split at e
    · rename_i ds h1
      obtain ⟨a, rfl, p1, vs, w1, v1⟩ := s.ref h h1
      simp at e
      obtain ⟨ps, e1, rfl⟩ := e
      exact .lst (SqL.of w1) (v1.dp e1)
    · cases e
  | _ => exact VR.dp h e
end
def mEqB (a b : D) (S : ST) : Option Bool := match a, b with
  | .int i, .int j => some (decide (i = j))
  | .str x, .str y => some (decide (x = y))
  | .bl x, .bl y => some (decide (x = y))
  | _, _ => match a.pyS S, b.pyS S with
    | some p, some q => if (SeqAt.shaped p && SeqAt.shaped q) = true then some (PyData.eqv p q) else none
    | _, _ => none
def mEq : D → D → C D := fun a b S => match mEqB a b S with | some k => .ok (.bl k) S | none => .bad
def mNe : D → D → C D := fun a b S => match mEqB a b S with | some k => .ok (.bl (!k)) S | none => .bad
theorem op2_eqs {f : Value → Value → Sem Value} {g : Bool → Bool} (h1 : OpR X f (fun x y H Q => scal x y = true ∧ Q (.bl (g (decide (x = y)))) H))
    (h2 : OpR X f (fun x y H Q => ∃ d e, Dp X.K H x d ∧ Dp X.K H y e ∧ SeqAt.shaped d = true ∧ SeqAt.shaped e = true ∧ Q (.bl (g (PyData.eqv d e))) H)) : Op2 X W f (fun a b S => match mEqB a b S with | some k => .ok (.bl (g k)) S | none => .bad) := by
  refine ⟨_, h1.or h2, fun ρ S H σ d e x y Q s r1 r2 o => ?_⟩
  dsimp only at o
  split at o
  · rename_i k hk
    unfold mEqB at hk
    split at hk
    · rename_i i j
      cases hk
      rw [VR_int] at r1 r2; subst r1 r2
      refine .inl ⟨rfl, ?_⟩
      have := o ρ H _ (.refl _ _) s (VR_bl.mpr rfl)
      rwa [show decide (V.int i = V.int j) = decide (i = j) by simp]
    · rename_i i j
      cases hk
      rw [VR_str] at r1 r2; subst r1 r2
      refine .inl ⟨rfl, ?_⟩
      have := o ρ H _ (.refl _ _) s (VR_bl.mpr rfl)
      rwa [show decide (V.str i = V.str j) = decide (i = j) by simp]
    · rename_i i j
      cases hk
      rw [VR_bl] at r1 r2; subst r1 r2
      refine .inl ⟨rfl, ?_⟩
      have := o ρ H _ (.refl _ _) s (VR_bl.mpr rfl)
      rwa [show decide (V.bl i = V.bl j) = decide (i = j) by simp]
    · split at hk
      · rename_i p q e1 e2
        split at hk
        · rename_i c
          rw [Bool.and_eq_true] at c
          cases hk
          exact .inr ⟨p, q, VR.dpS s r1 e1, VR.dpS s r2 e2, c.1, c.2, o ρ H _ (.refl _ _) s (VR_bl.mpr rfl)⟩
        · cases hk
      · cases hk
  · exact o.elim
theorem op2_eq (hu : X.A.units + 64 < cLine) : Op2 X W (compareOp .Eq) mEq := op2_eqs (g := id) op_eq (op_eqD hu)
theorem op2_ne (hu : X.A.units + 64 < cLine) : Op2 X W (compareOp .NotEq) mNe := op2_eqs (g := not) op_ne (op_neD hu)

/-! ### is -/
def mIsB (a b : D) : Option Bool := match b, a with
  | .bl y, .bl x => some (decide (x = y))
  | .non, .non => some true
  | .non, .opq _ => none
  | .non, _ => some false
  | _, _ => none
def mIs : D → D → C D := fun a b S => match mIsB a b with | some k => .ok (.bl k) S | none => .bad
def mIsNot : D → D → C D := fun a b S => match mIsB a b with | some k => .ok (.bl (!k)) S | none => .bad
theorem VR.nonD {K : PySem.W.Frag} {ρ : List Addr} {H : Hp} {d : D} {v : V} (h : VR K ρ H d v) (hd : d ≠ .non) (ho : ∀ u, d ≠ .opq u) : v ≠ .non := by
  cases d with
  | non => exact absurd rfl hd
  | bl b => rw [VR_bl] at h; subst h; intro z; cases z
  | int b => rw [VR_int] at h; subst h; intro z; cases z
  | str b => rw [VR_str] at h; subst h; intro z; cases z
  | tup b => obtain ⟨a, vs, rfl, _⟩ := VR_tup.mp h; intro z; cases z
  | fl b => obtain ⟨a, vs, rfl, _⟩ := VR_fl.mp h; intro z; cases z
  | ref b => obtain ⟨a, _, rfl⟩ := VR_ref.mp h; intro z; cases z
  | opq u => exact absurd rfl (ho u)
theorem op2_iss {f : Value → Value → Sem Value} {g : Bool → Bool} (h1 : OpR X f (fun x y H Q => ∃ a b, x = .bl a ∧ y = .bl b ∧ Q (.bl (g (decide (a = b)))) H))
    (h2 : OpR X f (fun x y H Q => y = .non ∧ Q (.bl (g (decide (x = .non)))) H)) : Op2 X W f (fun a b S => match mIsB a b with | some k => .ok (.bl (g k)) S | none => .bad) := by
  refine ⟨_, h1.or h2, fun ρ S H σ d e x y Q s r1 r2 o => ?_⟩
  dsimp only at o
  split at o
  · rename_i k hk
    have o' := o ρ H _ (.refl _ _) s (VR_bl.mpr rfl)
    unfold mIsB at hk
    split at hk
    · cases hk
      exact .inl ⟨_, _, VR_bl.mp r1, VR_bl.mp r2, o'⟩
    · cases hk
      rw [VR_non] at r1 r2; subst r1 r2
      exact .inr ⟨rfl, o'⟩
    · cases hk
    · rename_i n1 n2
      cases hk
      refine .inr ⟨VR_non.mp r2, ?_⟩
      rwa [decide_eq_false (VR.nonD r1 n1 n2)]
    · cases hk
  · exact o.elim
theorem op2_is : Op2 X W (compareOp .Is) mIs := op2_iss (g := id) op_is_bl op_isN
theorem op2_isNot : Op2 X W (compareOp .IsNot) mIsNot := op2_iss (g := not) op_isnot_bl op_notN
end
end Mir

namespace Mir
open PySem L2
section
variable {X : Cx} {W : WX} {a b c : Expr} {fa fb fc : ME} {pos : Pos}

/-! ### sequences -/
/-- the items of a list or tuple -/
def D.items (S : ST) : D → Option (List D)
  | .tup ds => some ds
  | .fl ds => some ds
  | .ref n => match S[n]? with | some (.lst ds) => some ds | _ => none
  | _ => none
theorem items_ok {ρ : List Addr} {S : ST} {H : Hp} {d : D} {v : V} {ds : List D} (s : Sim X.K X.mg ρ S H) (r : VR X.K ρ H d v) (h : d.items S = some ds) :
    ∃ p vs, v = .ref p ∧ (SqL X.K H p vs ∨ SqT X.K H p vs) ∧ VRs X.K ρ H ds vs := by
  unfold D.items at h
  split at h
  · cases h
    obtain ⟨p, vs, e, q, r⟩ := VR_tup.mp r
    exact ⟨p, vs, e, .inr q, r⟩
  · cases h
    obtain ⟨p, vs, e, q, r⟩ := VR_fl.mp r
    exact ⟨p, vs, e, .inl q.sql, r⟩
  · split at h
    · rename_i h1
      cases h
      obtain ⟨p, e, p1, vs, w1, v1⟩ := s.ref r h1
      exact ⟨p, vs, e, .inl (SqL.of w1), v1⟩
    · cases h
  · cases h

/-! ### in -/
def D.flat : D → Bool
  | .non => true | .bl _ => true | .int _ => true | .str _ => true | _ => false
def D.toV : D → V
  | .non => .non | .bl b => .bl b | .int i => .int i | .str x => .str x | _ => .non
def eqF : D → D → Bool
  | .int i, .int j => decide (i = j)
  | .str x, .str y => decide (x = y)
  | .bl x, .bl y => decide (x = y)
  | .non, .non => true
  | .bl x, .int j => decide ((if x then 1 else 0) = j)
  | .int i, .bl y => decide (i = if y then 1 else 0)
  | _, _ => false
theorem VR.flat {K : PySem.W.Frag} {ρ : List Addr} {H : Hp} {d : D} {v : V} (h : VR K ρ H d v) (f : d.flat = true) : v = d.toV ∧ flatV v = true := by
  cases d <;> first | (simp [D.flat] at f; done) | skip
  · rw [VR_non] at h; subst h; exact ⟨rfl, rfl⟩
  · rw [VR_bl] at h; subst h; exact ⟨rfl, rfl⟩
  · rw [VR_int] at h; subst h; exact ⟨rfl, rfl⟩
  · rw [VR_str] at h; subst h; exact ⟨rfl, rfl⟩
theorem VRs.flat {K : PySem.W.Frag} {ρ : List Addr} {H : Hp} : ∀ {ds : List D} {vs : List V}, VRs K ρ H ds vs → ds.all D.flat = true → vs = ds.map D.toV ∧ vs.all flatV = true
  | [], vs, h, f => by rw [h.nil_l]; exact ⟨rfl, rfl⟩
  | d :: ds, vs, h, f => by
    obtain ⟨v, r, rfl, h1, h2⟩ := h.cons_l
    rw [List.all_cons, Bool.and_eq_true] at f
    obtain ⟨e1, e2⟩ := h1.flat f.1
    obtain ⟨e3, e4⟩ := VRs.flat h2 f.2
    refine ⟨by rw [List.map_cons, ← e1, ← e3], by rw [List.all_cons, e2, e4]; rfl⟩
theorem eqV_toV {d e : D} (f : d.flat = true) (g : e.flat = true) : eqV d.toV e.toV = eqF d e := by
  cases d <;> first | (simp [D.flat] at f; done) | skip
  all_goals (cases e <;> first | (simp [D.flat] at g; done) | skip)
  all_goals first | rfl | (simp [D.toV, eqV, eqF, Bool.beq_eq_decide_eq])
theorem inV_toV {d : D} (f : d.flat = true) : ∀ {ds : List D}, ds.all D.flat = true → inV d.toV (ds.map D.toV) = ds.any fun y => eqF y d
  | [], _ => rfl
  | e :: ds, g => by
    rw [List.all_cons, Bool.and_eq_true] at g
    have ih := inV_toV f g.2
    unfold inV at ih ⊢
    rw [List.map_cons, List.any_cons, List.any_cons, ih, eqV_toV g.1 f]
def look {κ α : Type} [DecidableEq κ] (kvs : List (κ × α)) (k : κ) : Option α := (kvs.find? fun kv => decide (kv.1 = k)).map (·.2)
def VRo (K : PySem.W.Frag) (ρ : List Addr) (H : Hp) : Option D → Option V → Prop
  | some d, some v => VR K ρ H d v
  | none, none => True
  | _, _ => False
theorem FR.look {κ : Type} [DecidableEq κ] {K : PySem.W.Frag} {ρ : List Addr} {H : Hp} : ∀ {kvs : List (κ × D)} {ws : List (κ × V)} (k : κ), FR K ρ H kvs ws →
    VRo K ρ H (Mir.look kvs k) (valV ws k)
  | [], ws, k, h => by
    have : ws = [] := by
      have := h.1
      cases ws with
      | nil => rfl
      | cons _ _ => simp at this
    subst this
    simp [Mir.look, valV, VRo]
  | (j, d) :: kvs, [], k, h => by
    have := h.1
    simp at this
  | (j, d) :: kvs, (j', v) :: ws, k, h => by
    obtain ⟨h1, h2⟩ := h
    simp only [List.map_cons, List.cons.injEq] at h1 h2
    obtain ⟨rfl, h1⟩ := h1
    obtain ⟨r1, r2⟩ := h2.cons_inv
    by_cases e : j = k
    · subst e
      simp [Mir.look, valV, List.find?_cons]
      exact r1
    · have ih := FR.look (kvs := kvs) (ws := ws) k ⟨h1, r2⟩
      have e1 : Mir.look ((j, d) :: kvs) k = Mir.look kvs k := by simp [Mir.look, List.find?_cons, e]
      rw [e1, valV_neg e]
      exact ih
def D.key : D → Option Key
  | .int i => some (.inl i)
  | .str x => some (.inr x)
  | _ => none
theorem VR.key {K : PySem.W.Frag} {ρ : List Addr} {H : Hp} {d : D} {v : V} {k : Key} (h : VR K ρ H d v) (e : d.key = some k) : v = kV k := by
  unfold D.key at e
  split at e
  · cases e; exact VR_int.mp h
  · cases e; exact VR_str.mp h
  · cases e
/-- what a dict holds -/
def D.isDict (S : ST) : D → Bool
  | .ref n => match S[n]? with | some (.dk _) => true | some (.dt _) => true | _ => false
  | _ => false
def dGet (S : ST) (d k : D) : Option (Option D) := match d with
  | .ref n => match S[n]? with
    | some (.dk kvs) => k.key.map fun k => look kvs k
    | _ => none
  | _ => none
theorem dGet_ok {ρ : List Addr} {S : ST} {H : Hp} {d k : D} {v u : V} {o : Option D} (s : Sim X.K X.mg ρ S H) (r : VR X.K ρ H d v) (rk : VR X.K ρ H k u) (h : dGet S d k = some o) :
    ∃ a w, v = .ref a ∧ DGet H a u w ∧ VRo X.K ρ H o w := by
  cases d with
  | ref n =>
    unfold dGet at h
    dsimp only at h
    split at h
    · rename_i h1
      obtain ⟨a, e, p1, ws, w1, v1⟩ := s.ref r h1
      simp only [Option.map_eq_some_iff] at h
      obtain ⟨k', e1, rfl⟩ := h
      have e2 := rk.key e1
      subst e2
      exact ⟨a, _, e, DGet.k w1, v1.look k'⟩
    · cases h
  | _ => cases h
def inB (S : ST) (a b : D) : Option Bool := match b with
  | .str z => match a with
    | .str x => if x.cps.size = 1 then some (decide (x.cps.getD 0 0 ∈ z.cps.toList)) else some (!(Builtin.Str.occurrences z x 0 z.length 1).isEmpty)
    | _ => none
  | b => match b.items S with
    | some ds => if (a.flat && ds.all D.flat) = true then some (ds.any fun y => eqF y a) else
        match b.pyS S, a.py with
        | some (.list ps), some p => if (SeqAt.shaped p && SeqAt.shaped (.list ps)) = true then some (ps.any fun z => PyData.eqv z p) else none
        | _, _ => none
    | none => none
def mInG (g : Bool → Bool) : D → D → C D := fun a b S => if b.isDict S = true then (match dGet S b a with | some o => .ok (.bl (g o.isSome)) S | none => .bad) else match inB S a b with | some k => .ok (.bl (g k)) S | none => .bad
def mIn : D → D → C D := mInG id
def mNotIn : D → D → C D := mInG not
theorem str_one {x : Str} (h : x.cps.size = 1) : x = ⟨#[x.cps.getD 0 0]⟩ := by
  obtain ⟨⟨l⟩⟩ := x
  match l, h with
  | [c], _ => rfl
abbrev rInA (X : Cx) (g : Bool → Bool) : R2 := fun x y H Q => (∃ (c : Nat) (z : Str), x = .str ⟨#[c]⟩ ∧ y = .str z ∧ Q (.bl (g (decide (c ∈ z.cps.toList)))) H) ∨
  (∃ i j, x = .str i ∧ y = .str j ∧ Q (.bl (g (!(Builtin.Str.occurrences j i 0 j.length 1).isEmpty))) H) ∨
  (∃ p xs, y = .ref p ∧ (SqL X.K H p xs ∨ SqT X.K H p xs) ∧ flatV x = true ∧ xs.all flatV = true ∧ Q (.bl (g (inV x xs))) H) ∨
  (∃ d ds, Dp X.K H x d ∧ Dp X.K H y (.list ds) ∧ SeqAt.shaped d = true ∧ SeqAt.shaped (.list ds) = true ∧ Q (.bl (g (ds.any fun z => PyData.eqv z d))) H)
theorem in_split {g : Bool → Bool} {ρ : List Addr} {S : ST} {H : Hp} {d e : D} {x y : V} {Q : VK} {k : Bool} (s : Sim X.K X.mg ρ S H) (r1 : VR X.K ρ H d x) (r2 : VR X.K ρ H e y) (hk : inB S d e = some k) (q : Q (.bl (g k)) H) :
    rInA X g x y H Q := by
  unfold inB at hk
  split at hk
  · split at hk
    · rename_i z x'
      rw [VR_str] at r1 r2
      subst r1 r2
      split at hk
      · rename_i h1
        cases hk
        refine .inl ⟨_, _, ?_, rfl, q⟩
        rw [← str_one h1]
      · cases hk
        exact .inr (.inl ⟨_, _, rfl, rfl, q⟩)
    · cases hk
  · split at hk
    · rename_i ds hi
      obtain ⟨p, vs, e1, q1, v1⟩ := items_ok s r2 hi
      split at hk
      · rename_i hf
        rw [Bool.and_eq_true] at hf
        cases hk
        obtain ⟨e2, f2⟩ := r1.flat hf.1
        obtain ⟨e3, f3⟩ := v1.flat hf.2
        refine .inr (.inr (.inl ⟨p, vs, e1, q1, f2, f3, ?_⟩))
        rw [e2, e3, inV_toV hf.1 hf.2]
        exact q
      · split at hk
        · rename_i ps p' h1 h2
          split at hk
          · rename_i c
            rw [Bool.and_eq_true] at c
            cases hk
            exact .inr (.inr (.inr ⟨_, _, VR.dp r1 h2, VR.dpS s r2 h1, c.1, c.2, q⟩))
          · cases hk
        · cases hk
    · cases hk
theorem e2_or {m m1 m2 : D → D → C D} {σ : St} {H : Hp} {Q : VK} (hm : ∀ a b S, m a b S = m1 a b S ∨ m a b S = m2 a b S) (h : tE X W (e2 m fa fb) σ H Q) : tE X W (e2 m1 fa fb) σ H Q ∨ tE X W (e2 m2 fa fb) σ H Q := by
  obtain ⟨ρ, G, S, g, s, o⟩ := h
  have key : e2 m fa fb G S = e2 m1 fa fb G S ∨ e2 m fa fb G S = e2 m2 fa fb G S := by
    unfold e2
    cases fa G S with
    | ok a S1 =>
      simp only [R.bind_ok]
      cases fb G S1 with
      | ok b S2 => simp only [R.bind_ok]; exact hm a b S2
      | exc c fs S => exact .inl rfl
      | bad => exact .inl rfl
    | exc c fs S => exact .inl rfl
    | bad => exact .inl rfl
  rcases key with k | k
  · rw [k] at o; exact .inl ⟨ρ, G, S, g, s, o⟩
  · rw [k] at o; exact .inr ⟨ρ, G, S, g, s, o⟩
def mInS (g : Bool → Bool) : D → D → C D := fun a b S => match inB S a b with | some k => .ok (.bl (g k)) S | none => .bad
def mInD (g : Bool → Bool) : D → D → C D := fun a b S => match dGet S b a with | some o => .ok (.bl (g o.isSome)) S | none => .bad
theorem mInG_or (g : Bool → Bool) (a b : D) (S : ST) : mInG g a b S = mInS g a b S ∨ mInG g a b S = mInD g a b S := by
  unfold mInG
  split
  · exact .inr rfl
  · exact .inl rfl
theorem inS_end {g : Bool → Bool} (ρ : List Addr) (S : ST) (H : Hp) (σ : St) (d e : D) (x y : V) (Q : VK) (s : Sim X.K X.mg ρ S H) (r1 : VR X.K ρ H d x) (r2 : VR X.K ρ H e y) (o : OutG X W (rV X) ρ σ H (mInS g d e S) Q) : rInA X g x y H Q := by
  unfold mInS at o
  split at o
  · rename_i k hk
    exact in_split s r1 r2 hk (o ρ H _ (.refl _ _) s (VR_bl.mpr rfl))
  · exact o.elim
theorem inD_end {g : Bool → Bool} (ρ : List Addr) (S : ST) (H : Hp) (σ : St) (d e : D) (x y : V) (Q : VK) (s : Sim X.K X.mg ρ S H) (r1 : VR X.K ρ H d x) (r2 : VR X.K ρ H e y) (o : OutG X W (rV X) ρ σ H (mInD g d e S) Q) :
    ∃ a o, y = .ref a ∧ DGet H a x o ∧ Q (.bl (g o.isSome)) H := by
  unfold mInD at o
  split at o
  · rename_i o' hk
    obtain ⟨a, w, e2, g1, m⟩ := dGet_ok s r2 r1 hk
    refine ⟨a, w, e2, g1, ?_⟩
    have : w.isSome = o'.isSome := by
      cases o' <;> cases w <;> first | rfl | exact m.elim
    rw [this]
    exact o ρ H _ (.refl _ _) s (VR_bl.mpr rfl)
  · exact o.elim
theorem op_inA (hu : X.A.units + 65 < cLine) : OpR X (compareOp .In) (rInA X id) := op_in_sign.or (op_in_str.or (op_in_seq.or (op_inD hu)))
theorem op_notInA (hu : X.A.units + 65 < cLine) : OpR X (compareOp .NotIn) (rInA X not) := op_notIn_sign.or (op_notin_str.or (op_notIn_seq.or (op_notInD hu)))
theorem de_in (hu : X.A.units + 65 < cLine) (ha : DE X W a fa) (hb : DE X W b fb) (hm : behindInMarks .In b = false := by rfl) : DE X W (.Compare a [.In] [b] pos) (e2 mIn fa fb) :=
  PE.weak (PE.orr (pe_cmpR (op_inA hu) ha hb hm) (pe_cmp (pc_din (by omega) ha hb) hm)) fun σ H Q h =>
    (e2_or (mInG_or id) h).elim (fun h => .inl (two inS_end h)) fun h => .inr (two (r := fun x y H Q => ∃ a o, y = .ref a ∧ DGet H a x o ∧ Q (.bl (id o.isSome)) H) inD_end h)
theorem de_notIn (hu : X.A.units + 65 < cLine) (ha : DE X W a fa) (hb : DE X W b fb) (hm : behindInMarks .NotIn b = false := by rfl) : DE X W (.Compare a [.NotIn] [b] pos) (e2 mNotIn fa fb) :=
  PE.weak (PE.orr (pe_cmpR (op_notInA hu) ha hb hm) (pe_cmp (pc_dnotin (by omega) ha hb) hm)) fun σ H Q h =>
    (e2_or (mInG_or not) h).elim (fun h => .inl (two inS_end h)) fun h => .inr (two (r := fun x y H Q => ∃ a o, y = .ref a ∧ DGet H a x o ∧ Q (.bl (not o.isSome)) H) inD_end h)
theorem dt_in (hu : X.A.units + 65 < cLine) (ha : DE X W a fa) (hb : DE X W b fb) (hm : behindInMarks .In b = false := by rfl) : DT X W (.Compare a [.In] [b] pos) (tb (e2 mIn fa fb)) :=
  ⟨fun pins s σ H Q I q => by
    have q1 : tTest (tOp (rInA X id) (tE X W fa) (tE X W fb)) σ H Q ∨ tTest (tDIn (tE X W fa) (tE X W fb)) σ H Q := by
      obtain ⟨ρ, G, S, g, s', o⟩ := q
      have o1 : tE X W (e2 mIn fa fb) σ H (fun x H' => ∃ k, x = .bl k ∧ Q k H') := by
        refine tb_test (t := tE X W (e2 mIn fa fb)) (fun Q h => h) ⟨ρ, G, S, g, s', o⟩
      exact (e2_or (mInG_or id) o1).elim (fun h => .inl (two inS_end h)) fun h => .inr (two (r := fun x y H Q => ∃ a o, y = .ref a ∧ DGet H a x o ∧ Q (.bl (id o.isSome)) H) inD_end h)
    exact q1.elim ((pt_cmpR (op_inA hu) ha hb hm).run pins s σ H Q I) ((pt_cmp (pc_din (by omega) ha hb) hm).run pins s σ H Q I)⟩
theorem dt_notIn (hu : X.A.units + 65 < cLine) (ha : DE X W a fa) (hb : DE X W b fb) (hm : behindInMarks .NotIn b = false := by rfl) : DT X W (.Compare a [.NotIn] [b] pos) (tb (e2 mNotIn fa fb)) :=
  ⟨fun pins s σ H Q I q => by
    have q1 : tTest (tOp (rInA X not) (tE X W fa) (tE X W fb)) σ H Q ∨ tTest (tDNotIn (tE X W fa) (tE X W fb)) σ H Q := by
      have o1 : tE X W (e2 mNotIn fa fb) σ H (fun x H' => ∃ k, x = .bl k ∧ Q k H') := tb_test (t := tE X W (e2 mNotIn fa fb)) (fun Q h => h) q
      exact (e2_or (mInG_or not) o1).elim (fun h => .inl (two inS_end h)) fun h => .inr (two (r := fun x y H Q => ∃ a o, y = .ref a ∧ DGet H a x o ∧ Q (.bl (not o.isSome)) H) inD_end h)
    exact q1.elim ((pt_cmpR (op_notInA hu) ha hb hm).run pins s σ H Q I) ((pt_cmp (pc_dnotin (by omega) ha hb) hm).run pins s σ H Q I)⟩

/-! ### subscripts -/
theorem VRs.atI {K : PySem.W.Frag} {ρ : List Addr} {H : Hp} {ds : List D} {vs : List V} {i : Int} {d : D} (h : VRs K ρ H ds vs) (e : atI ds i = some d) : ∃ v, L2.atI vs i = some v ∧ VR K ρ H d v := by
  unfold L2.atI at e ⊢
  rw [← h.length]
  cases q : ixN ds.length i with
  | none => rw [q] at e; cases e
  | some j =>
    rw [q] at e
    exact h.get (i := j) e
def ixS (S : ST) (a b : D) : Option D := match b with
  | .int i => match a with
    | .str z => if z.length ≤ SZ then (atI z.cps.toList i).map fun c => .str ⟨#[c]⟩ else none
    | a => match a.items S with | some ds => atI ds i | none => none
  | _ => none
def mIxS : D → D → C D := fun a b S => match ixS S a b with | some d => .ok d S | none => .bad
def mIxD : D → D → C D := fun a b S => match dGet S a b with | some (some d) => .ok d S | _ => .bad
/-- a[b] -/
def mIx : D → D → C D := fun a b S => if a.isDict S = true then mIxD a b S else mIxS a b S
theorem mIx_or (a b : D) (S : ST) : mIx a b S = mIxS a b S ∨ mIx a b S = mIxD a b S := by
  unfold mIx
  split
  · exact .inr rfl
  · exact .inl rfl
theorem ixS_end (ρ : List Addr) (S : ST) (H : Hp) (σ : St) (d e : D) (x y : V) (Q : VK) (s : Sim X.K X.mg ρ S H) (r1 : VR X.K ρ H d x) (r2 : VR X.K ρ H e y) (o : OutG X W (rV X) ρ σ H (mIxS d e S) Q) : rIx X.K x y H Q := by
  unfold mIxS at o
  split at o
  · rename_i v hv
    unfold ixS at hv
    split at hv
    · split at hv
      · split at hv
        · rename_i hz
          rw [Option.map_eq_some_iff] at hv
          obtain ⟨c, e1, rfl⟩ := hv
          exact .inr (.inr ⟨_, _, c, VR_str.mp r1, VR_int.mp r2, by rw [sizeLine_eq]; exact hz, e1, o ρ H _ (.refl _ _) s (VR_str.mpr rfl)⟩)
        · cases hv
      · split at hv
        · rename_i hi
          obtain ⟨p, vs, e1, q1, v1⟩ := items_ok s r1 hi
          obtain ⟨w, e2, r⟩ := v1.atI hv
          rcases q1 with q1 | q1
          · exact .inl ⟨p, vs, _, w, e1, VR_int.mp r2, q1, e2, o ρ H _ (.refl _ _) s r⟩
          · exact .inr (.inl ⟨p, vs, _, w, e1, VR_int.mp r2, q1, e2, o ρ H _ (.refl _ _) s r⟩)
        · cases hv
    · cases hv
  · exact o.elim
theorem ixD_end (ρ : List Addr) (S : ST) (H : Hp) (σ : St) (d e : D) (x y : V) (Q : VK) (s : Sim X.K X.mg ρ S H) (r1 : VR X.K ρ H d x) (r2 : VR X.K ρ H e y) (o : OutG X W (rV X) ρ σ H (mIxD d e S) Q) : ∃ a v, x = .ref a ∧ DGet H a y (some v) ∧ Q v H := by
  unfold mIxD at o
  split at o
  · rename_i v hv
    obtain ⟨a, w, e2, g1, m⟩ := dGet_ok s r1 r2 hv
    cases w with
    | none => exact m.elim
    | some w => exact ⟨a, w, e2, g1, o ρ H _ (.refl _ _) s m⟩
  · exact o.elim
theorem de_ix (hu : X.A.units + 65 < cLine) (ha : DE X W a fa) (hb : DE X W b fb) (hs : ∀ o i, subscripted b false o i = operate [o, i] (getItem o i) := by intro _ _; rfl) : DE X W (.Subscript a b pos) (e2 mIx fa fb) :=
  PE.weak (PE.orr (pe_ix ix_seq ha hb hs) (pe_dget (by omega) ha hb hs)) fun σ H Q h =>
    (e2_or mIx_or h).elim (fun h => .inl (two ixS_end h)) fun h => .inr (two (r := fun x y H Q => ∃ a v, x = .ref a ∧ DGet H a y (some v) ∧ Q v H) ixD_end h)

/-! ### slices -/
theorem VRs.cut {K : PySem.W.Frag} {ρ : List Addr} {H : Hp} {ds : List D} {vs : List V} (h : VRs K ρ H ds vs) (lo hi : Option Int) : VRs K ρ H ((ds.drop (HT.sIx ds.length 0 lo)).take (HT.sIx ds.length ds.length hi - HT.sIx ds.length 0 lo)) (cutV vs lo hi) := by
  unfold cutV
  rw [← h.length]
  exact (h.drop _).take _
def cutD (ds : List D) (lo hi : Option Int) : List D := (ds.drop (HT.sIx ds.length 0 lo)).take (HT.sIx ds.length ds.length hi - HT.sIx ds.length 0 lo)
abbrev MO := GE → ST → R (Option Int)
abbrev DO (X : Cx) (W : WX) (e : Option Expr) (f : MO) : Prop := PO X e (tG X W (fun _ _ a b => b = a) f)
def oNone : MO := fun _ S => .ok none S
def oSome (f : ME) : MO := fun G S => (f G S).bind fun d S1 => match d with | .int i => .ok (some i) S1 | _ => .bad
theorem PO.weak {X : Cx} {e : Option Expr} {t t' : TO} (h : PO X e t) (i : ∀ σ H Q, t' σ H Q → t σ H Q) : PO X e t' := ⟨fun pins s σ H Q I q => h.run pins s σ H Q I (i σ H Q q)⟩
theorem do_none : DO X W none oNone := PO.weak po_none fun σ H Q h => by
  obtain ⟨ρ, G, S, g, s, o⟩ := h
  exact o ρ H none (.refl _ _) s rfl
theorem do_some (ha : DE X W a fa) : DO X W (some a) (oSome fa) := PO.weak (po_some ha) fun σ H Q h => by
  refine tG_mono (tG_bind (f := fa) (g := fun d G S1 => match d with | .int i => R.ok (some i) S1 | _ => .bad) h) fun x H1 q => ?_
  obtain ⟨ρ, G, S, d, g, s, r1, o⟩ := q
  cases d <;> first | exact o.elim | skip
  rename_i i
  exact ⟨i, VR_int.mp r1, o ρ H1 _ (.refl _ _) s rfl⟩
def mSl (d : D) (lo hi : Option Int) : C D := fun S => match d with
  | .tup ds => .ok (.tup (cutD ds lo hi)) S
  | .str z => if z.length ≤ SZ then .ok (.str (cutS z lo hi)) S else .bad
  | d => match d.items S with | some ds => allocO (.lst (cutD ds lo hi)) S | none => .bad
def eSl (fe : ME) (fl fh : MO) : ME := fun G S => (fe G S).bind fun d S1 => (fl G S1).bind fun lo S2 => (fh G S2).bind fun hi S3 => mSl d lo hi S3
theorem cut_all (ds : List D) (lo hi : Option Int) (h : HT.sIx ds.length 0 lo = 0 ∧ HT.sIx ds.length ds.length hi = ds.length) : cutD ds lo hi = ds := by
  unfold cutD
  rw [h.1, h.2]
  simp
theorem de_slice {lo hi : Option Expr} {fl fh : MO} {p2 : Pos} (ha : DE X W a fa) (hl : DO X W lo fl) (hh : DO X W hi fh) : DE X W (.Subscript a (.Slice lo hi none p2) pos) (eSl fa fl fh) := by
  refine PE.weak (pe_slice (sl_tupA.or (sl_str.or sl_list)) ha hl hh) fun σ H Q h => ?_
  refine tG_mono (tG_bind (f := fa) (g := fun d G S1 => (fl G S1).bind fun lo S2 => (fh G S2).bind fun hi S3 => mSl d lo hi S3) h) fun x H1 q => ?_
  obtain ⟨ρ, G, S, d, g, s, r1, o⟩ := q
  refine ⟨ρ, G, S, g, s, OutG.mono (out_bind (rel := fun _ _ a b => b = a) o) (.refl _ _) fun y H2 q2 => ?_⟩
  obtain ⟨ρ2, S2, e, x2, s2, r2, o2⟩ := q2
  subst r2
  refine ⟨ρ2, G, S2, g.mono x2, s2, OutG.mono (out_bind (rel := fun _ _ a b => b = a) o2) (.refl _ _) fun z H3 q3 => ?_⟩
  obtain ⟨ρ3, S3, e3, x3, s3, r3, o3⟩ := q3
  subst r3
  have rd : VR X.K ρ3 H3 d x := VR.mono (x2.trans x3) r1
  unfold mSl at o3
  split at o3
  · obtain ⟨p, vs, e1, q1, v1⟩ := VR_tup.mp rd
    refine .inl ⟨p, vs, e1, q1, fun c => ?_, fun c => ?_⟩
    · rw [← v1.length] at c
      rw [cut_all _ _ _ c] at o3
      exact o3 ρ3 H3 _ (.refl _ _) s3 (VR_tup.mpr ⟨p, vs, rfl, q1, v1⟩)
    · exact new_tup s3 o3 (v1.cut y z)
  · split at o3
    · rename_i hz
      exact .inr (.inl ⟨_, VR_str.mp rd, by rw [sizeLine_eq]; exact hz, o3 ρ3 H3 _ (.refl _ _) s3 (VR_str.mpr rfl)⟩)
    · exact o3.elim
  · rename_i nt ns
    split at o3
    · rename_i ds hi'
      cases d with
      | tup ds => exact absurd rfl (nt ds)
      | fl ds =>
        obtain ⟨p, vs, e1, q1, v1⟩ := VR_fl.mp rd
        cases hi'
        exact .inr (.inr ⟨p, vs, e1, q1.sql, alloc_lst s3 o3 (v1.cut y z)⟩)
      | ref n =>
        obtain ⟨p, vs, e1, q1, v1⟩ := items_ok s3 rd hi'
        unfold D.items at hi'
        dsimp only at hi'
        split at hi'
        · rename_i h1
          cases hi'
          obtain ⟨p, e1, p1, vs, w1, v1⟩ := s3.ref rd h1
          exact .inr (.inr ⟨p, vs, e1, SqL.of w1, alloc_lst s3 o3 (v1.cut y z)⟩)
        · cases hi'
      | _ => cases hi'
    · exact o3.elim
def mRev (d : D) : C D := fun S => match d with
  | .tup _ => .bad
  | d => match d.items S with | some ds => allocO (.lst ds.reverse) S | none => .bad
theorem de_rev {k : Nat} {p1 p2 p3 : Pos} (ha : DE X W a fa) : DE X W (.Subscript a (.Slice none none (some (.UnaryOp .USub (.Constant (.int 1) k p1) p2)) p3) pos) (e1 mRev fa) := by
  refine PE.weak (pe_revL ha) fun σ H Q h => ?_
  refine one (r := fun x H1 Q => ∃ a xs, x = .ref a ∧ SqL X.K H1 a xs ∧ ∀ p, H1 p = none → Q (.ref p) (upd H1 p (.lst xs.reverse))) (fun ρ S H σ d x Q s rd o3 => ?_) h
  unfold mRev at o3
  split at o3
  · exact o3.elim
  · rename_i nt
    split at o3
    · rename_i ds hi'
      cases d with
      | tup ds => exact absurd rfl (nt ds)
      | fl ds =>
        obtain ⟨p, vs, e1, q1, v1⟩ := VR_fl.mp rd
        cases hi'
        exact ⟨p, vs, e1, q1.sql, alloc_lst s o3 v1.reverse⟩
      | ref n =>
        unfold D.items at hi'
        dsimp only at hi'
        split at hi'
        · rename_i h1
          cases hi'
          obtain ⟨p, e1, p1, vs, w1, v1⟩ := s.ref rd h1
          exact ⟨p, vs, e1, SqL.of w1, alloc_lst s o3 v1.reverse⟩
        · cases hi'
      | _ => cases hi'
    · exact o3.elim

/-! ### truth -/
def truD (S : ST) : D → Option Bool
  | .non => some false
  | .bl b => some b
  | .int i => some (decide (i ≠ 0))
  | .str z => if z.length ≤ SZ then some (decide (z.length ≠ 0)) else none
  | .ref n => match S[n]? with
    | some (.lst ds) => some (!ds.isEmpty)
    | some (.dk kvs) => some (!kvs.isEmpty)
    | _ => none
  | .tup ds => some (!ds.isEmpty)
  | .fl ds => some (!ds.isEmpty)
  | .opq _ => none
theorem VRs.empty {K : PySem.W.Frag} {ρ : List Addr} {H : Hp} {ds : List D} {vs : List V} (h : VRs K ρ H ds vs) : (!ds.isEmpty) = !vs.isEmpty := by
  cases ds with
  | nil => rw [h.nil_l]; rfl
  | cons d ds => obtain ⟨v, r, rfl, _⟩ := h.cons_l; rfl
theorem truD_ok {ρ : List Addr} {S : ST} {H : Hp} {d : D} {v : V} {k : Bool} (s : Sim X.K X.mg ρ S H) (r : VR X.K ρ H d v) (h : truD S d = some k) : TruV X.K v H k := by
  cases d with
  | non => rw [VR_non] at r; subst r; cases h; exact rfl
  | bl b => rw [VR_bl] at r; subst r; cases h; exact rfl
  | int i =>
    rw [VR_int] at r; subst r; cases h
    show decide (i ≠ 0) = (i != 0)
    by_cases e : i = 0 <;> simp [e]
  | str z =>
    rw [VR_str] at r; subst r
    simp only [truD] at h
    split at h
    · rename_i hz
      cases h
      refine ⟨by rw [sizeLine_eq]; exact hz, ?_⟩
      by_cases e : z.length = 0 <;> simp [e]
    · cases h
  | tup ds =>
    obtain ⟨p, vs, rfl, q, v1⟩ := VR_tup.mp r
    cases h
    exact .inr (.inl ⟨vs, q, v1.empty⟩)
  | fl ds =>
    obtain ⟨p, vs, rfl, q, v1⟩ := VR_fl.mp r
    cases h
    exact .inl ⟨vs, q.sql, v1.empty⟩
  | ref n =>
    unfold truD at h
    dsimp only at h
    split at h
    · rename_i h1
      cases h
      obtain ⟨p, rfl, p1, vs, w1, v1⟩ := s.ref r h1
      exact .inl ⟨vs, SqL.of w1, v1.empty⟩
    · rename_i h1
      cases h
      obtain ⟨p, rfl, p1, ws, w1, v1⟩ := s.ref r h1
      refine .inr (.inr ⟨ws, w1, ?_⟩)
      have e := congrArg List.length v1.1
      rw [List.length_map, List.length_map] at e
      rename_i kvs
      cases ws <;> cases kvs <;> simp_all
    · cases h
  | opq u => cases h
def tTru (f : ME) : MT := fun G S => (f G S).bind fun d S1 => match truD S1 d with | some k => .ok k S1 | none => .bad
theorem dt_tru (ha : DE X W a fa) (he : ∀ whole, isTrue a X.env whole = (do let v ← whole; standAt a.pos; holding [v] (truthy v)) := by intro _; rfl) : DT X W a (tTru fa) := by
  refine PT.weak (pt_truth ha he) fun σ H Q h => ?_
  refine tG_mono (tG_bind (f := fa) (g := fun d G S1 => match truD S1 d with | some k => R.ok k S1 | none => .bad) h) fun x H1 q => ?_
  obtain ⟨ρ, G, S, d, g, s, r1, o⟩ := q
  split at o
  · rename_i k hk
    exact ⟨k, truD_ok s r1 hk, o ρ H1 k (.refl _ _) s rfl⟩
  · exact o.elim

/-! ### and, or, not -/
variable {ga gb : MT} {rest : List Expr}
def tAnd (f g : MT) : MT := fun G S => (f G S).bind fun b S1 => if b = true then g G S1 else .ok false S1
def tOr (f g : MT) : MT := fun G S => (f G S).bind fun b S1 => if b = true then .ok true S1 else g G S1
def tNot (f : MT) : MT := fun G S => (f G S).bind fun b S1 => .ok (!b) S1
theorem dw_and1 (ha : DT X W a ga) : DW X W (.BoolOp .And [a] pos) ga := pw_and1 ha
theorem dw_or1 (ha : DT X W a ga) : DW X W (.BoolOp .Or [a] pos) ga := pw_or1 ha
theorem dw_and (ha : DT X W a ga) (hb : DW X W (.BoolOp .And (b :: rest) pos) gb) : DW X W (.BoolOp .And (a :: b :: rest) pos) (tAnd ga gb) := by
  refine PW.weak (pw_and ha hb) fun σ H Q h => ?_
  refine tG_mono (tG_bind (f := ga) (g := fun b G S1 => if b = true then gb G S1 else R.ok false S1) h) fun x H1 q => ?_
  obtain ⟨ρ, G, S, d, g, s, r1, o⟩ := q
  have r1 : x = d := r1
  subst r1
  by_cases c : x = true
  · rw [if_pos c] at o ⊢
    exact ⟨ρ, G, S, g, s, o⟩
  · rw [if_neg c] at o ⊢
    exact o ρ H1 _ (.refl _ _) s rfl
theorem dw_or (ha : DT X W a ga) (hb : DW X W (.BoolOp .Or (b :: rest) pos) gb) : DW X W (.BoolOp .Or (a :: b :: rest) pos) (tOr ga gb) := by
  refine PW.weak (pw_or ha hb) fun σ H Q h => ?_
  refine tG_mono (tG_bind (f := ga) (g := fun b G S1 => if b = true then R.ok true S1 else gb G S1) h) fun x H1 q => ?_
  obtain ⟨ρ, G, S, d, g, s, r1, o⟩ := q
  have r1 : x = d := r1
  subst r1
  by_cases c : x = true
  · rw [if_pos c] at o ⊢
    exact o ρ H1 _ (.refl _ _) s rfl
  · rw [if_neg c] at o ⊢
    exact ⟨ρ, G, S, g, s, o⟩
theorem dt_w (h : DW X W a ga) : DT X W a ga := h.pt
theorem dt_not (ha : DT X W a ga) : DT X W (.UnaryOp .Not a pos) (tNot ga) := by
  refine PT.weak (pt_not ha) fun σ H Q h => ?_
  refine tG_mono (tG_bind (f := ga) (g := fun b G S1 => R.ok (!b) S1) h) fun x H1 q => ?_
  obtain ⟨ρ, G, S, d, g, s, r1, o⟩ := q
  have r1 : x = d := r1
  subst r1
  exact o ρ H1 _ (.refl _ _) s rfl
/-- as values -/
def eAnd (f g : ME) : ME := fun G S => (f G S).bind fun d S1 => match truD S1 d with | some true => g G S1 | some false => .ok d S1 | none => .bad
def eOr (f g : ME) : ME := fun G S => (f G S).bind fun d S1 => match truD S1 d with | some true => .ok d S1 | some false => g G S1 | none => .bad
def eNot (f : ME) : ME := fun G S => (f G S).bind fun d S1 => match truD S1 d with | some k => .ok (.bl (!k)) S1 | none => .bad
theorem de_one {op} (ha : DE X W a fa) : DE X W (.BoolOp op [a] pos) fa := pe_one ha
theorem de_and (ha : DE X W a fa) (hb : DE X W (.BoolOp .And (b :: rest) pos) fb) : DE X W (.BoolOp .And (a :: b :: rest) pos) (eAnd fa fb) := by
  refine PE.weak (pe_andT ha hb) fun σ H Q h => ?_
  refine tG_mono (tG_bind (f := fa) (g := fun d G S1 => match truD S1 d with | some true => fb G S1 | some false => R.ok d S1 | none => .bad) h) fun x H1 q => ?_
  obtain ⟨ρ, G, S, d, g, s, r1, o⟩ := q
  split at o
  · rename_i hk
    exact ⟨true, truD_ok s r1 hk, by rw [if_pos rfl]; exact ⟨ρ, G, S, g, s, o⟩⟩
  · rename_i hk
    exact ⟨false, truD_ok s r1 hk, by rw [if_neg (by decide)]; exact o ρ H1 _ (.refl _ _) s r1⟩
  · exact o.elim
theorem de_or (ha : DE X W a fa) (hb : DE X W (.BoolOp .Or (b :: rest) pos) fb) : DE X W (.BoolOp .Or (a :: b :: rest) pos) (eOr fa fb) := by
  refine PE.weak (pe_orT ha hb) fun σ H Q h => ?_
  refine tG_mono (tG_bind (f := fa) (g := fun d G S1 => match truD S1 d with | some true => R.ok d S1 | some false => fb G S1 | none => .bad) h) fun x H1 q => ?_
  obtain ⟨ρ, G, S, d, g, s, r1, o⟩ := q
  split at o
  · rename_i hk
    exact ⟨true, truD_ok s r1 hk, by rw [if_pos rfl]; exact o ρ H1 _ (.refl _ _) s r1⟩
  · rename_i hk
    exact ⟨false, truD_ok s r1 hk, by rw [if_neg (by decide)]; exact ⟨ρ, G, S, g, s, o⟩⟩
  · exact o.elim
theorem de_not (ha : DE X W a fa) : DE X W (.UnaryOp .Not a pos) (eNot fa) := by
  refine PE.weak (pe_notT ha) fun σ H Q h => ?_
  refine tG_mono (tG_bind (f := fa) (g := fun d G S1 => match truD S1 d with | some k => R.ok (D.bl (!k)) S1 | none => .bad) h) fun x H1 q => ?_
  obtain ⟨ρ, G, S, d, g, s, r1, o⟩ := q
  split at o
  · rename_i k hk
    exact ⟨k, truD_ok s r1 hk, o ρ H1 _ (.refl _ _) s (VR_bl.mpr rfl)⟩
  · exact o.elim
def eIf (t : MT) (f g : ME) : ME := fun G S => (t G S).bind fun b S1 => if b = true then f G S1 else g G S1
theorem de_ifExp (hc : DT X W c ga) (ha : DE X W a fa) (hb : DE X W b fb) : DE X W (.IfExp c a b pos) (eIf ga fa fb) := by
  refine PE.weak (pe_ifExp hc ha hb) fun σ H Q h => ?_
  refine tG_mono (tG_bind (f := ga) (g := fun b G S1 => if b = true then fa G S1 else fb G S1) h) fun x H1 q => ?_
  obtain ⟨ρ, G, S, d, g, s, r1, o⟩ := q
  have r1 : x = d := r1
  subst r1
  by_cases c : x = true
  · rw [if_pos c] at o ⊢
    exact ⟨ρ, G, S, g, s, o⟩
  · rw [if_neg c] at o ⊢
    exact ⟨ρ, G, S, g, s, o⟩
/-- a op b op' c -/
def eChain (m m' : D → D → C D) (fa fb fc : ME) : ME := fun G S => (fa G S).bind fun a S1 => (fb G S1).bind fun b S2 => (m a b S2).bind fun k S3 => match k with
  | .bl true => (fc G S3).bind fun c S4 => m' b c S4
  | .bl false => .ok (.bl false) S3
  | _ => .bad
theorem chain_end {m m' : D → D → C D} {r r' : R2} {σ : St} {H : Hp} {Q : VK}
    (hr : ∀ (ρ : List Addr) (S : ST) (H : Hp) (σ : St) (d e : D) (x y : V) (Q : VK), Sim X.K X.mg ρ S H → VR X.K ρ H d x → VR X.K ρ H e y → OutG X W (rV X) ρ σ H (m d e S) Q → r x y H Q)
    (hr' : ∀ (ρ : List Addr) (S : ST) (H : Hp) (σ : St) (d e : D) (x y : V) (Q : VK), Sim X.K X.mg ρ S H → VR X.K ρ H d x → VR X.K ρ H e y → OutG X W (rV X) ρ σ H (m' d e S) Q → r' x y H Q)
    (h : tE X W (eChain m m' fa fb fc) σ H Q) : tChain r r' (tE X W fa) (tE X W fb) (tE X W fc) σ H Q := by
  refine tG_mono (tG_bind (f := fa) (g := fun a G S1 => (fb G S1).bind fun b S2 => (m a b S2).bind fun k S3 => match k with
    | .bl true => (fc G S3).bind fun c S4 => m' b c S4
    | .bl false => .ok (.bl false) S3
    | _ => .bad) h) fun x H1 q => ?_
  obtain ⟨ρ, G, S, d, g, s, r1, o⟩ := q
  refine ⟨ρ, G, S, g, s, OutG.mono (out_bind (rel := rV X) o) (.refl _ _) fun y H2 q2 => ?_⟩
  obtain ⟨ρ2, S2, e, x2, s2, r2, o2⟩ := q2
  refine hr ρ2 S2 H2 σ d e x y _ s2 (VR.mono x2 r1) r2 (OutG.mono (out_bind (rel := rV X) o2) (.refl _ _) fun z H3 q3 => ?_)
  obtain ⟨ρ3, S3, k, x3, s3, r3, o3⟩ := q3
  cases k <;> first | exact o3.elim | skip
  rename_i b
  refine ⟨b, VR_bl.mp r3, ?_⟩
  cases b with
  | false => rw [if_neg (by decide)]; exact o3 ρ3 H3 _ (.refl _ _) s3 (VR_bl.mpr rfl)
  | true =>
    rw [if_pos rfl]
    refine ⟨ρ3, G, S3, (g.mono x2).mono x3, s3, OutG.mono (out_bind (rel := rV X) o3) (.refl _ _) fun w H4 q4 => ?_⟩
    obtain ⟨ρ4, S4, e4, x4, s4, r4, o4⟩ := q4
    exact hr' ρ4 S4 H4 σ e e4 y w Q s4 (VR.mono (x3.trans x4) r2) r4 o4
theorem de_chain {op op' : CmpOp} {m m' : D → D → C D} (ho : Op2 X W (compareOp op) m) (ho' : Op2 X W (compareOp op') m') (ha : DE X W a fa) (hb : DE X W b fb) (hc : DE X W c fc) (hm : lastMarks [op, op'] [b, c] = false := by with_unfolding_all rfl) :
    DE X W (.Compare a [op, op'] [b, c] pos) (eChain m m' fa fb fc) := by
  obtain ⟨r, h1, h2⟩ := ho
  obtain ⟨r', h1', h2'⟩ := ho'
  exact PE.weak (pe_chain h1 h1' ha hb hc hm) fun σ H Q h => chain_end h2 h2' h
theorem dt_chain {op op' : CmpOp} {m m' : D → D → C D} (ho : Op2 X W (compareOp op) m) (ho' : Op2 X W (compareOp op') m') (ha : DE X W a fa) (hb : DE X W b fb) (hc : DE X W c fc) (hm : lastMarks [op, op'] [b, c] = false := by with_unfolding_all rfl) :
    DT X W (.Compare a [op, op'] [b, c] pos) (tb (eChain m m' fa fb fc)) := by
  obtain ⟨r, h1, h2⟩ := ho
  obtain ⟨r', h1', h2'⟩ := ho'
  exact PT.weak (pt_chain h1 h1' ha hb hc hm) fun σ H Q h => tb_test (fun Q h => chain_end h2 h2' h) h
end
end Mir

namespace Mir
open PySem L2
section
variable {X : Cx} {W : WX} {a b c e : Expr} {es : List Expr} {fa fb fc fe : ME} {ga : MA} {pos p : Pos} {x : Str}

/-! ### argument lists, displays -/
def aNil : MA := fun _ S => .ok [] S
def aCons (f : ME) (g : MA) : MA := fun G S => (f G S).bind fun d S1 => (g G S1).bind fun ds S2 => .ok (d :: ds) S2
theorem da_nil : DA X W [] aNil := PA.weak pa_nil fun σ H Q h => by
  obtain ⟨ρ, G, S, g, s, o⟩ := h
  exact o ρ H [] (.refl _ _) s .nil
theorem da_cons (ha : DE X W e fe) (hr : DA X W es ga) (hs : starEach (e :: es) X.env = (false, eval e X.env) :: starEach es X.env := by rfl) : DA X W (e :: es) (aCons fe ga) := by
  refine PA.weak (pa_cons ha hr hs) fun σ H Q h => ?_
  refine tG_mono (tG_bind (f := fe) (g := fun d G S1 => (ga G S1).bind fun ds S2 => R.ok (d :: ds) S2) h) fun x H1 q => ?_
  obtain ⟨ρ, G, S, d, g, s, r1, o⟩ := q
  refine ⟨ρ, G, S, g, s, OutG.mono (out_bind (rel := rVs X) o) (.refl _ _) fun y H2 q2 => ?_⟩
  obtain ⟨ρ2, S2, e, x2, s2, r2, o2⟩ := q2
  exact o2 ρ2 H2 _ (.refl _ _) s2 (.cons (VR.mono x2 r1) r2)
def eTup (f : MA) : ME := fun G S => (f G S).bind fun ds S1 => if ds.length ≤ SZ then .ok (.tup ds) S1 else .bad
def eLst (f : MA) : ME := fun G S => (f G S).bind fun ds S1 => if ds.length ≤ SZ then allocO (.lst ds) S1 else .bad
theorem de_tup {k} (h : DA X W es ga) : DE X W (.Tuple es k pos) (eTup ga) := by
  refine PE.weak (pe_tup h) fun σ H Q h => ?_
  refine tG_mono (tG_bind (f := ga) (g := fun ds G S1 => if ds.length ≤ SZ then R.ok (D.tup ds) S1 else .bad) h) fun x H1 q => ?_
  obtain ⟨ρ, G, S, d, g, s, r1, o⟩ := q
  have r1 : VRs X.K ρ H1 d x := r1
  split at o
  · rename_i c
    exact ⟨by rw [sizeLine_eq, ← r1.length]; exact c, new_tup s o r1⟩
  · exact o.elim
theorem de_lst (h : DA X W es ga) : DE X W (.List es pos) (eLst ga) := by
  refine PE.weak (pe_lst h) fun σ H Q h => ?_
  refine tG_mono (tG_bind (f := ga) (g := fun ds G S1 => if ds.length ≤ SZ then allocO (.lst ds) S1 else .bad) h) fun x H1 q => ?_
  obtain ⟨ρ, G, S, d, g, s, r1, o⟩ := q
  have r1 : VRs X.K ρ H1 d x := r1
  split at o
  · rename_i c
    exact ⟨by rw [sizeLine_eq, ← r1.length]; exact c, alloc_lst s o r1⟩
  · exact o.elim

/-! ### calls of built-ins -/
def Bi (X : Cx) (W : WX) (f : Value) (m : List D → C D) : Prop :=
  ∃ r : List V → Hp → VK → Prop, CallR X f r ∧ ∀ (ρ : List Addr) (S : ST) (H : Hp) (σ : St) (ds : List D) (xs : List V) (Q : VK), Sim X.K X.mg ρ S H → VRs X.K ρ H ds xs → OutG X W (rV X) ρ σ H (m ds S) Q → r xs H Q
def eCall (m : List D → C D) (f : MA) : ME := fun G S => (f G S).bind fun ds S1 => m ds S1
theorem call_end {m : List D → C D} {r : List V → Hp → VK → Prop} {σ : St} {H : Hp} {Q : VK}
    (hr : ∀ (ρ : List Addr) (S : ST) (H : Hp) (σ : St) (ds : List D) (xs : List V) (Q : VK), Sim X.K X.mg ρ S H → VRs X.K ρ H ds xs → OutG X W (rV X) ρ σ H (m ds S) Q → r xs H Q)
    (h : tE X W (eCall m ga) σ H Q) : tCB r (tA X W ga) σ H Q := by
  refine tG_mono (tG_bind (f := ga) (g := fun ds G S1 => m ds S1) h) fun x H1 q => ?_
  obtain ⟨ρ, G, S, d, g, s, r1, o⟩ := q
  exact hr ρ S H1 σ d x Q s r1 o
theorem de_callB {id : String} {m : List D → C D} (hc : Bi X W (.builtin id) m) (hg : Gl X x) (hm : X.mg x = none) (hv : bootBuiltins x = some (.builtin id)) (ha : DA X W (e :: es) ga) (hn : x ≠ "__name__" := by decide) (hdb : (x == ("__debug__" : Str)) = false := by decide)
    (he : starEach (e :: es) X.env = (false, eval e X.env) :: starEach es X.env := by rfl) (hpl : (backTo pos (starEach es X.env)).any (·.1) = false := by rfl) : DE X W (.Call (.Name x p) (e :: es) [] pos) (eCall m ga) := by
  obtain ⟨r, h1, h2⟩ := hc
  exact PE.weak (pe_callB h1 hg hm hv ha hn hdb he hpl) fun σ H Q h => call_end h2 h
theorem de_callTy {T : String} {m : List D → C D} (hc : Bi X W (.type T) m) (hg : Gl X x) (hm : X.mg x = none) (hv : bootBuiltins x = some (.type T)) (ha : DA X W (e :: es) ga) (hn : x ≠ "__name__" := by decide) (hdb : (x == ("__debug__" : Str)) = false := by decide)
    (he : starEach (e :: es) X.env = (false, eval e X.env) :: starEach es X.env := by rfl) (hpl : (backTo pos (starEach es X.env)).any (·.1) = false := by rfl) : DE X W (.Call (.Name x p) (e :: es) [] pos) (eCall m ga) := by
  obtain ⟨r, h1, h2⟩ := hc
  exact PE.weak (pe_callTy h1 hg hm hv ha hn hdb he hpl) fun σ H Q h => call_end h2 h
theorem Bi.or {f : Value} {m m1 m2 : List D → C D} (h1 : Bi X W f m1) (h2 : Bi X W f m2) (hm : ∀ ds S, m ds S = m1 ds S ∨ m ds S = m2 ds S) : Bi X W f m := by
  obtain ⟨r, a1, b1⟩ := h1
  obtain ⟨r', a2, b2⟩ := h2
  refine ⟨_, a1.or a2, fun ρ S H σ ds xs Q s r1 o => ?_⟩
  rcases hm ds S with k | k
  · rw [k] at o; exact .inl (b1 ρ S H σ ds xs Q s r1 o)
  · rw [k] at o; exact .inr (b2 ρ S H σ ds xs Q s r1 o)
section
variable {ρ : List Addr} {H : Hp} {K : PySem.W.Frag} {xs : List V} {d d' : D}
theorem VRs.one (h : VRs K ρ H [d] xs) : ∃ v, xs = [v] ∧ VR K ρ H d v := by
  obtain ⟨v, r, rfl, h1, h2⟩ := h.cons_l
  rw [h2.nil_l]
  exact ⟨v, rfl, h1⟩
theorem VRs.two (h : VRs K ρ H [d, d'] xs) : ∃ v w, xs = [v, w] ∧ VR K ρ H d v ∧ VR K ρ H d' w := by
  obtain ⟨v, r, rfl, h1, h2⟩ := h.cons_l
  obtain ⟨w, rfl, h3⟩ := h2.one
  exact ⟨v, w, rfl, h1, h3⟩
end
def bAbs : List D → C D := fun ds S => match ds with | [.int i] => .ok (.int (if i < 0 then -i else i)) S | _ => .bad
theorem bi_abs : Bi X W (.builtin "abs") bAbs := by
  refine ⟨_, call_abs, fun ρ S H σ ds xs Q s r o => ?_⟩
  unfold bAbs at o
  split at o
  · obtain ⟨v, rfl, r1⟩ := r.one
    rw [VR_int] at r1; subst r1
    exact ⟨_, rfl, o ρ H _ (.refl _ _) s (VR_int.mpr rfl)⟩
  · exact o.elim
def bInt : List D → C D := fun ds S => match ds with | [.int i] => .ok (.int i) S | [.bl k] => .ok (.int (if k = true then 1 else 0)) S | _ => .bad
theorem bi_int : Bi X W (.type "int") bInt := by
  refine ⟨_, call_int1, fun ρ S H σ ds xs Q s r o => ?_⟩
  unfold bInt at o
  split at o
  · obtain ⟨v, rfl, r1⟩ := r.one
    rw [VR_int] at r1; subst r1
    exact .inl ⟨_, rfl, o ρ H _ (.refl _ _) s (VR_int.mpr rfl)⟩
  · obtain ⟨v, rfl, r1⟩ := r.one
    rw [VR_bl] at r1; subst r1
    exact .inr ⟨_, rfl, o ρ H _ (.refl _ _) s (VR_int.mpr rfl)⟩
  · exact o.elim
def bStr : List D → C D := fun ds S => match ds with | [.int i] => if lim64 i = true then .ok (.str (toString i)) S else .bad | _ => .bad
theorem bi_str : Bi X W (.type "str") bStr := by
  refine ⟨_, call_str_int, fun ρ S H σ ds xs Q s r o => ?_⟩
  unfold bStr at o
  split at o
  · rename_i i
    split at o
    · rename_i c
      obtain ⟨v, rfl, r1⟩ := r.one
      rw [VR_int] at r1; subst r1
      rw [lim64_iff] at c
      exact ⟨_, rfl, Nat.lt_of_lt_of_le (PySem.Flt.log2_lt_of (by decide : 0 < 64) (show i.natAbs < 2 ^ 64 by omega)) (by decide), o ρ H _ (.refl _ _) s (VR_str.mpr rfl)⟩
    · exact o.elim
  · exact o.elim
def lenD (S : ST) : D → Option Nat
  | .str z => if z.length ≤ SZ then some z.length else none
  | .ref n => match S[n]? with | some (.lst ds) => some ds.length | some (.dk kvs) => some kvs.length | _ => none
  | .tup ds => some ds.length
  | .fl ds => some ds.length
  | _ => none
def bLen : List D → C D := fun ds S => match ds with | [d] => (match lenD S d with | some n => .ok (.int n) S | none => .bad) | _ => .bad
theorem bi_len : Bi X W (.builtin "len") bLen := by
  refine ⟨_, call_len.or call_lenD, fun ρ S H σ ds xs Q s r o => ?_⟩
  unfold bLen at o
  split at o
  · rename_i d
    obtain ⟨v, rfl, r1⟩ := r.one
    split at o
    · rename_i n hn
      have o' := o ρ H _ (.refl _ _) s (VR_int.mpr rfl)
      cases d with
      | str z =>
        rw [VR_str] at r1; subst r1
        simp only [lenD] at hn
        split at hn
        · rename_i hz
          cases hn
          exact .inl ⟨_, _, rfl, ⟨by rw [sizeLine_eq]; exact hz, rfl⟩, o'⟩
        · cases hn
      | tup ds =>
        obtain ⟨p, vs, rfl, q, v1⟩ := VR_tup.mp r1
        cases hn
        exact .inl ⟨_, _, rfl, .inr ⟨vs, q, v1.length⟩, o'⟩
      | fl ds =>
        obtain ⟨p, vs, rfl, q, v1⟩ := VR_fl.mp r1
        cases hn
        exact .inl ⟨_, _, rfl, .inl ⟨vs, q.sql, v1.length⟩, o'⟩
      | ref m =>
        unfold lenD at hn
        dsimp only at hn
        split at hn
        · rename_i h1
          cases hn
          obtain ⟨p, rfl, p1, vs, w1, v1⟩ := s.ref r1 h1
          exact .inl ⟨_, _, rfl, .inl ⟨vs, SqL.of w1, v1.length⟩, o'⟩
        · rename_i kvs h1
          cases hn
          obtain ⟨p, rfl, p1, ws, w1, v1⟩ := s.ref r1 h1
          have e := congrArg List.length v1.1
          rw [List.length_map, List.length_map] at e
          refine .inr ⟨_, ws, rfl, w1, ?_⟩
          rw [← e]; exact o'
        · cases hn
      | _ => cases hn
    · exact o.elim
  · exact o.elim
def bMax2 : List D → C D := fun ds S => match ds with | [.int i, .int j] => .ok (.int (max i j)) S | _ => .bad
theorem bi_max2 (hc : X.calm = true) : Bi X W (.builtin "max") bMax2 := by
  refine ⟨_, call_max2 hc, fun ρ S H σ ds xs Q s r o => ?_⟩
  unfold bMax2 at o
  split at o
  · rename_i i j
    obtain ⟨v, w, rfl, r1, r2⟩ := r.two
    rw [VR_int] at r1 r2; subst r1 r2
    refine ⟨i, j, rfl, ?_⟩
    have := o ρ H _ (.refl _ _) s (VR_int.mpr rfl)
    rwa [show (if j > i then j else i) = max i j by split <;> omega]
  · exact o.elim
def bMin2 : List D → C D := fun ds S => match ds with | [.int i, .int j] => .ok (.int (min i j)) S | _ => .bad
theorem bi_min2 (hc : X.calm = true) : Bi X W (.builtin "min") bMin2 := by
  refine ⟨_, call_min2 hc, fun ρ S H σ ds xs Q s r o => ?_⟩
  unfold bMin2 at o
  split at o
  · rename_i i j
    obtain ⟨v, w, rfl, r1, r2⟩ := r.two
    rw [VR_int] at r1 r2; subst r1 r2
    refine ⟨i, j, rfl, ?_⟩
    have := o ρ H _ (.refl _ _) s (VR_int.mpr rfl)
    rwa [show (if j < i then j else i) = min i j by split <;> omega]
  · exact o.elim
/-- lists of ints -/
def intsD : List D → Option (List Int)
  | [] => some []
  | .int i :: r => (intsD r).map (i :: ·)
  | _ :: _ => none
theorem intsD_eq : ∀ {ds : List D} {ns : List Int}, intsD ds = some ns → ds = ns.map D.int
  | [], ns, h => by cases h; rfl
  | d :: r, ns, h => by
    cases d with
    | int i =>
      unfold intsD at h
      rw [Option.map_eq_some_iff] at h
      obtain ⟨ms, h1, rfl⟩ := h
      rw [intsD_eq h1]; rfl
    | _ => cases h
@[simp] theorem intsD_map : ∀ ns : List Int, intsD (ns.map D.int) = some ns
  | [] => rfl
  | n :: ns => by simp [intsD, intsD_map ns]
/-- the items of a list (no tuple) -/
def D.litems (S : ST) : D → Option (List D)
  | .fl ds => some ds
  | .ref n => match S[n]? with | some (.lst ds) => some ds | _ => none
  | _ => none
theorem litems_ok {ρ : List Addr} {S : ST} {H : Hp} {d : D} {v : V} {ds : List D} (s : Sim X.K X.mg ρ S H) (r : VR X.K ρ H d v) (h : d.litems S = some ds) :
    ∃ p vs, v = .ref p ∧ SqL X.K H p vs ∧ VRs X.K ρ H ds vs := by
  cases d with
  | fl ds =>
    cases h
    obtain ⟨p, vs, e, q, r⟩ := VR_fl.mp r
    exact ⟨p, vs, e, q.sql, r⟩
  | ref n =>
    unfold D.litems at h
    dsimp only at h
    split at h
    · rename_i h1
      cases h
      obtain ⟨p, e, p1, vs, w1, v1⟩ := s.ref r h1
      exact ⟨p, vs, e, SqL.of w1, v1⟩
    · cases h
  | _ => cases h
def bSum : List D → C D := fun ds S => match ds with | [d] => (match (d.litems S).bind intsD with | some ns => .ok (.int ns.sum) S | none => .bad) | _ => .bad
theorem bi_sum (hc : X.calm = true) : Bi X W (.builtin "sum") bSum := by
  refine ⟨_, cr_sum hc, fun ρ S H σ ds xs Q s r o => ?_⟩
  unfold bSum at o
  split at o
  · obtain ⟨v, rfl, r1⟩ := r.one
    split at o
    · rename_i ns hn
      rw [Option.bind_eq_some_iff] at hn
      obtain ⟨es, h1, h2⟩ := hn
      obtain ⟨p, vs, rfl, q, v1⟩ := litems_ok s r1 h1
      rw [intsD_eq h2] at v1
      rw [v1.ints] at q
      exact ⟨p, ns, rfl, q, o ρ H _ (.refl _ _) s (VR_int.mpr rfl)⟩
    · exact o.elim
  · exact o.elim
def bList : List D → C D := fun ds S => match ds with | [d] => (match d.items S with | some es => allocO (.lst es) S | none => .bad) | _ => .bad
theorem bi_list : Bi X W (.type "list") bList := by
  refine ⟨_, call_list_of, fun ρ S H σ ds xs Q s r o => ?_⟩
  unfold bList at o
  split at o
  · obtain ⟨v, rfl, r1⟩ := r.one
    split at o
    · rename_i es he
      obtain ⟨p, vs, rfl, q, v1⟩ := items_ok s r1 he
      exact ⟨p, vs, rfl, q, alloc_lst s o v1⟩
    · exact o.elim
  · exact o.elim
def bTuple : List D → C D := fun ds S => match ds with | [d] => (match d.items S with | some es => .ok (.tup es) S | none => .bad) | _ => .bad
theorem bi_tuple : Bi X W (.type "tuple") bTuple := by
  refine ⟨_, call_tuple_of, fun ρ S H σ ds xs Q s r o => ?_⟩
  unfold bTuple at o
  split at o
  · rename_i d
    obtain ⟨v, rfl, r1⟩ := r.one
    split at o
    · rename_i es he
      cases d with
      | tup ds =>
        cases he
        obtain ⟨p, vs, rfl, q, v1⟩ := VR_tup.mp r1
        exact ⟨p, vs, rfl, .inr ⟨q, o ρ H _ (.refl _ _) s r1⟩⟩
      | fl ds =>
        obtain ⟨p, vs, rfl, q, v1⟩ := litems_ok (ds := es) s r1 he
        exact ⟨p, vs, rfl, .inl ⟨q, new_tup s o v1⟩⟩
      | ref n =>
        obtain ⟨p, vs, rfl, q, v1⟩ := litems_ok (ds := es) s r1 he
        exact ⟨p, vs, rfl, .inl ⟨q, new_tup s o v1⟩⟩
      | _ => cases he
    · exact o.elim
  · exact o.elim

/-! ### methods of built-in types -/
def Bm (X : Cx) (W : WX) (id : String) (m : D → List D → C D) : Prop :=
  ∃ r : V → List V → Hp → VK → Prop, MtR X id r ∧ ∀ (ρ : List Addr) (S : ST) (H : Hp) (σ : St) (d : D) (ds : List D) (x : V) (xs : List V) (Q : VK), Sim X.K X.mg ρ S H → VR X.K ρ H d x → VRs X.K ρ H ds xs → OutG X W (rV X) ρ σ H (m d ds S) Q → r x xs H Q
def tyD (T : String) (S : ST) : D → Bool
  | .str _ => T == "str"
  | .fl _ => T == "list"
  | .ref n => match S[n]? with | some (.lst _) => T == "list" | some (.dk _) => T == "dict" | some (.dt _) => T == "dict" | _ => false
  | _ => false
theorem tyD_ok {T : String} {ρ : List Addr} {S : ST} {H : Hp} {d : D} {v : V} (s : Sim X.K X.mg ρ S H) (r : VR X.K ρ H d v) (h : tyD T S d = true) : tyV X.K T v H := by
  cases d with
  | str z => rw [VR_str] at r; subst r; exact beq_iff_eq.mp h
  | fl ds =>
    obtain ⟨p, vs, rfl, q, v1⟩ := VR_fl.mp r
    exact .inl ⟨beq_iff_eq.mp h, vs, q.sql⟩
  | ref n =>
    unfold tyD at h
    dsimp only at h
    split at h
    · rename_i h1
      obtain ⟨p, rfl, p1, vs, w1, v1⟩ := s.ref r h1
      exact .inl ⟨beq_iff_eq.mp h, vs, SqL.of w1⟩
    · rename_i h1
      obtain ⟨p, rfl, p1, vs, w1, v1⟩ := s.ref r h1
      exact .inr (.inr (.inl ⟨beq_iff_eq.mp h, .inl ⟨_, w1⟩⟩))
    · rename_i h1
      obtain ⟨p, rfl, p1, vs, w1, v1⟩ := s.ref r h1
      exact .inr (.inr (.inl ⟨beq_iff_eq.mp h, .inr ⟨_, w1⟩⟩))
    · cases h
  | _ => cases h
def eBm (T : String) (m : D → List D → C D) (f : ME) (g : MA) : ME := fun G S => (f G S).bind fun d S1 => if tyD T S1 d = true then (g G S1).bind fun ds S2 => m d ds S2 else .bad
theorem de_bm {T id : String} {name : Str} {apos cpos : Pos} {o : Expr} {fo : ME} {m : D → List D → C D} (hm : Bm X W id m) (pa : PlainAttrs T) (slot : Slot T name id) (hty : typeOf (.builtin id) = pure (.type "method_descriptor")) (ho : DE X W o fo) (ha : DA X W (e :: es) ga)
    (hbase : attributeBase o name X.env (eval o X.env) = eval o X.env := by rfl)
    (hfew : ((backTo cpos (starEach (e :: es) X.env)).all (fun x => !x.1) && (backToKw cpos (keywordEach [] X.env)).all (fun x => x.1.isSome) && decide ((e :: es).length + ([] : List Keyword).length + (if ([] : List Keyword).isEmpty then 0 else 1) < 30)) = true := by rfl)
    (hline : (apos.endLine == cpos.line) = true := by rfl) (hs : starEach (e :: es) X.env = (false, eval e X.env) :: starEach es X.env := by rfl) (hplain : (backTo cpos (starEach es X.env)).any (·.1) = false := by rfl) :
    DE X W (.Call (.Attribute o name apos) (e :: es) [] cpos) (eBm T m fo ga) := by
  obtain ⟨r, h1, h2⟩ := hm
  refine PE.weak (pe_bm pa slot hty h1 ho ha hbase hfew hline hs hplain) fun σ H Q h => ?_
  refine tG_mono (tG_bind (f := fo) (g := fun d G S1 => if tyD T S1 d = true then (ga G S1).bind fun ds S2 => m d ds S2 else .bad) h) fun x H1 q => ?_
  obtain ⟨ρ, G, S, d, g, s, r1, o⟩ := q
  split at o
  · rename_i c
    refine ⟨tyD_ok s r1 c, ρ, G, S, g, s, OutG.mono (out_bind (rel := rVs X) o) (.refl _ _) fun y H2 q2 => ?_⟩
    obtain ⟨ρ2, S2, e, x2, s2, r2, o2⟩ := q2
    exact h2 ρ2 S2 H2 σ d e x y Q s2 (VR.mono x2 r1) r2 o2
  · exact o.elim
def eBm0 (T : String) (m : D → List D → C D) (f : ME) : ME := fun G S => (f G S).bind fun d S1 => if tyD T S1 d = true then m d [] S1 else .bad
theorem de_bm0 {T id : String} {name : Str} {apos cpos : Pos} {o : Expr} {fo : ME} {m : D → List D → C D} (hm : Bm X W id m) (pa : PlainAttrs T) (slot : Slot T name id) (hty : typeOf (.builtin id) = pure (.type "method_descriptor")) (ho : DE X W o fo)
    (hbase : attributeBase o name X.env (eval o X.env) = eval o X.env := by rfl) (hline : (apos.endLine == cpos.line) = true := by rfl) : DE X W (.Call (.Attribute o name apos) [] [] cpos) (eBm0 T m fo) := by
  obtain ⟨r, h1, h2⟩ := hm
  refine PE.weak (pe_bm0 pa slot hty h1 ho hbase hline) fun σ H Q h => ?_
  refine tG_mono (tG_bind (f := fo) (g := fun d G S1 => if tyD T S1 d = true then m d [] S1 else .bad) h) fun x H1 q => ?_
  obtain ⟨ρ, G, S, d, g, s, r1, o⟩ := q
  split at o
  · rename_i c
    exact ⟨tyD_ok s r1 c, h2 ρ S H1 σ d [] x [] Q s r1 .nil o⟩
  · exact o.elim
/-- a list in the store, for a method that writes it -/
def withL (d : D) (S : ST) (k : Nat → List D → R D) : R D := match d with
  | .ref n => match S[n]? with | some (.lst ds) => k n ds | _ => .bad
  | _ => .bad
theorem withL_ok {ρ : List Addr} {S : ST} {H : Hp} {σ : St} {d : D} {x : V} {Q : VK} {k : Nat → List D → R D} (s : Sim X.K X.mg ρ S H) (r : VR X.K ρ H d x) (o : OutG X W (rV X) ρ σ H (withL d S k) Q) :
    ∃ n ds a vs, x = .ref a ∧ ρ[n]? = some a ∧ S[n]? = some (.lst ds) ∧ H a = some (.lst vs) ∧ VRs X.K ρ H ds vs ∧ OutG X W (rV X) ρ σ H (k n ds) Q := by
  unfold withL at o
  split at o
  · split at o
    · rename_i h1
      obtain ⟨a, e, p1, vs, w1, v1⟩ := s.ref r h1
      exact ⟨_, _, a, vs, e, p1, h1, w1, v1, o⟩
    · exact o.elim
  · exact o.elim
/-- the list is written, a value given -/
theorem write_lst {ρ : List Addr} {S : ST} {H : Hp} {σ : St} {n : Nat} {a : Addr} {es : List D} {vs ws : List V} {d : D} {v : V} {Q : VK} (s : Sim X.K X.mg ρ S H) (p1 : ρ[n]? = some a) (w1 : H a = some (.lst vs))
    (o : OutG X W (rV X) ρ σ H (.ok d (S.set n (.lst es))) Q) (re : VRs X.K ρ H es ws) (rd : VR X.K ρ H d v) : Q v (upd H a (.lst ws)) := by
  have hm : Mut (H a) := by rw [w1]; exact True.intro
  exact o ρ _ v (.write hm) (s.write p1 hm ⟨ws, upd_same, re.mono (.write hm)⟩) (VR.mono (.write hm) rd)
def bAppend : D → List D → C D := fun d ds S => match ds with
  | [y] => withL d S fun n es => if es.length < SZ then .ok .non (S.set n (.lst (es ++ [y]))) else .bad
  | _ => .bad
theorem bm_append : Bm X W "list.append" bAppend := by
  refine ⟨_, mt_append, fun ρ S H σ d ds x xs Q s r1 r2 o => ?_⟩
  unfold bAppend at o
  split at o
  · obtain ⟨v, rfl, r3⟩ := r2.one
    obtain ⟨n, es, a, vs, rfl, p1, h1, w1, v1, o⟩ := withL_ok s r1 o
    split at o
    · rename_i c
      exact ⟨a, vs, v, rfl, rfl, w1, by rw [sizeLine_eq, ← v1.length]; exact c, write_lst s p1 w1 o (v1.append (.cons r3 .nil)) (VR_non.mpr rfl)⟩
    · exact o.elim
  · exact o.elim
def bPop : D → List D → C D := fun d ds S => match ds with
  | [] => withL d S fun n es => match es[es.length - 1]? with | some y => .ok y (S.set n (.lst es.dropLast)) | none => .bad
  | _ => .bad
theorem bm_pop : Bm X W "list.pop" bPop := by
  refine ⟨_, mt_pop, fun ρ S H σ d ds x xs Q s r1 r2 o => ?_⟩
  unfold bPop at o
  split at o
  · obtain ⟨n, es, a, vs, rfl, p1, h1, w1, v1, o⟩ := withL_ok s r1 o
    split at o
    · rename_i y c
      obtain ⟨v, e2, r3⟩ := v1.get c
      exact ⟨a, vs, v, rfl, r2.nil_l, w1, by rw [← v1.length]; exact e2, write_lst s p1 w1 o v1.dropLast r3⟩
    · exact o.elim
  · exact o.elim
def bPopAt : D → List D → C D := fun d ds S => match ds with
  | [.int i] => withL d S fun n es => match ixN es.length i with
    | some k => (match es[k]? with | some y => if es.length ≤ SZ then .ok y (S.set n (.lst (es.eraseIdx k))) else .bad | none => .bad)
    | none => .bad
  | _ => .bad
theorem bm_popAt : Bm X W "list.pop" bPopAt := by
  refine ⟨_, mt_popAt, fun ρ S H σ d ds x xs Q s r1 r2 o => ?_⟩
  unfold bPopAt at o
  split at o
  · rename_i i
    obtain ⟨w, rfl, r4⟩ := r2.one
    rw [VR_int] at r4; subst r4
    obtain ⟨n, es, a, vs, rfl, p1, h1, w1, v1, o⟩ := withL_ok s r1 o
    split at o
    · rename_i k hk
      split at o
      · rename_i y c
        split at o
        · rename_i hl
          obtain ⟨v, e2, r3⟩ := v1.get c
          obtain ⟨q1, q2, q3, q4⟩ := ixN_seq hk
          simp only [SZ] at hl
          exact ⟨a, vs, i, k, v, rfl, rfl, w1, by omega, by omega, by rw [← v1.length]; exact q1, e2, write_lst s p1 w1 o (v1.eraseIdx k) r3⟩
        · exact o.elim
      · exact o.elim
    · exact o.elim
  · exact o.elim
def bInsert : D → List D → C D := fun d ds S => match ds with
  | [.int i, y] => withL d S fun n es => if es.length < SZ ∧ 0 ≤ i ∧ i < 16777216 then .ok .non (S.set n (.lst (es.take i.toNat ++ [y] ++ es.drop i.toNat))) else .bad
  | _ => .bad
theorem bm_insert : Bm X W "list.insert" bInsert := by
  refine ⟨_, mt_insert, fun ρ S H σ d ds x xs Q s r1 r2 o => ?_⟩
  unfold bInsert at o
  split at o
  · rename_i i y
    obtain ⟨w, v, rfl, r4, r3⟩ := r2.two
    rw [VR_int] at r4; subst r4
    obtain ⟨n, es, a, vs, rfl, p1, h1, w1, v1, o⟩ := withL_ok s r1 o
    split at o
    · rename_i c
      exact ⟨a, vs, i, v, rfl, rfl, w1, by rw [sizeLine_eq, ← v1.length]; exact c.1, c.2.1, by omega, write_lst s p1 w1 o (((v1.take _).append (.cons r3 .nil)).append (v1.drop _)) (VR_non.mpr rfl)⟩
    · exact o.elim
  · exact o.elim
/-- list.remove of an int -/
def idxI (ns : List Int) (k : Int) : Option Nat := ns.findIdx? fun n => decide (n = k)
def bRemove : D → List D → C D := fun d ds S => match ds with
  | [.int k] => withL d S fun n es => match intsD es with
    | some ns => (match idxI ns k with | some j => .ok .non (S.set n (.lst ((ns.eraseIdx j).map D.int))) | none => .bad)
    | none => .bad
  | _ => .bad
theorem bm_remove : Bm X W "list.remove" bRemove := by
  refine ⟨_, mt_remove, fun ρ S H σ d ds x xs Q s r1 r2 o => ?_⟩
  unfold bRemove at o
  split at o
  · rename_i k
    obtain ⟨w, rfl, r4⟩ := r2.one
    rw [VR_int] at r4; subst r4
    obtain ⟨n, es, a, vs, rfl, p1, h1, w1, v1, o⟩ := withL_ok s r1 o
    split at o
    · rename_i ns hn
      split at o
      · rename_i j hj
        have e := intsD_eq hn
        subst e
        have ev := v1.ints
        subst ev
        unfold idxI at hj
        rw [List.findIdx?_eq_some_iff_getElem] at hj
        obtain ⟨hl, e1, e2⟩ := hj
        refine ⟨a, ns, k, j, rfl, rfl, w1, ?_, fun m hm z => ?_, write_lst s p1 w1 o (VRs.of_ints _) (VR_non.mpr rfl)⟩
        · rw [List.getElem?_eq_getElem hl]
          simpa using e1
        · have hml : m < ns.length := by omega
          have := e2 m hm
          rw [List.getElem?_eq_getElem hml] at z
          simp at this z
          exact this z
      · exact o.elim
    · exact o.elim
  · exact o.elim
def bExtend : D → List D → C D := fun d ds S => match ds with
  | [.ref m] => withL d S fun n es => match S[m]? with | some (.lst zs) => if es.length + zs.length ≤ SZ then .ok .non (S.set n (.lst (es ++ zs))) else .bad | _ => .bad
  | _ => .bad
theorem bm_extend : Bm X W "list.extend" bExtend := by
  refine ⟨_, mt_extend, fun ρ S H σ d ds x xs Q s r1 r2 o => ?_⟩
  unfold bExtend at o
  split at o
  · obtain ⟨w, rfl, r4⟩ := r2.one
    obtain ⟨n, es, a, vs, rfl, p1, h1, w1, v1, o⟩ := withL_ok s r1 o
    split at o
    · rename_i h2
      obtain ⟨b, rfl, p2, ws, w2, v2⟩ := s.ref r4 h2
      split at o
      · rename_i c
        exact ⟨a, b, vs, ws, rfl, rfl, w1, w2, by rw [sizeLine_eq, ← v1.length, ← v2.length]; exact c, write_lst s p1 w1 o (v1.append v2) (VR_non.mpr rfl)⟩
      · exact o.elim
    · exact o.elim
  · exact o.elim
end
end Mir

namespace Mir
open PySem L2
theorem ofString_inj {a b : String} : (Str.ofString a = Str.ofString b) ↔ a = b := by
  constructor
  · intro h
    rw [Str.ofString_eq_toList, Str.ofString_eq_toList] at h
    have h1 : (a.toList.map Char.toNat) = b.toList.map Char.toNat := by
      have := congrArg (fun x : Str => x.cps.toList) h
      simpa using this
    have h2 : a.toList = b.toList := (List.map_inj_right fun x y e => Char.toNat_inj.mp e).mp h1
    rw [← String.ofList_toList (s := a), ← String.ofList_toList (s := b), h2]
  · exact fun h => by rw [h]

/-! ### statements -/
def R.s {α : Type} (r : R α) (G : GE) (k : α → ST → RS) : RS := match r with
  | .ok a S => k a S
  | .exc c fs S => .exc c fs G S
  | .bad => .bad
@[simp] theorem R.s_ok {α : Type} (a : α) (S : ST) (G : GE) (k : α → ST → RS) : (R.ok a S).s G k = k a S := rfl
@[simp] theorem R.s_exc {α : Type} (c fs) (S : ST) (G : GE) (k : α → ST → RS) : (R.exc c fs S : R α).s G k = .exc c fs G S := rfl
@[simp] theorem R.s_bad {α : Type} (G : GE) (k : α → ST → RS) : (R.bad : R α).s G k = .bad := rfl
section
variable {X : Cx} {W : WX} {a b c e : Expr} {es : List Expr} {fa fb fc fe : ME} {ga : MA} {pos p : Pos} {x : Str} {α β : Type} {rel : List Addr → Hp → α → β → Prop}
/-- an expression, then the rest of a statement -/
theorem tS_bind {f : GE → ST → R α} {k : α → GE → ST → RS} {Dn : Ends} {σ : St} {H : Hp} (h : tS X W (fun G S => (f G S).s G fun a S1 => k a G S1) Dn σ H) :
    tG X W rel f σ H fun v H1 => ∃ ρ G S a, GR X.K ρ H1 G σ ∧ Sim X.K X.mg ρ S H1 ∧ rel ρ H1 a v ∧ OutS X W ρ H1 (k a G S) Dn := by
  obtain ⟨ρ, G, S, g, s, o⟩ := h
  refine ⟨ρ, G, S, g, s, ?_⟩
  dsimp only at o
  cases e : f G S with
  | ok a S1 =>
    rw [e] at o
    exact fun ρ1 H1 v x1 s1 r1 => ⟨ρ1, G, S1, a, g.mono x1, s1, r1, OutS.mono (r := k a G S1) o x1⟩
  | exc c fs S1 =>
    rw [e] at o
    exact fun ρ1 H1 cls dx x1 s1 r1 => o ρ1 H1 σ cls dx x1 s1 (g.mono x1) r1
  | bad =>
    rw [e] at o
    exact o
theorem outS_bind {ρ : List Addr} {σ : St} {H : Hp} {r : R α} {G : GE} {k : α → ST → RS} {Dn : Ends} (g : GR X.K ρ H G σ) (o : OutS X W ρ H (r.s G k) Dn) :
    OutG X W rel ρ σ H r fun v H1 => ∃ ρ1 S1 a, Ext ρ H ρ1 H1 ∧ Sim X.K X.mg ρ1 S1 H1 ∧ rel ρ1 H1 a v ∧ OutS X W ρ1 H1 (k a S1) Dn := by
  cases r with
  | ok a S1 => exact fun ρ1 H1 v x1 s1 r1 => ⟨ρ1, S1, a, x1, s1, r1, OutS.mono (r := k a S1) o x1⟩
  | exc c fs S1 => exact fun ρ1 H1 cls dx x1 s1 r1 => o ρ1 H1 σ cls dx x1 s1 (g.mono x1) r1
  | bad => exact o
/-- behind a statement that goes on -/
theorem outS_nx {ρ : List Addr} {σ : St} {H : Hp} {G : GE} {S : ST} {Dn : Ends} (g : GR X.K ρ H G σ) (s : Sim X.K X.mg ρ S H) (o : OutS X W ρ H (.nx G S) Dn) : Dn.nx σ H := o ρ H σ (.refl _ _) s g
def sNil : MS := fun G S => .nx G S
def sSeq (f g : MS) : MS := fun G S => match f G S with
  | .nx G' S' => g G' S'
  | r => r
theorem dss_nil : DSs X W [] sNil := PSs.weak pss_nil fun D σ H h => by
  obtain ⟨ρ, G, S, g, s, o⟩ := h
  exact outS_nx g s o
theorem dss_one {st : Stmt} {f : MS} (h : DS X W st f) : DSs X W [st] f := pss_one h
theorem tS_seq {f g : MS} {Dn : Ends} {σ : St} {H : Hp} (h : tS X W (sSeq f g) Dn σ H) : tS X W f { Dn with nx := tS X W g Dn } σ H := by
  obtain ⟨ρ, G, S, gr, s, o⟩ := h
  refine ⟨ρ, G, S, gr, s, ?_⟩
  unfold sSeq at o
  cases e : f G S with
  | nx G' S' =>
    rw [e] at o
    exact fun ρ1 H1 σ1 x1 s1 g1 => ⟨ρ1, G', S', g1, s1, o.mono x1⟩
  | rt d S' => rw [e] at o; exact o
  | bk G' S' => rw [e] at o; exact o
  | ct G' S' => rw [e] at o; exact o
  | exc c fs G' S' => rw [e] at o; exact o
  | bad => rw [e] at o; exact o
theorem dss_cons {st : Stmt} {rest : List Stmt} {f g : MS} (h1 : DS X W st f) (h2 : DSs X W rest g) : DSs X W (st :: rest) (sSeq f g) := PSs.weak (pss_cons h1 h2) fun D σ H h => tS_seq h
def sBreak : MS := fun G S => .bk G S
def sCont : MS := fun G S => .ct G S
theorem ds_pass : DS X W (.Pass pos) sNil := PS.weak ps_pass fun D σ H h => by
  obtain ⟨ρ, G, S, g, s, o⟩ := h
  exact outS_nx g s o
theorem ds_break : DS X W (.Break pos) sBreak := PS.weak ps_break fun D σ H h => by
  obtain ⟨ρ, G, S, g, s, o⟩ := h
  exact o ρ H σ (.refl _ _) s g
theorem ds_continue : DS X W (.Continue pos) sCont := PS.weak ps_continue fun D σ H h => by
  obtain ⟨ρ, G, S, g, s, o⟩ := h
  exact o ρ H σ (.refl _ _) s g
theorem ds_doc {x j pos pos'} : DS X W (.Expr (.Constant (.str x) j pos) pos') sNil := PS.weak ps_doc fun D σ H h => by
  obtain ⟨ρ, G, S, g, s, o⟩ := h
  exact outS_nx g s o
def sExpr (f : ME) : MS := fun G S => (f G S).s G fun _ S1 => .nx G S1
theorem ds_expr (he : DE X W e fe) (hs : swapsWith e none pos.line X.env = pure false := by rfl) : DS X W (.Expr e pos) (sExpr fe) := PS.weak (ps_expr he hs) fun D σ H h => by
  refine tG_mono (tS_bind (f := fe) (k := fun _ G S1 => .nx G S1) (rel := rV X) h) fun v H1 q => ?_
  obtain ⟨ρ, G, S, d, g, s, r, o⟩ := q
  exact outS_nx g s o
def sRet (f : ME) : MS := fun G S => (f G S).s G fun d S1 => .rt d S1
theorem ds_ret (he : DE X W e fe) : DS X W (.Return (some e) pos) (sRet fe) := PS.weak (ps_ret he) fun D σ H h => by
  refine tG_mono (tS_bind (f := fe) (k := fun d G S1 => .rt d S1) (rel := rV X) h) fun v H1 q => ?_
  obtain ⟨ρ, G, S, d, g, s, r, o⟩ := q
  exact o ρ H1 v (.refl _ _) s r
def sRetN : MS := fun _ S => .rt .non S
theorem ds_retN : DS X W (.Return none pos) sRetN := PS.weak ps_retN fun D σ H h => by
  obtain ⟨ρ, G, S, g, s, o⟩ := h
  exact o ρ H .non (.refl _ _) s (VR_non.mpr rfl)
def sIf (t : MT) (f g : MS) : MS := fun G S => (t G S).s G fun k S1 => if k = true then f G S1 else g G S1
theorem ds_if {t : MT} {f g : MS} {p q : List Stmt} (hc : DT X W c t) (ha : DSs X W p f) (hb : DSs X W q g) : DS X W (.If c p q pos) (sIf t f g) := PS.weak (ps_if hc ha hb) fun D σ H h => by
  refine tG_mono (tS_bind (f := t) (k := fun k G S1 => if k = true then f G S1 else g G S1) (rel := rB) h) fun v H1 q => ?_
  obtain ⟨ρ, G, S, d, gr, s, r, o⟩ := q
  have r : v = d := r
  subst r
  by_cases k : v = true
  · rw [if_pos k] at o ⊢; exact ⟨ρ, G, S, gr, s, o⟩
  · rw [if_neg k] at o ⊢; exact ⟨ρ, G, S, gr, s, o⟩

/-! ### targets -/
inductive Tg where
  | nm (i : Nat)
  | tp (is : List Nat)
def setG (G : GE) : List Nat → List D → GE
  | i :: is, d :: ds => setG (G.set i (some d)) is ds
  | _, _ => G
def setσ (σ : St) : List Nat → List V → St
  | i :: is, v :: vs => setσ (σ.set i (some v)) is vs
  | _, _ => σ
theorem GR.sets {ρ : List Addr} {H : Hp} : ∀ {is : List Nat} {G : GE} {σ : St} {ds : List D} {vs : List V}, GR X.K ρ H G σ → VRs X.K ρ H ds vs → GR X.K ρ H (setG G is ds) (setσ σ is vs)
  | [], G, σ, ds, vs, g, r => by
    cases ds <;> cases vs <;> exact g
  | i :: is, G, σ, [], vs, g, r => by rw [r.nil_l]; exact g
  | i :: is, G, σ, d :: ds, vs, g, r => by
    obtain ⟨v, r', rfl, h1, h2⟩ := r.cons_l
    exact GR.sets (is := is) (g.set i h1) h2
def gNames : List Nat → TGs
  | [] => gNil
  | i :: is => gCons (gName i) (gNames is)
theorem gNames_ok : ∀ {is : List Nat} {vs : List V} {σ : St} {H : Hp} {Q : St → Hp → Prop}, vs.length = is.length → Q (setσ σ is vs) H → gNames is vs σ H Q
  | [], vs, σ, H, Q, e, q => by
    have : vs = [] := List.length_eq_zero_iff.mp (by simpa using e)
    subst this
    exact ⟨rfl, q⟩
  | i :: is, [], σ, H, Q, e, q => by simp at e
  | i :: is, v :: vs, σ, H, Q, e, q => ⟨v, vs, rfl, gNames_ok (by simpa using e) q⟩
def tgOf (K : PySem.W.Frag) : Tg → TG
  | .nm i => gName i
  | .tp is => fun v σ H Q => gTup K is.length (gNames is) v σ H Q ∨ gUnl K is.length (gNames is) v σ H Q
/-- a judgement of a target -/
def DG (X : Cx) (tg : Expr) (t : Tg) : Prop := PG X tg (tgOf X.K t)
theorem dg_name {i : Nat} {pos : Pos} (hN : X.N.Nodup) (hi : X.N[i]? = some x) (hx : Loc X.env.scope x) (hf : X.fn x = true ∨ X.env.scope.names.lookup x = some .local := by first | exact .inl rfl | exact .inr rfl | assumption) : DG X (.Name x pos) (.nm i) := pg_name hN hi hx hf
theorem dgs_nil : PGs X [] (gNames []) := pgs_nil
theorem dgs_cons {i : Nat} {is : List Nat} (h1 : DG X e (.nm i)) (h2 : PGs X es (gNames is)) (hs : (assignEach (e :: es) X.env).map (·.2) = assign e X.env :: (assignEach es X.env).map (·.2) := by rfl) : PGs X (e :: es) (gNames (i :: is)) := pgs_cons h1 h2 hs
theorem dg_tup {is : List Nat} {k : Nat} (hc : X.calm = true) (h : PGs X es (gNames is)) (hn : (assignEach es X.env).length = is.length := by rfl) (hst : (assignEach es X.env).findIdx? (·.1) = none := by rfl) : DG X (.Tuple es k pos) (.tp is) :=
  ⟨fun pins s σ H v u Q I r q => q.elim ((pg_tup hc h hn hst).run pins s σ H v u Q I r) ((pg_unl hc h hn hst).run pins s σ H v u Q I r)⟩
def bindT (t : Tg) (d : D) (G : GE) (S : ST) : Option GE := match t with
  | .nm i => some (G.set i (some d))
  | .tp is => match d.items S with | some ds => if ds.length = is.length then some (setG G is ds) else none | none => none
def Tg.slots : Tg → List Nat
  | .nm i => [i]
  | .tp is => is
theorem bindT_ok {t : Tg} {d : D} {G G' : GE} {S : ST} {ρ : List Addr} {H : Hp} {σ : St} {v : V} {Q : St → Hp → Prop} (s : Sim X.K X.mg ρ S H) (g : GR X.K ρ H G σ) (r : VR X.K ρ H d v) (h : bindT t d G S = some G')
    (q : ∀ vs, vs.length = t.slots.length → GR X.K ρ H G' (setσ σ t.slots vs) → Q (setσ σ t.slots vs) H) : tgOf X.K t v σ H Q := by
  cases t with
  | nm i =>
    cases h
    exact q [v] rfl (g.set i r)
  | tp is =>
    unfold bindT at h
    dsimp only at h
    split at h
    · rename_i ds hi
      split at h
      · rename_i hl
        cases h
        obtain ⟨p, vs, rfl, q1, v1⟩ := items_ok s r hi
        have e : vs.length = is.length := by rw [← v1.length]; exact hl
        have q' := q vs e (g.sets v1)
        rcases q1 with q1 | q1
        · exact .inr ⟨p, vs, rfl, q1, e, gNames_ok e q'⟩
        · exact .inl ⟨p, vs, rfl, q1, e, gNames_ok e q'⟩
      · cases h
    · cases h
def sSetT (t : Tg) (f : ME) : MS := fun G S => (f G S).s G fun d S1 => match bindT t d G S1 with | some G' => .nx G' S1 | none => .bad
theorem setT_end {t : Tg} {D : Ends} {σ : St} {H : Hp} (h : tS X W (sSetT t fe) D σ H) : tAsg (tE X W fe) (tgOf X.K t) D σ H := by
  refine tG_mono (tS_bind (f := fe) (k := fun d G S1 => match bindT t d G S1 with | some G' => .nx G' S1 | none => .bad) (rel := rV X) h) fun v H1 q => ?_
  obtain ⟨ρ, G, S, d, g, s, r, o⟩ := q
  split at o
  · rename_i G' hG
    exact bindT_ok s g r hG fun vs _ g' => outS_nx g' s o
  · exact o.elim
theorem ds_asg {tg : Expr} {t : Tg} (he : DE X W e fe) (hg : DG X tg t) (hs : swapsWithSole [tg] e pos.line X.env = pure false := by rfl) (hw : swappedStores [tg] e X.env = pure none := by rfl) (h1 : (assignEach [tg] X.env).map (·.2) = [assign tg X.env] := by rfl) :
    DS X W (.Assign [tg] e pos) (sSetT t fe) := PS.weak (ps_asg he hg hs hw h1) fun D σ H h => setT_end h
def sSet (i : Nat) (f : ME) : MS := fun G S => (f G S).s G fun d S1 => .nx (G.set i (some d)) S1
theorem set_end {i : Nat} {D : Ends} {σ : St} {H : Hp} (h : tS X W (sSet i fe) D σ H) : tAsg (tE X W fe) (gName i) D σ H := by
  refine tG_mono (tS_bind (f := fe) (k := fun d G S1 => .nx (G.set i (some d)) S1) (rel := rV X) h) fun v H1 q => ?_
  obtain ⟨ρ, G, S, d, g, s, r, o⟩ := q
  exact outS_nx (g.set i r) s o
theorem ds_set {i : Nat} {pos' : Pos} (hN : X.N.Nodup) (hi : X.N[i]? = some x) (hx : Loc X.env.scope x) (he : DE X W e fe) (hs : swapsWith e (some (.Name x pos')) pos.line X.env = pure false := by rfl) (hf : X.fn x = true ∨ X.env.scope.names.lookup x = some .local := by first | exact .inl rfl | exact .inr rfl | assumption) :
    DS X W (.Assign [.Name x pos'] e pos) (sSet i fe) := PS.weak (ps_set hN hi hx he hs hf) fun D σ H h => set_end h
/-- a, b = e1, e2 -/
def sPar (i j : Nat) (f : MA) : MS := fun G S => (f G S).s G fun ds S1 => match ds with | [d, e] => .nx ((G.set i (some d)).set j (some e)) S1 | _ => .bad
theorem ds_par {i j : Nat} {x y : Str} {a b : Expr} {ga : MA} {px py pt : Pos} {kt k2 pt2} (hc : X.calm = true) (hN : X.N.Nodup) (hi : X.N[i]? = some x) (hj : X.N[j]? = some y) (hij : i ≠ j)
    (hx : X.env.scope.names.lookup x = some .local) (hy : X.env.scope.names.lookup y = some .local) (ha : DA X W [a, b] ga)
    (hw : swappedStores [.Tuple [.Name x px, .Name y py] kt pt] (.Tuple [a, b] k2 pt2) X.env = pure (some [x, y]) := by rfl)
    (hs : swapsWithSole [.Tuple [.Name x px, .Name y py] kt pt] (.Tuple [a, b] k2 pt2) pos.line X.env = pure false := by rfl) :
    DS X W (.Assign [.Tuple [.Name x px, .Name y py] kt pt] (.Tuple [a, b] k2 pt2) pos) (sPar i j ga) := PS.weak (ps_par hc hN hi hj hij hx hy ha hw hs) fun D σ H h => by
  refine tG_mono (tS_bind (f := ga) (k := fun ds G S1 => match ds with | [d, e] => .nx ((G.set i (some d)).set j (some e)) S1 | _ => .bad) (rel := rVs X) h) fun v H1 q => ?_
  obtain ⟨ρ, G, S, d, g, s, r, o⟩ := q
  split at o
  · obtain ⟨v, w, rfl, r1, r2⟩ := VRs.two r
    exact ⟨v, w, rfl, outS_nx ((g.set i r1).set j r2) s o⟩
  · exact o.elim
/-- x op= e -/
def sAug (i : Nat) (m : D → D → C D) (f : ME) : MS := fun G S => match G[i]? with
  | some (some d) => (f G S).s G fun e S1 => (m d e S1).s G fun z S2 => .nx (G.set i (some z)) S2
  | _ => .bad
theorem ds_aug {i : Nat} {op : Operator} {m : D → D → C D} {pos' : Pos} (hN : X.N.Nodup) (hi : X.N[i]? = some x) (hx : Loc X.env.scope x) (he : DE X W e fe) (ho : Op2 X W (inplaceOp op) m) (hf : X.fn x = true ∨ X.env.scope.names.lookup x = some .local := by first | exact .inl rfl | exact .inr rfl | assumption) :
    DS X W (.AugAssign (.Name x pos') op e pos) (sAug i m fe) := by
  obtain ⟨r, h1, h2⟩ := ho
  refine PS.weak (ps_aug hN hi hx he (ti := r) (fun pins s σ H x y v u Q I rx ry q => h1 pins s σ H x y v u Q I rx ry q) hf) fun D σ H h => ?_
  obtain ⟨ρ, G, S, g, s, o⟩ := h
  unfold sAug at o
  split at o
  · rename_i d hd
    obtain ⟨v, e1, rd⟩ := g.get i d hd
    refine ⟨v, e1, ?_⟩
    refine ⟨ρ, G, S, g, s, OutG.mono (outS_bind (rel := rV X) g o) (.refl _ _) fun y H1 q => ?_⟩
    obtain ⟨ρ1, S1, e, x1, s1, r1, o1⟩ := q
    refine h2 ρ1 S1 H1 σ d e v y _ s1 (VR.mono x1 rd) r1 (OutG.mono (outS_bind (rel := rV X) (g.mono x1) o1) (.refl _ _) fun z H2 q2 => ?_)
    obtain ⟨ρ2, S2, e2, x2, s2, r2, o2⟩ := q2
    exact outS_nx (((g.mono x1).mono x2).set i r2) s2 o2
  · exact o.elim

/-! ### o[i] = e -/
end
/-- a key's value: in its place, or at the end -/
def dput {κ α : Type} [DecidableEq κ] (kvs : List (κ × α)) (k : κ) (v : α) : List (κ × α) :=
  if kvs.any (fun kv => decide (kv.1 = k)) = true then kvs.map fun kv => if kv.1 = k then (kv.1, v) else kv else kvs ++ [(k, v)]
section
variable {κ : Type} [DecidableEq κ] {K : PySem.W.Frag} {ρ : List Addr} {H : Hp}
theorem FR.nil_l {α : Type} {ws : List (α × V)} (h : FR K ρ H ([] : List (α × D)) ws) : ws = [] := by
  have := h.1
  cases ws with
  | nil => rfl
  | cons _ _ => simp at this
theorem FR.cons_l {α : Type} {k : α} {d : D} {kvs : List (α × D)} {ws : List (α × V)} (h : FR K ρ H ((k, d) :: kvs) ws) : ∃ v r, ws = (k, v) :: r ∧ VR K ρ H d v ∧ FR K ρ H kvs r := by
  obtain ⟨h1, h2⟩ := h
  cases ws with
  | nil => simp at h1
  | cons p r =>
    obtain ⟨k', v⟩ := p
    simp only [List.map_cons, List.cons.injEq] at h1 h2
    obtain ⟨rfl, h1⟩ := h1
    obtain ⟨a, b⟩ := h2.cons_inv
    exact ⟨v, r, rfl, a, h1, b⟩
theorem FR.cons {α : Type} {k : α} {d : D} {v : V} {kvs : List (α × D)} {ws : List (α × V)} (r : VR K ρ H d v) (h : FR K ρ H kvs ws) : FR K ρ H ((k, d) :: kvs) ((k, v) :: ws) :=
  ⟨by simp [h.1], by simpa using VRs.cons r h.2⟩
theorem FR.nil {α : Type} : FR K ρ H ([] : List (α × D)) [] := ⟨rfl, by simpa using VRs.nil⟩
theorem FR.append {α : Type} : ∀ {kvs kvs' : List (α × D)} {ws ws' : List (α × V)}, FR K ρ H kvs ws → FR K ρ H kvs' ws' → FR K ρ H (kvs ++ kvs') (ws ++ ws')
  | [], _, _, _, h, t => by rw [h.nil_l]; exact t
  | (k, d) :: kvs, _, _, _, h, t => by
    obtain ⟨v, r, rfl, h1, h2⟩ := h.cons_l
    exact .cons h1 (FR.append h2 t)
theorem FR.length {α : Type} {kvs : List (α × D)} {ws : List (α × V)} (h : FR K ρ H kvs ws) : kvs.length = ws.length := by
  have := congrArg List.length h.1
  simpa using this
theorem FR.any {kvs : List (κ × D)} {ws : List (κ × V)} (k : κ) (h : FR K ρ H kvs ws) : (kvs.any fun kv => decide (kv.1 = k)) = ws.any fun kv => decide (kv.1 = k) := by
  have e : ∀ {β : Type} (l : List (κ × β)), (l.any fun kv => decide (kv.1 = k)) = (l.map (·.1)).any fun j => decide (j = k) := fun l => by rw [List.any_map]; rfl
  rw [e, e, h.1]
theorem FR.repl {k : κ} {d : D} {v : V} (r : VR K ρ H d v) : ∀ {kvs : List (κ × D)} {ws : List (κ × V)}, FR K ρ H kvs ws → FR K ρ H (kvs.map fun kv => if kv.1 = k then (kv.1, d) else kv) (ws.map fun kv => if kv.1 = k then (kv.1, v) else kv)
  | [], ws, h => by rw [h.nil_l]; exact .nil
  | (j, e) :: kvs, ws, h => by
    obtain ⟨u, t, rfl, h1, h2⟩ := h.cons_l
    have ih := FR.repl (k := k) r h2
    rw [List.map_cons, List.map_cons]
    by_cases q : j = k
    · simp only [q, if_true]; exact .cons r ih
    · simp only [q, if_false]; exact .cons h1 ih
theorem FR.put {kvs : List (κ × D)} {ws : List (κ × V)} {k : κ} {d : D} {v : V} (h : FR K ρ H kvs ws) (r : VR K ρ H d v) : FR K ρ H (dput kvs k d) (putK ws k v) := by
  unfold dput putK
  rw [h.any k]
  split
  · exact h.repl r
  · exact h.append (.cons r .nil)
end
section
variable {X : Cx} {W : WX} {a b c e o i : Expr} {es : List Expr} {fa fb fc fe fo fi : ME} {ga : MA} {pos p : Pos} {x : Str}
/-- the store behind d[k] = v -/
def putD (S : ST) (d k v : D) : Option ST := match d with
  | .ref n => match S[n]? with
    | some (.lst ds) => (match k with | .int i => (ixN ds.length i).map fun j => S.set n (.lst (ds.set j v)) | _ => none)
    | some (.dk kvs) => (match k.key with | some k => if kvs.length < SZ then some (S.set n (.dk (dput kvs k v))) else none | none => none)
    | _ => none
  | _ => none
/-- the heap behind it -/
def PutV (H : Hp) (o i v : V) (H' : Hp) : Prop := (∃ p xs k j, o = .ref p ∧ i = .int k ∧ H p = some (.lst xs) ∧ ixN xs.length k = some j ∧ H' = upd H p (.lst (xs.set j v))) ∨ ∃ a, o = .ref a ∧ DPut H a i v H'
theorem putD_ok {ρ : List Addr} {S S' : ST} {H : Hp} {d k v : D} {x y z : V} (s : Sim X.K X.mg ρ S H) (r1 : VR X.K ρ H d x) (r2 : VR X.K ρ H k y) (r3 : VR X.K ρ H v z) (h : putD S d k v = some S') :
    ∃ H', PutV H x y z H' ∧ Ext ρ H ρ H' ∧ Sim X.K X.mg ρ S' H' := by
  cases d with
  | ref n =>
    unfold putD at h
    dsimp only at h
    split at h
    · rename_i ds h1
      obtain ⟨a, rfl, p1, vs, w1, v1⟩ := s.ref r1 h1
      have hm : Mut (H a) := by rw [w1]; exact True.intro
      split at h
      · rw [Option.map_eq_some_iff] at h
        obtain ⟨j, e1, rfl⟩ := h
        rw [VR_int] at r2; subst r2
        exact ⟨_, .inl ⟨a, vs, _, j, rfl, rfl, w1, by rw [← v1.length]; exact e1, rfl⟩, .write hm, s.write p1 hm ⟨_, upd_same, (v1.set j r3).mono (.write hm)⟩⟩
      · cases h
    · rename_i kvs h1
      obtain ⟨a, rfl, p1, ws, w1, v1⟩ := s.ref r1 h1
      have hm : Mut (H a) := by rw [w1]; exact True.intro
      split at h
      · rename_i k' e1
        split at h
        · rename_i hl
          cases h
          have e2 := r2.key e1
          subst e2
          exact ⟨_, .inr ⟨a, rfl, DPut.k w1 (by rw [sizeLine_eq, ← v1.length]; exact hl)⟩, .write hm, s.write p1 hm ⟨_, upd_same, (v1.put r3).mono (.write hm)⟩⟩
        · cases h
      · cases h
    · cases h
  | _ => cases h
def sPut (fo fi fe : ME) : MS := fun G S => (fe G S).s G fun v S1 => (fo G S1).s G fun o S2 => (fi G S2).s G fun i S3 => match putD S3 o i v with | some S4 => .nx G S4 | none => .bad
def rPut : V → V → V → Hp → (Hp → Prop) → Prop := fun o i v H Q => rSetL o i v H Q ∨ rSetD o i v H Q
theorem set_both (hu : X.A.units + 65 < cLine) : PSet X rPut := fun pins s σ H o i v ov iv u Q I r1 r2 r3 h =>
  h.elim (set_list pins s σ H o i v ov iv u Q I r1 r2 r3) (set_dict (by omega) pins s σ H o i v ov iv u Q I r1 r2 r3)
theorem PutV.r {H H' : Hp} {o i v : V} {Q : Hp → Prop} (h : PutV H o i v H') (q : Q H') : rPut o i v H Q := by
  rcases h with ⟨p, xs, k, j, rfl, rfl, h1, h2, rfl⟩ | ⟨a, rfl, g⟩
  · exact .inl ⟨p, xs, k, j, rfl, rfl, h1, h2, q⟩
  · exact .inr ⟨a, H', rfl, g, q⟩
theorem ds_put (hu : X.A.units + 65 < cLine) {tpos : Pos} (ho : DE X W o fo) (hi : DE X W i fi) (he : DE X W e fe)
    (hs : swapsWithSole [.Subscript o i tpos] e pos.line X.env = pure false := by rfl) (hw : swappedStores [.Subscript o i tpos] e X.env = pure none := by rfl) (h1 : (assignEach [.Subscript o i tpos] X.env).map (·.2) = [assign (.Subscript o i tpos) X.env] := by rfl)
    (ha : ∀ v, assign (.Subscript o i tpos) X.env v = (do
      let ov ← holding [v] (eval o X.env)
      let iv ← holding [v, ov] (eval i X.env)
      standAt tpos
      holding [v, ov, iv] (setItem ov iv v)
      release [v, ov, iv] []) := by intro _; rfl) :
    DS X W (.Assign [.Subscript o i tpos] e pos) (sPut fo fi fe) := PS.weak (ps_asg he (pg_sub ho hi (set_both hu) ha) hs hw h1) fun D σ H h => by
  refine tG_mono (tS_bind (f := fe) (k := fun v G S1 => (fo G S1).s G fun o S2 => (fi G S2).s G fun i S3 => match putD S3 o i v with | some S4 => .nx G S4 | none => .bad) (rel := rV X) h) fun v H1 q => ?_
  obtain ⟨ρ, G, S, d, g, s, r, o⟩ := q
  refine ⟨ρ, G, S, g, s, OutG.mono (outS_bind (rel := rV X) g o) (.refl _ _) fun y H2 q => ?_⟩
  obtain ⟨ρ2, S2, d2, x2, s2, r2, o2⟩ := q
  refine ⟨ρ2, G, S2, g.mono x2, s2, OutG.mono (outS_bind (rel := rV X) (g.mono x2) o2) (.refl _ _) fun z H3 q => ?_⟩
  obtain ⟨ρ3, S3, d3, x3, s3, r3, o3⟩ := q
  split at o3
  · rename_i S4 h4
    obtain ⟨H4, pv, x4, s4⟩ := putD_ok s3 (VR.mono x3 r2) r3 (VR.mono (x2.trans x3) r) h4
    refine pv.r ?_
    have g3 := (g.mono x2).mono x3
    exact o3 ρ3 H4 σ x4 s4 (g3.mono x4)
  · exact o3.elim
/-- d[k] op= e, a dict -/
def sPutAug (m : D → D → C D) (fo fi fe : ME) : MS := fun G S => (fo G S).s G fun o S1 => (fi G S1).s G fun i S2 => match dGet S2 o i with
  | some (some old) => (fe G S2).s G fun v S3 => (m old v S3).s G fun z S4 => (match (if o.isDict S4 = true then putD S4 o i z else none) with | some S5 => .nx G S5 | none => .bad)
  | _ => .bad
theorem ds_putAug (hu : X.A.units + 65 < cLine) {tpos : Pos} {op : Operator} {m : D → D → C D} (ho : DE X W o fo) (hi : DE X W i fi) (he : DE X W e fe) (hm : Op2 X W (inplaceOp op) m)
    (ha : ∀ ov iv new, augStore i ov iv new = (do holding [new, ov, iv] (setItem ov iv new); release [new, ov, iv] []; pure .next) := by intros; rfl) :
    DS X W (.AugAssign (.Subscript o i tpos) op e pos) (sPutAug m fo fi fe) := by
  obtain ⟨r, h1, h2⟩ := hm
  refine PS.weak (ps_daug (by omega) ho hi he (rd := r) (fun pins s σ H x y u v Q I rx ry q => h1 pins s σ H x y u v Q I rx ry q) ha) fun Dn σ H h => ?_
  refine tG_mono (tS_bind (f := fo) (k := fun o G S1 => (fi G S1).s G fun i S2 => match dGet S2 o i with
    | some (some old) => (fe G S2).s G fun v S3 => (m old v S3).s G fun z S4 => (match (if o.isDict S4 = true then putD S4 o i z else none) with | some S5 => .nx G S5 | none => .bad)
    | _ => .bad) (rel := rV X) h) fun x H1 q => ?_
  obtain ⟨ρ, G, S, d, g, s, r1, o⟩ := q
  refine ⟨ρ, G, S, g, s, OutG.mono (outS_bind (rel := rV X) g o) (.refl _ _) fun y H2 q => ?_⟩
  obtain ⟨ρ2, S2, d2, x2, s2, r2, o2⟩ := q
  split at o2
  · rename_i old hold
    obtain ⟨a, w, ea, gd, vo⟩ := dGet_ok s2 (VR.mono x2 r1) r2 hold
    cases w with
    | none => exact vo.elim
    | some w =>
      refine ⟨a, w, ea, gd, ?_⟩
      have g2 := g.mono x2
      refine ⟨ρ2, G, S2, g2, s2, OutG.mono (outS_bind (rel := rV X) g2 o2) (.refl _ _) fun z H3 q => ?_⟩
      obtain ⟨ρ3, S3, d3, x3, s3, r3, o3⟩ := q
      have g3 := g2.mono x3
      refine h2 ρ3 S3 H3 σ old d3 w z _ s3 (VR.mono x3 vo) r3 (OutG.mono (outS_bind (rel := rV X) g3 o3) (.refl _ _) fun z4 H4 q => ?_)
      obtain ⟨ρ4, S4, d4, x4, s4, r4, o4⟩ := q
      split at o4
      · rename_i S5 h5
        split at h5
        · rename_i hd
          obtain ⟨H5, pv, x5, s5⟩ := putD_ok s4 (VR.mono ((x2.trans x3).trans x4) r1) (VR.mono (x3.trans x4) r2) r4 h5
          refine ⟨H5, ?_, o4 ρ4 H5 σ x5 s5 ((g3.mono x4).mono x5)⟩
          rcases pv with ⟨p, xs, k, j, e1, e2, w1, e3, rfl⟩ | ⟨a', e1, gp⟩
          · -- a list is no dict
            exfalso
            cases d with
            | ref n =>
              have r1' := VR.mono ((x2.trans x3).trans x4) r1
              unfold D.isDict at hd
              dsimp only at hd
              split at hd
              · rename_i h6
                obtain ⟨q1, e4, p1, ws, w2, v1⟩ := s4.ref r1' h6
                rw [e4] at e1; cases e1
                rw [w1] at w2; cases w2
              · rename_i h6
                obtain ⟨q1, e4, p1, ws, w2, v1⟩ := s4.ref r1' h6
                rw [e4] at e1; cases e1
                rw [w1] at w2; cases w2
              · cases hd
            | _ => cases hd
          · rw [ea] at e1; cases e1; exact gp
        · cases h5
      · exact o4.elim
  · exact o2.elim

/-! ### attributes -/
/-- the classes that may bear the attribute f -/
def Bears (X : Cx) (cs : List Str) (f : Str) : Prop := ∀ c ∈ cs, ∀ C, X.mg c = some (.ref C) → Cls X.K C ∧ NoAttr X.K C f
theorem FR.lookup {K : PySem.W.Frag} {ρ : List Addr} {H : Hp} (f : Str) : ∀ {fs : List (Str × D)} {gs : List (Str × V)}, FR K ρ H fs gs → VRo K ρ H (fs.lookup f) (gs.lookup f)
  | [], gs, h => by rw [h.nil_l]; exact True.intro
  | (k, d) :: fs, gs, h => by
    obtain ⟨v, r, rfl, h1, h2⟩ := h.cons_l
    simp only [List.lookup]
    cases e : f == k with
    | true => exact h1
    | false => exact FR.lookup f h2
/-- the attributes with one put -/
def putA (f : Str) (v : D) : List (Str × D) → List (Str × D)
  | [] => [(f, v)]
  | (g, x) :: r => if g = f then (g, v) :: r else (g, x) :: putA f v r
theorem FR.putA {K : PySem.W.Frag} {ρ : List Addr} {H : Hp} {f : Str} {d : D} {v : V} (r : VR K ρ H d v) : ∀ {fs : List (Str × D)} {gs : List (Str × V)}, FR K ρ H fs gs → FR K ρ H (Mir.putA f d fs) (putF f v gs)
  | [], gs, h => by rw [h.nil_l]; exact .cons r .nil
  | (k, e) :: fs, gs, h => by
    obtain ⟨u, t, rfl, h1, h2⟩ := h.cons_l
    unfold Mir.putA putF
    by_cases q : k = f
    · rw [if_pos q, if_pos q]; exact .cons r h2
    · rw [if_neg q, if_neg q]; exact .cons h1 (FR.putA r h2)
def mFld (cs : List Str) (f : Str) : D → C D := fun d S => match d with
  | .ref n => (match S[n]? with
    | some (.ins c fs) => if c ∈ cs then (match fs.lookup f with | some d => .ok d S | none => .bad) else .bad
    | _ => .bad)
  | _ => .bad
theorem de_fld {cs : List Str} {f : Str} (hb : Bears X cs f) (he : DE X W e fe) (hba : attributeBase e f X.env (eval e X.env) = eval e X.env := by rfl) : DE X W (.Attribute e f pos) (e1 (mFld cs f) fe) := by
  refine PE.weak (pe_fld he hba) fun σ H Q h => ?_
  refine one (r := fun x H1 Q => ∃ a C dx fs v, x = .ref a ∧ H1 a = some (.ins C dx fs) ∧ Cls X.K C ∧ NoAttr X.K C f ∧ fs.lookup f = some v ∧ Q v H1) (fun ρ S H σ d x Q s r o => ?_) h
  unfold mFld at o
  split at o
  · split at o
    · rename_i h1
      split at o
      · rename_i hc
        split at o
        · rename_i d' hd
          obtain ⟨a, rfl, p1, C, dx, gs, hmg, w1, v1⟩ := s.ref r h1
          obtain ⟨k1, k2⟩ := hb _ hc C hmg
          have q := v1.lookup f
          rw [hd] at q
          cases e : gs.lookup f with
          | none => rw [e] at q; exact q.elim
          | some v => rw [e] at q; exact ⟨a, C, dx, gs, v, rfl, w1, k1, k2, e, o ρ H v (.refl _ _) s q⟩
        · exact o.elim
      · exact o.elim
    · exact o.elim
  · exact o.elim
/-- the store behind o.f = v -/
def putFD (cs : List Str) (f : Str) (S : ST) (o v : D) : Option ST := match o with
  | .ref n => (match S[n]? with
    | some (.ins c fs) => if c ∈ cs ∧ fs.length < 1000 then some (S.set n (.ins c (putA f v fs))) else none
    | _ => none)
  | _ => none
theorem putFD_ok {cs : List Str} {f : Str} {ρ : List Addr} {S S' : ST} {H : Hp} {d v : D} {x z : V} (hb : Bears X cs f) (s : Sim X.K X.mg ρ S H) (r1 : VR X.K ρ H d x) (r3 : VR X.K ρ H v z) (h : putFD cs f S d v = some S') :
    ∃ a C dx fs, x = .ref a ∧ H a = some (.ins C dx fs) ∧ Cls X.K C ∧ NoAttr X.K C f ∧ fs.length < 1000 ∧ Ext ρ H ρ (upd H a (.ins C dx (putF f z fs))) ∧ Sim X.K X.mg ρ S' (upd H a (.ins C dx (putF f z fs))) := by
  unfold putFD at h
  split at h
  · split at h
    · rename_i h1
      split at h
      · rename_i hc
        cases h
        obtain ⟨a, rfl, p1, C, dx, gs, hmg, w1, v1⟩ := s.ref r1 h1
        obtain ⟨k1, k2⟩ := hb _ hc.1 C hmg
        have hm : Mut (H a) := by rw [w1]; exact True.intro
        exact ⟨a, C, dx, gs, rfl, w1, k1, k2, by rw [← v1.length]; exact hc.2, .write hm, s.write p1 hm ⟨C, dx, _, hmg, upd_same, (v1.putA r3).mono (.write hm)⟩⟩
      · cases h
    · cases h
  · cases h
def sFld (cs : List Str) (f : Str) (fo fe : ME) : MS := fun G S => (fe G S).s G fun v S1 => (fo G S1).s G fun o S2 => match putFD cs f S2 o v with | some S3 => .nx G S3 | none => .bad
theorem ds_fld {cs : List Str} {f : Str} {pos' : Pos} (hb : Bears X cs f) (ho : DE X W o fo) (he : DE X W e fe) (hs : swapsWith e (some (.Attribute o f pos')) pos.line X.env = pure false := by rfl) : DS X W (.Assign [.Attribute o f pos'] e pos) (Mir.sFld cs f fo fe) :=
  PS.weak (ps_fld ho he hs) fun D σ H h => by
  refine tG_mono (tS_bind (f := fe) (k := fun v G S1 => (fo G S1).s G fun o S2 => match putFD cs f S2 o v with | some S3 => .nx G S3 | none => .bad) (rel := rV X) h) fun v H1 q => ?_
  obtain ⟨ρ, G, S, d, g, s, r, o⟩ := q
  refine ⟨ρ, G, S, g, s, OutG.mono (outS_bind (rel := rV X) g o) (.refl _ _) fun y H2 q => ?_⟩
  obtain ⟨ρ2, S2, d2, x2, s2, r2, o2⟩ := q
  split at o2
  · rename_i S3 h3
    obtain ⟨a, C, dx, fs, rfl, w1, k1, k2, hl, x3, s3⟩ := putFD_ok hb s2 r2 (VR.mono x2 r) h3
    exact ⟨a, C, dx, fs, rfl, w1, k1, k2, hl, o2 ρ2 _ σ x3 s3 ((g.mono x2).mono x3)⟩
  · exact o2.elim
/-- o.f op= e -/
def sFldAug (c : Str) (f : Str) (m : D → D → C D) (fo fe : ME) : MS := fun G S => (fo G S).s G fun o S1 => (mFld [c] f o S1).s G fun old S2 => (fe G S2).s G fun v S3 => (m old v S3).s G fun z S4 => match putFD [c] f S4 o z with | some S5 => .nx G S5 | none => .bad
theorem ds_fldAug {c : Str} {f : Str} {tpos : Pos} {op : Operator} {m : D → D → C D} (hb : Bears X [c] f) (ho : DE X W o fo) (he : DE X W e fe) (hm : Op2 X W (inplaceOp op) m) : DS X W (.AugAssign (.Attribute o f tpos) op e pos) (Mir.sFldAug c f m fo fe) := by
  obtain ⟨r, h1, h2⟩ := hm
  refine PS.weak (ps_fldaug ho he (rd := r) (fun pins s σ H x y u v Q I rx ry q => h1 pins s σ H x y u v Q I rx ry q)) fun D σ H h => ?_
  refine tG_mono (tS_bind (f := fo) (k := fun o G S1 => (mFld [c] f o S1).s G fun old S2 => (fe G S2).s G fun v S3 => (m old v S3).s G fun z S4 => match putFD [c] f S4 o z with | some S5 => .nx G S5 | none => .bad) (rel := rV X) h) fun x H1 q => ?_
  obtain ⟨ρ, G, S, d, g, s, r1, o⟩ := q
  unfold mFld at o
  split at o
  · rename_i n
    split at o
    · rename_i c0 fs0 h5
      split at o
      · rename_i hc
        split at o
        · rename_i d' hd
          obtain ⟨a, rfl, p1, C, dx, gs, hmg, w1, v1⟩ := s.ref r1 h5
          obtain ⟨k1, k2⟩ := hb _ hc C hmg
          have q := v1.lookup f
          rw [hd] at q
          cases e : gs.lookup f with
          | none => rw [e] at q; exact q.elim
          | some v =>
            rw [e] at q
            have q : VR X.K ρ H1 d' v := q
            refine ⟨a, C, dx, gs, v, rfl, w1, k1, k2, e, ?_⟩
            rw [R.s_ok] at o
            refine ⟨ρ, G, S, g, s, OutG.mono (outS_bind (rel := rV X) g o) (.refl _ _) fun y H2 q2 => ?_⟩
            obtain ⟨ρ2, S2, d2, x2, s2, r2, o2⟩ := q2
            refine h2 ρ2 S2 H2 σ d' d2 v y _ s2 (VR.mono x2 q) r2 (OutG.mono (outS_bind (rel := rV X) (g.mono x2) o2) (.refl _ _) fun z H3 q3 => ?_)
            obtain ⟨ρ3, S3, d3, x3, s3, r3, o3⟩ := q3
            split at o3
            · rename_i S4 h4
              obtain ⟨a', C', dx', fs', e', w1', k1', k2', hl, x4, s4⟩ := putFD_ok hb s3 (VR.mono (x2.trans x3) r1) r3 h4
              cases e'
              -- the class is the same
              have hC : C' = C := by
                have hc1 : c0 = c := by simpa using hc
                unfold putFD at h4
                dsimp only at h4
                split at h4
                · rename_i c2 fs2 h6
                  split at h4
                  · rename_i hc2
                    have hc3 : c2 = c := by simpa using hc2.1
                    obtain ⟨a2, e2, p2, C2, dx2, gs2, hmg2, w2, v2⟩ := s3.ref (VR.mono (x2.trans x3) r1) h6
                    cases e2
                    rw [w2] at w1'
                    cases w1'
                    rw [hc3, ← hc1, hmg] at hmg2
                    cases hmg2
                    rfl
                  · cases h4
                · cases h4
              subst hC
              exact ⟨dx', fs', w1', hl, o3 ρ3 _ σ x4 s4 (((g.mono x2).mono x3).mono x4)⟩
            · exact o3.elim
        · exact o.elim
      · exact o.elim
    · exact o.elim
  · exact o.elim
end
end Mir

namespace Mir
open PySem L2 PyProof.Rows

/-! ### functions -/
/-- what a def of the mirror promises -/
def spM (K : PySem.W.Frag) (mg : Str → Option Value) (n : Nat) (m : Fn) : Sp := fun vs H Q E => ∃ ρ S ds, VRs K ρ H ds vs ∧ ds.length = n ∧ Sim K mg ρ S H ∧ OutK K mg (fun c d _ H => E c d H) (fun ρ H => VR K ρ H) ρ [] H (m ds S) Q
def mkFn (n k : Nat) (body : MS) : Fn := fun ds S => if ds.length = n then (match body (ds.map some ++ List.replicate k none) S with
  | .nx _ S' => .ok .non S'
  | .rt d S' => .ok d S'
  | .exc c fs _ S' => .exc c fs S'
  | _ => .bad) else .bad
theorem spM_len {K : PySem.W.Frag} {mg : Str → Option Value} {n : Nat} {m : Fn} {ps : List Str} (hn : ps.length = n) : ∀ vs H Q E, spM K mg n m vs H Q E → vs.length = ps.length := fun vs H Q E h => by
  obtain ⟨ρ, S, ds, r, l, _⟩ := h
  rw [← r.length, l, hn]
theorem GR.start {K : PySem.W.Frag} {ρ : List Addr} {H : Hp} {ds : List D} {vs : List V} (r : VRs K ρ H ds vs) (k : Nat) : GR K ρ H (ds.map some ++ List.replicate k none) (vs.map some ++ List.replicate k none) := by
  refine ⟨by simp [r.length], fun i d h => ?_⟩
  by_cases hi : i < ds.length
  · rw [List.getElem?_append_left (by simpa using hi)] at h
    rw [List.getElem?_append_left (by simpa [← r.length] using hi)]
    rw [List.getElem?_map] at h ⊢
    cases e : ds[i]? with
    | none => rw [e] at h; cases h
    | some d' =>
      rw [e] at h
      cases h
      obtain ⟨v, e1, r1⟩ := r.get e
      exact ⟨v, by rw [e1]; rfl, r1⟩
  · rw [List.getElem?_append_right (by simpa using Nat.not_lt.mp hi)] at h
    rw [List.getElem?_replicate] at h
    split at h <;> cases h
section
variable {P : Program} {w : World} {K : PySem.W.Frag} {mg : Str → Option Value} {base : Heap}
abbrev W0 : WX := fun _ _ _ _ => False
/-- a def's body ends as the mirror says -/
theorem body_end {X : Cx} {E : XK} {N : List Str} {n k : Nat} {body : MS} {vs : List V} {H : Hp} {Q : VK} (hN : N.length = n + k) (h : spM X.K X.mg n (mkFn n k body) vs H Q E) :
    tS X (fun c d _ H => E c d H) body { nx := fun _ H' => Q .non H', rt := Q } (L2.start N vs) H := by
  obtain ⟨ρ, S, ds, r, l, s, o⟩ := h
  have hl : vs.length = n := by rw [← r.length, l]
  refine ⟨ρ, ds.map some ++ List.replicate k none, S, ?_, s, ?_⟩
  · have e : L2.start N vs = vs.map some ++ List.replicate k none := by
      unfold L2.start
      rw [hN, hl]
      simp
    rw [e]
    exact GR.start r k
  · unfold mkFn at o
    rw [if_pos l] at o
    cases e : body (ds.map some ++ List.replicate k none) S with
    | nx G' S' => rw [e] at o; exact fun ρ' H' σ' x1 s1 _ => o ρ' H' .non x1 s1 (VR_non.mpr rfl)
    | rt d S' => rw [e] at o; exact o
    | exc c fs G' S' => rw [e] at o; exact fun ρ' H' σ' cls dx x1 s1 _ r1 => o ρ' H' cls dx x1 s1 r1
    | bk G' S' => rw [e] at o; exact (show False from o).elim
    | ct G' S' => rw [e] at o; exact (show False from o).elim
    | bad => rw [e] at o; exact o
/-- a def that lets no exception out -/
theorem fn0 {x qual : Str} {st : Stmt} {f : Addr} {fd : FuncData} {N ps : List Str} {l n k : Nat} {body : MS} (F : Fun K x qual st f fd) (Sc : FnScope N ps (defScope st)) (hN : N.length = n + k) (hp : ps.length = n)
    (hb : ∀ (cdv : Value) (A : Around) (outer : List Env) (s : Shared) (H : Hp) (E : XK), Room l (A.deeper (envOfC qual (defScope st) s.heap.objs.size f cdv)) →
      DSs (cxOf CX0 P w K mg base N qual (defScope st) f cdv A outer s H E).nox (fun c d _ H => E c d H) (defBody st) body) :
    FnOk P w K mg base CX0 (l + 1) f fd ps (spM K mg n (mkFn n k body)) := by
  refine F.ok Sc (spM_len hp) (fun cdv A outer s H vs Q E hr h => ?_)
  exact ⟨_, hb cdv A outer s H E hr, body_end (X := (cxOf CX0 P w K mg base N qual (defScope st) f cdv A outer s H E).nox) hN h⟩
/-- a def that may raise -/
theorem fnX {x qual : Str} {st : Stmt} {f : Addr} {fd : FuncData} {N ps : List Str} {l n k : Nat} {body : MS} (F : Fun K x qual st f fd) (Sc : FnScope N ps (defScope st)) (hN : N.length = n + k) (hp : ps.length = n)
    (hb : ∀ (cdv : Value) (A : Around) (outer : List Env) (s : Shared) (H : Hp) (E : XK), Room l (A.deeper (envOfC qual (defScope st) s.heap.objs.size f cdv)) →
      DSs (cxOf (L2.CX P w) P w K mg base N qual (defScope st) f cdv A outer s H E) (fun c d _ H => E c d H) (defBody st) body) :
    FnOk P w K mg base (L2.CX P w) (l + 1) f fd ps (spM K mg n (mkFn n k body)) := by
  refine F.okX Sc (spM_len hp) (fun cdv A outer s H vs Q E hr h => ?_)
  exact ⟨_, hb cdv A outer s H E hr, body_end (X := cxOf (L2.CX P w) P w K mg base N qual (defScope st) f cdv A outer s H E) hN h⟩
end

section
variable {X : Cx} {W : WX} {a b c e o i : Expr} {es : List Expr} {fa fb fc fe fo fi : ME} {ga : MA} {pos p apos : Pos} {x : Str}
/-- what a callee's errors come to -/
def Hx (CX : CXT) (X : Cx) (W : WX) : Prop := ∀ σ, PassesAt CX X σ (WE W σ)
theorem hx0 : Hx CX0 X W := fun _ _ _ _ _ _ _ h => h.elim
theorem hxX (tk : Takes X W) : Hx (L2.CX X.prog X.w) X W := fun σ => passAt tk σ
/-- f(..) -/
def eFn (n : Nat) (m : Fn) (f : MA) : ME := fun G S => (f G S).bind fun ds S1 => if ds.length = n then m ds S1 else .bad
theorem fn_end {n : Nat} {m : Fn} {σ : L2.St} {H : Hp} {Q : VK} {ga : MA} (h : tE X W (eFn n m ga) σ H Q) : tCallSD (spM X.K X.mg n m) [] (fun σ => WE W σ) (tA X W ga) σ H Q := by
  refine tG_mono (tG_bind (f := ga) (g := fun ds G S1 => if ds.length = n then m ds S1 else .bad) h) fun xs H1 q => ?_
  obtain ⟨ρ, G, S, ds, g, s, r, o⟩ := q
  split at o
  · rename_i l
    refine ⟨ρ, S, ds, by rw [List.append_nil]; exact r, l, s, ?_⟩
    cases e : m ds S with
    | ok d S' => rw [e] at o; exact o
    | exc c fs S' => rw [e] at o; exact o
    | bad => rw [e] at o; exact o
  · exact o.elim
theorem de_fn {CX : CXT} {k n : Nat} {f : Addr} {fd : FuncData} {ps : List Str} {m : Fn} (F : FnOk X.prog X.w X.K X.mg X.base CX k f fd ps (spM X.K X.mg n m)) (hr : Room k X.A) (hg : Gl X x) (hm : X.mg x = some (.ref f)) (hk : PySem.W.keepIn X.K (.ref f) = true) (hb : Binds X.K fd ps []) (hx : Hx CX X W)
    (ha : DA X W (e :: es) ga) (hdb : (x == ("__debug__" : Str)) = false := by decide) (he : starEach (e :: es) X.env = (false, eval e X.env) :: starEach es X.env := by rfl) (hpl : (backTo pos (starEach es X.env)).any (·.1) = false := by rfl) :
    DE X W (.Call (.Name x p) (e :: es) [] pos) (eFn n m ga) :=
  PE.weak (pe_callSD F hr hg hm hk hb .nil hx ha hdb he hpl) fun σ H Q h => fn_end h
/-- f() -/
theorem de_fn0 {CX : CXT} {k n : Nat} {f : Addr} {fd : FuncData} {ps : List Str} {m : Fn} (F : FnOk X.prog X.w X.K X.mg X.base CX k f fd ps (spM X.K X.mg n m)) (hr : Room k X.A) (hg : Gl X x) (hm : X.mg x = some (.ref f)) (hk : PySem.W.keepIn X.K (.ref f) = true) (hb : Binds X.K fd ps []) (hx : Hx CX X W)
    (hdb : (x == ("__debug__" : Str)) = false := by decide) : DE X W (.Call (.Name x p) [] [] pos) (eFn n m aNil) := by
  refine ⟨fun pins s σ H Q I h => ?_⟩
  have h1 : tCallSD (spM X.K X.mg n m) [] (fun σ => WE W σ) tNil σ H Q := by
    have q := fn_end h
    obtain ⟨ρ, G, S, g, s', o⟩ := q
    exact o ρ H [] (.refl _ _) s' .nil
  exact wpAny_Call_Name_kw (ld_glob I hg hm (PySem.W.callWith_K0 I.kIn hk (run_fnSD (us := []) F hr hb .nil (hx σ) I .nil h1)) hdb)

/-! ### methods -/
/-- one class's method of that name -/
structure MethOf (X : Cx) (W : WX) (name : Str) (c : Str) (m : Fn) : Prop where
  ex : ∀ C, X.mg c = some (.ref C) → ∃ (g : Addr) (CX : CXT) (k n : Nat) (fd : FuncData) (ps : List Str), Cls X.K C ∧ Meth X.K C name g ∧ FnOk X.prog X.w X.K X.mg X.base CX k g fd ps (spM X.K X.mg n m) ∧ Room k X.A ∧ Binds X.K fd ps [] ∧ Hx CX X W ∧ ∀ ds S, ds.length ≠ n → m ds S = .bad
def MethTab (X : Cx) (W : WX) (name : Str) (tab : List (Str × Fn)) : Prop := ∀ c m, tab.lookup c = some m → MethOf X W name c m
theorem mt_nil {name : Str} : MethTab X W name [] := fun c m h => by cases h
theorem mt_cons {name c : Str} {m : Fn} {tab : List (Str × Fn)} (h : MethOf X W name c m) (t : MethTab X W name tab) : MethTab X W name ((c, m) :: tab) := fun c' m' e => by
  simp only [List.lookup] at e
  split at e
  · rename_i q
    have q := beq_iff_eq.mp q
    subst q
    cases e
    exact h
  · exact t c' m' e
/-- the method of an instance -/
def methD (name : Str) (tab : List (Str × Fn)) (S : ST) : D → Option Fn
  | .ref n => match S[n]? with | some (.ins c fs) => (match fs.lookup name with | none => tab.lookup c | some _ => none) | _ => none
  | _ => none
def eMeth (name : Str) (tab : List (Str × Fn)) (fo : ME) (ga : MA) : ME := fun G S => (fo G S).bind fun o S1 => match methD name tab S1 o with
  | some m => (ga G S1).bind fun ds S2 => m (o :: ds) S2
  | none => .bad
theorem methD_ok {name : Str} {tab : List (Str × Fn)} {ρ : List Addr} {S : ST} {H : Hp} {d : D} {v : V} {m : Fn} (s : Sim X.K X.mg ρ S H) (r : VR X.K ρ H d v) (h : methD name tab S d = some m) :
    ∃ a c C dx fs, v = .ref a ∧ X.mg c = some (.ref C) ∧ H a = some (.ins C dx fs) ∧ fs.lookup name = none ∧ tab.lookup c = some m := by
  unfold methD at h
  split at h
  · split at h
    · rename_i h1
      obtain ⟨a, rfl, p1, C, dx, gs, hmg, w1, v1⟩ := s.ref r h1
      split at h
      · rename_i hl
        have q := v1.lookup name
        rw [hl] at q
        cases e : gs.lookup name with
        | some v => rw [e] at q; exact q.elim
        | none => exact ⟨a, _, C, dx, gs, rfl, hmg, w1, e, h⟩
      · cases h
    · cases h
  · cases h
/-- what lies between: the promise, for a receiver and arguments -/
theorem meth_sp {n : Nat} {m : Fn} {ρ : List Addr} {S : ST} {H : Hp} {σ : L2.St} {ds : List D} {vs : List V} {Q : VK} (hl : ∀ ds S, ds.length ≠ n → m ds S = .bad) (s : Sim X.K X.mg ρ S H) (r : VRs X.K ρ H ds vs) (o : OutG X W (rV X) ρ σ H (m ds S) Q) : spM X.K X.mg n m (vs ++ []) H Q (WE W σ) := by
  have l : ds.length = n := by
    by_cases c : ds.length = n
    · exact c
    · rw [hl _ _ c] at o; exact o.elim
  refine ⟨ρ, S, ds, by rw [List.append_nil]; exact r, l, s, ?_⟩
  cases e : m ds S with
  | ok d S' => rw [e] at o; exact o
  | exc c fs S' => rw [e] at o; exact o
  | bad => rw [e] at o; exact o
theorem de_meth {name : Str} {tab : List (Str × Fn)} {pl : Sem Bool} (ht : MethTab X W name tab) (ho : DE X W o fo) (ha : DA X W (e :: es) ga) (hst : starEach (e :: es) X.env = (false, eval e X.env) :: starEach es X.env := by rfl) (hpl : (backTo pos (starEach es X.env)).any (·.1) = false := by rfl)
    (hx : eval (.Call (.Attribute o name apos) (e :: es) [] pos) X.env = (do
      let ov ← eval o X.env
      standAt apos.atName
      let (f, first) ← holding [ov] (getMethod ov name pl)
      callWith pos f first (backTo pos (starEach (e :: es) X.env)) (backToKw pos (keywordEach [] X.env))) := by rfl) :
    DE X W (.Call (.Attribute o name apos) (e :: es) [] pos) (eMeth name tab fo ga) := by
  refine ⟨fun pins s σ H Q I h => ?_⟩
  refine methcall_of (Q := EP X pins σ Q) (pl := pl) ho I ?_ hx
  refine tG_mono (tG_bind (f := fo) (g := fun o G S1 => match methD name tab S1 o with
    | some m => (ga G S1).bind fun ds S2 => m (o :: ds) S2
    | none => .bad) h) fun x H1 q => ?_
  obtain ⟨ρ, G, S, d, g, sm, r, out⟩ := q
  split at out
  · rename_i m hm
    obtain ⟨a, c, C, dx, fs, rfl, hmg, w1, hl, htb⟩ := methD_ok sm r hm
    obtain ⟨f, CX, k, n, fd, ps, kc, km, F, hr, hb, hxx, hln⟩ := (ht c m htb).ex C hmg
    refine ⟨a, C, dx, fs, f, rfl, w1, kc, km, hl, fun s1 I1 => ?_⟩
    have arg : tA X W ga σ H1 fun vs H2 => spM X.K X.mg n m ((.ref a :: vs) ++ []) H2 Q (WE W σ) := by
      refine ⟨ρ, G, S, g, sm, OutG.mono (out_bind (rel := rVs X) out) (.refl _ _) fun vs H2 q2 => ?_⟩
      obtain ⟨ρ2, S2, ds, x2, s2, r2, o2⟩ := q2
      exact meth_sp hln s2 (.cons (VR.mono x2 r) r2) o2
    refine PySem.W.callWith_K (first := [.ref a]) (h₀ := X.base) I.ok.mod.kin km.kp (thn (ha.run pos pins s1 σ H1 _ I1 arg) fun us s2 ⟨vs, H2, I2, rv, q2⟩ => ⟨I2.kIn, ?_⟩) hst hpl
    exact run_fnSD (us := .ref a :: us) (vs := .ref a :: vs) (dvs := []) (E := fun σ => WE W σ) F hr hb .nil (hxx σ) I2 (.cons rfl rv) q2
  · exact out.elim
theorem de_meth0 {name : Str} {tab : List (Str × Fn)} {pl : Sem Bool} (ht : MethTab X W name tab) (ho : DE X W o fo)
    (hx : eval (.Call (.Attribute o name apos) [] [] pos) X.env = (do
      let ov ← eval o X.env
      standAt apos.atName
      let (f, first) ← holding [ov] (getMethod ov name pl)
      callWith pos f first (backTo pos (starEach [] X.env)) (backToKw pos (keywordEach [] X.env))) := by rfl) :
    DE X W (.Call (.Attribute o name apos) [] [] pos) (eMeth name tab fo aNil) := by
  refine ⟨fun pins s σ H Q I h => ?_⟩
  refine methcall_of (Q := EP X pins σ Q) (pl := pl) ho I ?_ hx
  refine tG_mono (tG_bind (f := fo) (g := fun o G S1 => match methD name tab S1 o with
    | some m => (aNil G S1).bind fun ds S2 => m (o :: ds) S2
    | none => .bad) h) fun x H1 q => ?_
  obtain ⟨ρ, G, S, d, g, sm, r, out⟩ := q
  split at out
  · rename_i m hm
    obtain ⟨a, c, C, dx, fs, rfl, hmg, w1, hl, htb⟩ := methD_ok sm r hm
    obtain ⟨f, CX, k, n, fd, ps, kc, km, F, hr, hb, hxx, hln⟩ := (ht c m htb).ex C hmg
    refine ⟨a, C, dx, fs, f, rfl, w1, kc, km, hl, fun s1 I1 => ?_⟩
    have q2 : spM X.K X.mg n m ([.ref a] ++ []) H1 Q (WE W σ) := meth_sp hln sm (.cons r .nil) out
    exact PySem.W.callWith_K0 (first := [.ref a]) I1.kIn km.kp (run_fnSD (us := [.ref a]) (vs := [.ref a]) (dvs := []) (E := fun σ => WE W σ) F hr hb .nil (hxx σ) I1 (.cons rfl .nil) q2)
  · exact out.elim

/-! ### new instances -/
/-- c(..), whose __init__ lets nothing out -/
def eMake (c : Str) (n : Nat) (m : Fn) (ga : MA) : ME := fun G S => (ga G S).bind fun ds S1 => if ds.length + 1 = n then (match m (.ref S1.length :: ds) (S1 ++ [.ins c []]) with
  | .ok .non S2 => .ok (.ref S1.length) S2
  | _ => .bad) else .bad
theorem make_sp {c : Str} {C : Addr} {n : Nat} {m : Fn} {ρ : List Addr} {S : ST} {H : Hp} {σ : L2.St} {ds : List D} {vs : List V} {Q : VK} (hmg : X.mg c = some (.ref C)) (s : Sim X.K X.mg ρ S H) (r : VRs X.K ρ H ds vs) (hl : ds.length + 1 = n)
    (o : OutG X W (rV X) ρ σ H (match m (.ref S.length :: ds) (S ++ [.ins c []]) with | .ok .non S2 => .ok (.ref S.length) S2 | _ => .bad) Q) :
    ∀ x dx, H x = none → H dx = none → dx ≠ x → spM X.K X.mg n m (.ref x :: (vs ++ [])) (upd (upd H dx (.own x)) x (.ins C dx [])) (fun v H2 => v = .non ∧ Q (.ref x) H2) E0 := by
  intro x dx hx hdx hne
  have hx1 : upd H dx (.own x) x = none := by rw [upd_ne (Ne.symm hne)]; exact hx
  have s1 : Sim X.K X.mg ρ S (upd H dx (.own x)) := s.junk hdx
  have e1 : Ext ρ H ρ (upd H dx (.own x)) := .junk hdx
  have s2 := s1.alloc (ho := .ins C dx []) (o := .ins c []) hx1 ⟨C, dx, [], hmg, upd_same, .nil⟩
  have e2 : Ext ρ H (ρ ++ [x]) (upd (upd H dx (.own x)) x (.ins C dx [])) := e1.trans (.alloc hx1)
  have rx : VR X.K (ρ ++ [x]) (upd (upd H dx (.own x)) x (.ins C dx [])) (.ref S.length) (.ref x) := VR.alloc s1
  refine ⟨ρ ++ [x], S ++ [.ins c []], .ref S.length :: ds, .cons rx (by rw [List.append_nil]; exact r.mono e2), by simpa using hl, s2, ?_⟩
  cases q : m (.ref S.length :: ds) (S ++ [.ins c []]) with
  | ok d S2 =>
    rw [q] at o
    cases d <;> first | exact o.elim | skip
    exact fun ρ3 H3 v x3 s3 r3 => ⟨VR_non.mp r3, o ρ3 H3 _ (e2.trans x3) s3 (VR.mono x3 rx)⟩
  | exc c fs S2 => rw [q] at o; exact o.elim
  | bad => rw [q] at o; exact o.elim
theorem de_make {c : Str} {C : Addr} {k n : Nat} {f : Addr} {fd : FuncData} {ps : List Str} {m : Fn} (M : Mk X.K C f) (F : FnOk X.prog X.w X.K X.mg X.base CX0 k f fd ps (spM X.K X.mg n m)) (hr : Room (k + 1) X.A) (hg : Gl X c) (hm : X.mg c = some (.ref C)) (hb : Binds X.K fd ps [])
    (ha : DA X W (e :: es) ga) (hdb : (c == ("__debug__" : Str)) = false := by decide) (he : starEach (e :: es) X.env = (false, eval e X.env) :: starEach es X.env := by rfl) (hpl : (backTo pos (starEach es X.env)).any (·.1) = false := by rfl) :
    DE X W (.Call (.Name c p) (e :: es) [] pos) (eMake c n m ga) := by
  refine PE.weak (pe_make M F hr hg hm hb .nil pass0 ha hdb he hpl) fun σ H Q h => ?_
  refine tG_mono (tG_bind (f := ga) (g := fun ds G S1 => if ds.length + 1 = n then (match m (.ref S1.length :: ds) (S1 ++ [.ins c []]) with
    | .ok .non S2 => R.ok (D.ref S1.length) S2
    | _ => .bad) else .bad) h) fun xs H1 q => ?_
  obtain ⟨ρ, G, S, ds, g, s, r, o⟩ := q
  split at o
  · rename_i l
    exact make_sp hm s r l o
  · exact o.elim
theorem de_make0 {c : Str} {C : Addr} {k n : Nat} {f : Addr} {fd : FuncData} {ps : List Str} {m : Fn} (M : Mk X.K C f) (F : FnOk X.prog X.w X.K X.mg X.base CX0 k f fd ps (spM X.K X.mg n m)) (hr : Room (k + 1) X.A) (hg : Gl X c) (hm : X.mg c = some (.ref C)) (hb : Binds X.K fd ps [])
    (hdb : (c == ("__debug__" : Str)) = false := by decide) : DE X W (.Call (.Name c p) [] [] pos) (eMake c n m aNil) := by
  refine PE.weak (pe_make0 M F hr hg hm hb .nil pass0 hdb) fun σ H Q h => ?_
  obtain ⟨ρ, G, S, g, s, o⟩ := h
  unfold eMake aNil at o
  rw [R.bind_ok] at o
  split at o
  · rename_i l
    exact make_sp hm s .nil l o
  · exact o.elim

/-! ### dict displays -/
def pairsF : List (ME × ME) → GE → ST → R (List (D × D))
  | [], _, S => .ok [] S
  | (f, g) :: r, G, S => (f G S).bind fun k S1 => (g G S1).bind fun v S2 => (pairsF r G S2).bind fun ps S3 => .ok ((k, v) :: ps) S3
abbrev trsOf (X : Cx) (W : WX) (fs : List (ME × ME)) : List (TE × TE) := fs.map fun p => (tE X W p.1, tE X W p.2)
theorem dps_nil {pos : Pos} : PPs X pos [] [] (trsOf X W []) := pps_nil
theorem dps_cons {pos : Pos} {k v : Expr} {ks : List (Option Expr)} {vs : List Expr} {fk fv : ME} {fs : List (ME × ME)} (hk : DE X W k fk) (hv : DE X W v fv) (hr : PPs X pos ks vs (trsOf X W fs)) : PPs X pos (some k :: ks) (v :: vs) (trsOf X W ((fk, fv) :: fs)) := pps_cons hk hv hr
theorem tPairs_mono : ∀ {fs : List (ME × ME)} {σ : L2.St} {H : Hp} {Q Q' : List (V × V) → Hp → Prop}, tPairs (trsOf X W fs) σ H Q → (∀ v H, Q v H → Q' v H) → tPairs (trsOf X W fs) σ H Q'
  | [], _, _, _, _, h, q => q _ _ h
  | p :: r, _, _, _, _, h, q => tG_mono h fun _ _ h1 => tG_mono h1 fun _ _ h2 => tPairs_mono (fs := r) h2 fun _ _ h3 => q _ _ h3
theorem pairs_end : ∀ {fs : List (ME × ME)} {ρ : List Addr} {G : GE} {S : ST} {σ : L2.St} {H : Hp} {Q : List (V × V) → Hp → Prop} (g : GR X.K ρ H G σ) (s : Sim X.K X.mg ρ S H)
    (h : OutG X W (fun ρ H (ps : List (D × D)) (qs : List (V × V)) => VRs X.K ρ H (ps.map (·.1)) (qs.map (·.1)) ∧ VRs X.K ρ H (ps.map (·.2)) (qs.map (·.2))) ρ σ H (pairsF fs G S) Q), tPairs (trsOf X W fs) σ H Q
  | [], ρ, G, S, σ, H, Q, g, s, h => h ρ H [] (.refl _ _) s ⟨.nil, .nil⟩
  | (f, f') :: r, ρ, G, S, σ, H, Q, g, s, h => by
    unfold pairsF at h
    refine ⟨ρ, G, S, g, s, OutG.mono (out_bind (rel := rV X) h) (.refl _ _) fun x H1 q => ?_⟩
    obtain ⟨ρ1, S1, k, x1, s1, r1, o1⟩ := q
    refine ⟨ρ1, G, S1, g.mono x1, s1, OutG.mono (out_bind (rel := rV X) o1) (.refl _ _) fun y H2 q => ?_⟩
    obtain ⟨ρ2, S2, v, x2, s2, r2, o2⟩ := q
    refine pairs_end (fs := r) ((g.mono x1).mono x2) s2 (OutG.mono (out_bind o2) (.refl _ _) fun qs H3 q => ?_)
    obtain ⟨ρ3, S3, ps, x3, s3, r3, o3⟩ := q
    exact o3 ρ3 H3 _ (.refl _ _) s3 ⟨.cons (VR.mono (x2.trans x3) r1) r3.1, .cons (VR.mono x3 r2) r3.2⟩
def keysD : List (D × D) → Option (List (Key × D))
  | [] => some []
  | (k, v) :: r => match k.key, keysD r with | some k, some t => some ((k, v) :: t) | _, _ => none
def dmerge (kvs : List (Key × D)) : List (Key × D) := kvs.foldl (fun acc kv => dput acc kv.1 kv.2) []
def eDict (fs : List (ME × ME)) : ME := fun G S => (pairsF fs G (S ++ [.dk []])).bind fun ps S1 => match S1[S.length]?, keysD ps with
  | some (.dk []), some kvs => if kvs.length ≤ 15 then .ok (.ref S.length) (S1.set S.length (.dk (dmerge kvs))) else .bad
  | _, _ => .bad
theorem keysD_ok {K : PySem.W.Frag} {ρ : List Addr} {H : Hp} : ∀ {ps : List (D × D)} {qs : List (V × V)} {kvs : List (Key × D)}, VRs K ρ H (ps.map (·.1)) (qs.map (·.1)) → VRs K ρ H (ps.map (·.2)) (qs.map (·.2)) → keysD ps = some kvs →
    ∃ ws : List (Key × V), qs = ws.map (fun kv => (kV kv.1, kv.2)) ∧ FR K ρ H kvs ws
  | [], [], kvs, h1, h2, e => by cases e; exact ⟨[], rfl, .nil⟩
  | [], q :: qs, kvs, h1, h2, e => by cases h1.nil_l
  | (k, v) :: ps, [], kvs, h1, h2, e => by
    obtain ⟨_, _, e, _⟩ := h1.cons_l
    cases e
  | (k, v) :: ps, (x, y) :: qs, kvs, h1, h2, e => by
    obtain ⟨a1, b1⟩ := h1.cons_inv
    obtain ⟨a2, b2⟩ := h2.cons_inv
    unfold keysD at e
    split at e
    · rename_i k' t e1 e2
      cases e
      obtain ⟨ws, rfl, fr⟩ := keysD_ok b1 b2 e2
      have := a1.key e1
      have hx : x = kV k' := this
      subst hx
      exact ⟨(k', y) :: ws, rfl, .cons a2 fr⟩
    · cases e
theorem FR.fold {K : PySem.W.Frag} {ρ : List Addr} {H : Hp} : ∀ {kvs : List (Key × D)} {ws : List (Key × V)} {acc : List (Key × D)} {acc' : List (Key × V)}, FR K ρ H kvs ws → FR K ρ H acc acc' → FR K ρ H (kvs.foldl (fun acc kv => dput acc kv.1 kv.2) acc) (mergeK acc' ws)
  | [], ws, acc, acc', h, a => by rw [h.nil_l]; exact a
  | (k, d) :: kvs, ws, acc, acc', h, a => by
    obtain ⟨v, r, rfl, h1, h2⟩ := h.cons_l
    show FR K ρ H (kvs.foldl (fun acc kv => dput acc kv.1 kv.2) (dput acc k d)) (mergeK (putK acc' k v) r)
    exact FR.fold (kvs := kvs) h2 (a.put h1)
theorem de_dict {keys : List (Option Expr)} {values : List Expr} {fs : List (ME × ME)} (h : PPs X pos keys values (trsOf X W fs)) (hall : keys.all (·.isSome) = true := by rfl) (hl : keys.length = values.length := by rfl) (h0 : keys ≠ [] := by exact fun z => by cases z)
    (h15 : keys.length ≤ 15 := by decide) : DE X W (.Dict keys values pos) (eDict fs) := by
  refine PE.weak (pe_disp h hall hl h0 h15) fun σ H Q h => ?_
  obtain ⟨ρ, G, S, g, s, o⟩ := h
  intro p hp
  have s1 := s.alloc (ho := .dK []) (o := .dk []) hp ⟨[], upd_same, .nil⟩
  have x1 : Ext ρ H (ρ ++ [p]) (upd H p (.dK [])) := .alloc hp
  have rp : VR X.K (ρ ++ [p]) (upd H p (.dK [])) (.ref S.length) (.ref p) := VR.alloc s
  unfold eDict at o
  refine pairs_end (g.mono x1) s1 (OutG.mono (out_bind (OutG.mono (r := (pairsF fs G (S ++ [.dk []])).bind _) o x1 fun _ _ z => z)) (.refl _ _) fun qs H2 q => ?_)
  obtain ⟨ρ2, S2, ps, x2, s2, r2, o2⟩ := q
  split at o2
  · rename_i kvs h1 h2
    split at o2
    · rename_i hl
      have rp2 := VR.mono x2 rp
      obtain ⟨p', e, p1, ws0, w1, v1⟩ := s2.ref rp2 h1
      cases e
      have e0 : ws0 = [] := v1.nil_l
      subst e0
      obtain ⟨ws, e1, fr⟩ := keysD_ok r2.1 r2.2 h2
      refine ⟨w1, ws, e1, by rw [← fr.length]; exact hl, ?_⟩
      have hm : Mut (H2 p) := by rw [w1]; exact True.intro
      refine o2 ρ2 _ _ (.write hm) (s2.write p1 hm ⟨_, upd_same, FR.mono (.write hm) (FR.fold fr .nil)⟩) (VR.mono (.write hm) rp2)
    · exact o2.elim
  · exact o2.elim
theorem de_dict0 : DE X W (.Dict [] [] pos) (fun _ S => allocO (.dk []) S) := by
  refine PE.weak pe_dnewK fun σ H Q h => ?_
  obtain ⟨ρ, G, S, g, s, o⟩ := h
  exact alloc_ok s o fun p hp => ⟨[], upd_same, .nil⟩

/-! ### isinstance -/
def tyN (S : ST) : D → Option String
  | .non => some "NoneType"
  | .bl _ => some "bool"
  | .int _ => some "int"
  | .str _ => some "str"
  | .tup _ => some "tuple"
  | .fl _ => some "list"
  | .ref n => match S[n]? with | some (.lst _) => some "list" | some (.dk _) => some "dict" | some (.dt _) => some "dict" | _ => none
  | .opq _ => none
def subN (t T : String) : Option Bool := match T with
  | "int" => some (t == "int" || t == "bool")
  | "bool" => some (t == "bool")
  | "str" => some (t == "str")
  | "tuple" => some (t == "tuple")
  | "list" => some (t == "list")
  | "dict" => some (t == "dict")
  | _ => none
theorem tyN_ok {ρ : List Addr} {S : ST} {H : Hp} {d : D} {v : V} {t : String} (s : Sim X.K X.mg ρ S H) (r : VR X.K ρ H d v) (h : tyN S d = some t) : TyX X.K H v (.type t) ∧ (t = "NoneType" ∨ t = "bool" ∨ t = "int" ∨ t = "str" ∨ t = "tuple" ∨ t = "list" ∨ t = "dict") := by
  cases d with
  | non => rw [VR_non] at r; subst r; cases h; exact ⟨.base .non, by simp⟩
  | bl b => rw [VR_bl] at r; subst r; cases h; exact ⟨.base (.bl _), by simp⟩
  | int b => rw [VR_int] at r; subst r; cases h; exact ⟨.base (.int _), by simp⟩
  | str b => rw [VR_str] at r; subst r; cases h; exact ⟨.base (.str _), by simp⟩
  | tup ds =>
    obtain ⟨p, vs, rfl, q, v1⟩ := VR_tup.mp r
    cases h
    refine ⟨?_, by simp⟩
    rcases q with (q | ⟨o, q⟩) | ⟨o, its, n, hk, hc, _⟩
    · exact .base (.tup q)
    · exact .fTuple q
    · exact .kTuple hk hc
  | fl ds =>
    obtain ⟨p, vs, rfl, q, v1⟩ := VR_fl.mp r
    cases h
    refine ⟨?_, by simp⟩
    rcases q with ⟨o, q⟩ | ⟨o, its, n, hk, hc, _⟩
    · exact .base (.frz q)
    · exact .kList hk hc
  | ref n =>
    unfold tyN at h
    dsimp only at h
    split at h
    · rename_i h1
      cases h
      obtain ⟨a, rfl, p1, vs, w1, v1⟩ := s.ref r h1
      exact ⟨.base (.lst w1), by simp⟩
    · rename_i h1
      cases h
      obtain ⟨a, rfl, p1, vs, w1, v1⟩ := s.ref r h1
      exact ⟨.base (.dK w1), by simp⟩
    · rename_i h1
      cases h
      obtain ⟨a, rfl, p1, vs, w1, v1⟩ := s.ref r h1
      exact ⟨.base (.dT w1), by simp⟩
    · cases h
  | opq u => cases h
def bIsi : List D → C D := fun ds S => match ds with
  | [d, .opq (.ty T)] => (match (tyN S d).bind fun t => subN t T with | some b => .ok (.bl b) S | none => .bad)
  | _ => .bad
theorem subN_ok {K : PySem.W.Frag} {t T : String} {b : Bool} (ht : t = "NoneType" ∨ t = "bool" ∨ t = "int" ∨ t = "str" ∨ t = "tuple" ∨ t = "list" ∨ t = "dict") (h : subN t T = some b) : PySem.W.kitOne K (.type t) (.type T) = some b := by
  unfold subN at h
  split at h
  all_goals first
    | (cases h; done)
    | (cases h
       rcases ht with rfl | rfl | rfl | rfl | rfl | rfl | rfl <;> exact kit_ty (by decide +kernel))
theorem bi_isi : Bi X W (.builtin "isinstance") bIsi := by
  refine ⟨_, call_isi, fun ρ S H σ ds xs Q s r o => ?_⟩
  unfold bIsi at o
  split at o
  · obtain ⟨v, w, rfl, r1, r2⟩ := r.two
    rw [VR_opq] at r2; subst r2
    split at o
    · rename_i b hb
      rw [Option.bind_eq_some_iff] at hb
      obtain ⟨t, h1, h2⟩ := hb
      obtain ⟨h3, h4⟩ := tyN_ok s r1 h1
      exact ⟨v, _, _, _, b, rfl, .ty _, h3, subN_ok h4 h2, o ρ H _ (.refl _ _) s (VR_bl.mpr rfl)⟩
    · exact o.elim
  · exact o.elim
/-- a built-in class as a value -/
theorem de_ty {T : String} (hg : Gl X x) (hm : X.mg x = none) (hv : bootBuiltins x = some (.type T)) (hn : x ≠ "__name__" := by decide) (hd : (x == ("__debug__" : Str)) = false := by decide) : DE X W (.Name x pos) (eC (.opq (.ty T))) :=
  PE.weak (pe_bltn hg hm hv (v := .ty T) rfl hn hd) fun σ H Q h => eC_ok (fun ρ => VR_opq.mpr rfl) h
end
end Mir

namespace Mir
open PySem L2 PyProof.Rows
section
variable {X : Cx} {W : WX} {a b c e o i tg iter : Expr} {es : List Expr} {fa fb fc fe fo fi : ME} {ga : MA} {pos p apos : Pos} {x : Str}

/-! ### while -/
def whStep (rec : MS) (t : MT) (b : MS) : MS := fun G S => (t G S).s G fun k S1 => if k = true then (match b G S1 with
    | .nx G' S' => rec G' S'
    | .ct G' S' => rec G' S'
    | .bk G' S' => .nx G' S'
    | r => r) else .nx G S1
def whileF : Nat → MT → MS → MS
  | 0, _, _ => fun _ _ => .bad
  | n + 1, t, b => whStep (whileF n t b) t b
theorem whStep_imp {f g : MS} {t : MT} {b : MS} {G : GE} {S : ST} (h : ∀ G S, f G S ≠ .bad → g G S = f G S) (hb : whStep f t b G S ≠ .bad) : whStep g t b G S = whStep f t b G S := by
  unfold whStep at hb ⊢
  cases e : t G S with
  | ok k S1 =>
    rw [e] at hb
    rw [R.s_ok] at hb ⊢
    rw [R.s_ok]
    by_cases c : k = true
    · rw [if_pos c] at hb ⊢
      rw [if_pos c]
      cases q : b G S1 with
      | nx G' S' => rw [q] at hb; exact h _ _ hb
      | ct G' S' => rw [q] at hb; exact h _ _ hb
      | _ => rfl
    · rw [if_neg c, if_neg c]
  | exc c fs S1 => rfl
  | bad => rfl
theorem whileF_mono {t : MT} {b : MS} : ∀ (n : Nat) {G : GE} {S : ST}, whileF n t b G S ≠ .bad → whileF (n + 1) t b G S = whileF n t b G S
  | 0, G, S, h => absurd rfl h
  | n + 1, G, S, h => whStep_imp (fun G S h => whileF_mono n h) h
theorem whileF_le {t : MT} {b : MS} {G : GE} {S : ST} {n : Nat} (h : whileF n t b G S ≠ .bad) : ∀ {m : Nat}, n ≤ m → whileF m t b G S = whileF n t b G S := by
  intro m hm
  induction hm with
  | refl => rfl
  | step _ ih => rw [whileF_mono _ (by rw [ih]; exact h), ih]
open Classical in
noncomputable def sWhile (t : MT) (b : MS) : MS := fun G S => if h : ∃ n, whileF n t b G S ≠ .bad then whileF (Classical.choose h) t b G S else .bad
theorem sWhile_eq {t : MT} {b : MS} {G : GE} {S : ST} (n : Nat) (h : whileF n t b G S ≠ .bad) : sWhile t b G S = whileF n t b G S := by
  have hx : ∃ n, whileF n t b G S ≠ .bad := ⟨n, h⟩
  unfold sWhile
  rw [dif_pos hx]
  have hc := Classical.choose_spec hx
  rcases Nat.le_total n (Classical.choose hx) with l | l
  · exact whileF_le h l
  · exact (whileF_le hc l).symm
theorem sWhile_bad {t : MT} {b : MS} {G : GE} {S : ST} (h : ∀ n, whileF n t b G S = .bad) : sWhile t b G S = .bad := by
  unfold sWhile
  rw [dif_neg (fun ⟨n, z⟩ => z (h n))]
/-- one turn -/
theorem sWhile_step {t : MT} {b : MS} {G : GE} {S : ST} : sWhile t b G S = whStep (sWhile t b) t b G S := by
  by_cases hx : ∃ n, whStep (whileF n t b) t b G S ≠ .bad
  · obtain ⟨n, h⟩ := hx
    rw [sWhile_eq (n + 1) h]
    exact (whStep_imp (fun G S h => sWhile_eq n h) h).symm
  · have hn : ∀ n, whStep (whileF n t b) t b G S = .bad := fun n => Classical.byContradiction fun h => hx ⟨n, h⟩
    rw [sWhile_bad fun n => by cases n with | zero => rfl | succ n => exact hn n]
    unfold whStep at hn ⊢
    cases e : t G S with
    | ok k S1 =>
      simp only [e, R.s_ok] at hn ⊢
      by_cases c : k = true
      · simp only [if_pos c] at hn ⊢
        cases q : b G S1 with
        | nx G' S' => simp only [q] at hn; exact (sWhile_bad hn).symm
        | ct G' S' => simp only [q] at hn; exact (sWhile_bad hn).symm
        | bk G' S' => simp only [q] at hn; exact (hn 0).symm
        | rt d S' => simp only [q] at hn; exact (hn 0).symm
        | exc c fs G' S' => simp only [q] at hn; exact (hn 0).symm
        | bad => rfl
      · simp only [if_neg c] at hn ⊢
        exact (hn 0).symm
    | exc c fs S1 => simp only [e, R.s_exc] at hn; exact (hn 0).symm
    | bad => rfl
theorem ds_while {t : MT} {f : MS} {body : List Stmt} (hp : PassesOwn (model X.prog X.w) X.A X.env X.xe) (hc : DT X W c t) (hb : DSs X W body f) : DS X W (.While c body [] pos) (sWhile t f) := by
  refine PS.weak (ps_while hp hc hb) fun Dn σ H h => ?_
  obtain ⟨ρ0, G0, S0, g0, s0, o0⟩ := h
  have ex : ∃ n, whileF n t f G0 S0 ≠ .bad := by
    apply Classical.byContradiction
    intro z
    rw [sWhile_bad fun n => Classical.byContradiction fun h => z ⟨n, h⟩] at o0
    exact o0
  obtain ⟨n0, h0⟩ := ex
  rw [sWhile_eq n0 h0] at o0
  refine ⟨fun m σ H => ∃ ρ G S, GR X.K ρ H G σ ∧ Sim X.K X.mg ρ S H ∧ OutS X W ρ H (whileF m t f G S) Dn, ⟨n0, ρ0, G0, S0, g0, s0, o0⟩, ?_⟩
  rintro m σ1 H1 ⟨ρ, G, S, g, s, o⟩
  cases m with
  | zero => exact (show False from o).elim
  | succ m =>
    have o : OutS X W ρ H1 (whStep (whileF m t f) t f G S) Dn := o
    unfold whStep at o
    refine ⟨ρ, G, S, g, s, OutG.mono (outS_bind (rel := rB) g o) (.refl _ _) fun k H2 q => ?_⟩
    obtain ⟨ρ2, S2, k', x2, s2, r2, o2⟩ := q
    have r2 : k = k' := r2
    subst r2
    have g2 := g.mono x2
    by_cases c : k = true
    · rw [if_pos c] at o2 ⊢
      refine ⟨fun σ H => ∃ ρ G S, GR X.K ρ H G σ ∧ Sim X.K X.mg ρ S H ∧ OutS X W ρ H (whileF m t f G S) Dn, fun σ' H' n' => ⟨m, Nat.lt_succ_self m, n'⟩, ρ2, G, S2, g2, s2, ?_⟩
      cases q : f G S2 with
      | nx G' S' => rw [q] at o2; exact fun ρ3 H3 σ3 x3 s3 g3 => ⟨ρ3, G', S', g3, s3, OutS.mono (r := whileF m t f G' S') o2 x3⟩
      | ct G' S' => rw [q] at o2; exact fun ρ3 H3 σ3 x3 s3 g3 => ⟨ρ3, G', S', g3, s3, OutS.mono (r := whileF m t f G' S') o2 x3⟩
      | bk G' S' => rw [q] at o2; exact o2
      | rt d S' => rw [q] at o2; exact o2
      | exc c fs G' S' => rw [q] at o2; exact o2
      | bad => rw [q] at o2; exact o2
    · rw [if_neg c] at o2 ⊢
      exact outS_nx g2 s2 o2

/-! ### what is walked -/
/-- items, and the list that has to stay -/
structure Src where
  ds : List D
  gd : Option Nat
def Src.ok (r : Src) (S : ST) : Prop := match r.gd with | none => True | some n => S[n]? = some (.lst r.ds)
/-- an iterator of these items -/
def IsSrc (X : Cx) (ρ : List Addr) (H : Hp) (r : Src) (J : It) : Prop := ∃ (G : Hp → Prop) (Y : Nat → Hp → V → Hp → Prop), L2.Walk J r.ds.length G Y ∧
  (∀ ρ1 S1 H1, Ext ρ H ρ1 H1 → Sim X.K X.mg ρ1 S1 H1 → r.ok S1 → G H1) ∧
  ∀ (i : Nat) ρ1 S1 H1 x H2, i < r.ds.length → Ext ρ H ρ1 H1 → Sim X.K X.mg ρ1 S1 H1 → r.ok S1 → Y i H1 x H2 → Ext ρ1 H1 ρ1 H2 ∧ Sim X.K X.mg ρ1 S1 H2 ∧ ∃ d, r.ds[i]? = some d ∧ VR X.K ρ1 H2 d x
abbrev MI := GE → ST → R Src
abbrev tI (X : Cx) (W : WX) (f : MI) : TI := tG X W (fun ρ H r J => IsSrc X ρ H r J) f
abbrev DI (X : Cx) (W : WX) (tg iter : Expr) (f : MI) : Prop := PI X tg iter (tI X W f)
theorem PI.weak {w w' : TI} (h : PI X tg iter w) (k : ∀ σ H R, w' σ H R → w σ H R) : PI X tg iter w' := ⟨fun pins s σ H R I q => h.run pins s σ H R I (k σ H R q)⟩
theorem PI.orr {w w' : TI} (h : PI X tg iter w) (h' : PI X tg iter w') : PI X tg iter (fun σ H R => w σ H R ∨ w' σ H R) := ⟨fun pins s σ H R I q => q.elim (h.run pins s σ H R I) (h'.run pins s σ H R I)⟩
/-- one by one: the heap as it was -/
theorem src_at {J : It} {n : Nat} {G : Hp → Prop} {Y : Nat → Hp → V → Hp → Prop} {ρ : List Addr} {H : Hp} {r : Src} (w : L2.Walk J r.ds.length G Y) (hG : ∀ ρ1 S1 H1, Ext ρ H ρ1 H1 → Sim X.K X.mg ρ1 S1 H1 → r.ok S1 → G H1)
    (hY : ∀ (i : Nat) ρ1 S1 H1 x H2, i < r.ds.length → Ext ρ H ρ1 H1 → Sim X.K X.mg ρ1 S1 H1 → r.ok S1 → Y i H1 x H2 → H2 = H1 ∧ ∃ d, r.ds[i]? = some d ∧ VR X.K ρ1 H1 d x) : IsSrc X ρ H r J :=
  ⟨G, Y, w, hG, fun i ρ1 S1 H1 x H2 hi x1 s1 h1 y => by
    obtain ⟨e, d, h2, h3⟩ := hY i ρ1 S1 H1 x H2 hi x1 s1 h1 y
    subst e
    exact ⟨.refl _ _, s1, d, h2, h3⟩⟩
theorem VRs.at {K : PySem.W.Frag} {ρ : List Addr} {H : Hp} : ∀ {ds : List D} {vs : List V} {i : Nat} {v : V}, VRs K ρ H ds vs → vs[i]? = some v → ∃ d, ds[i]? = some d ∧ VR K ρ H d v
  | [], vs, i, v, h, e => by rw [h.nil_l] at e; simp at e
  | d :: ds, vs, i, v, h, e => by
    obtain ⟨u, r, rfl, h1, h2⟩ := h.cons_l
    cases i with
    | zero => simp at e; subst e; exact ⟨d, rfl, h1⟩
    | succ i => simpa using VRs.at (i := i) h2 (by simpa using e)
def seqSrc (S : ST) : D → Option Src
  | .tup ds => some ⟨ds, none⟩
  | .fl ds => some ⟨ds, none⟩
  | .ref n => match S[n]? with | some (.lst ds) => some ⟨ds, some n⟩ | _ => none
  | .str z => some ⟨z.cps.toList.map fun c => .str ⟨#[c]⟩, none⟩
  | _ => none
def iSeq (f : ME) : MI := fun G S => (f G S).bind fun d S1 => match seqSrc S1 d with | some r => .ok r S1 | none => .bad
theorem di_seq (he : DE X W iter fe) : DI X W tg iter (iSeq fe) := by
  refine PI.weak (PI.orr (pi_list he) (PI.orr (pi_tup he) (pi_str he))) fun σ H R h => ?_
  obtain ⟨ρ, G, S, g, s, o⟩ := h
  unfold iSeq at o
  cases e : fe G S with
  | exc c fs S1 =>
    rw [e] at o
    refine .inl ⟨ρ, G, S, g, s, ?_⟩
    rw [e]
    exact o
  | bad => rw [e] at o; exact o.elim
  | ok d S1 =>
    rw [e] at o
    rw [Mir.R.bind_ok] at o
    have start : ∀ {Q : VK}, (∀ ρ1 H1 v, Ext ρ H ρ1 H1 → Sim X.K X.mg ρ1 S1 H1 → VR X.K ρ1 H1 d v → Q v H1) → tE X W fe σ H Q := fun q => ⟨ρ, G, S, g, s, by rw [e]; exact q⟩
    cases d with
    | tup ds =>
      refine .inr (.inl (start fun ρ1 H1 v x1 s1 r => ?_))
      obtain ⟨a, vs, rfl, q, v1⟩ := VR_tup.mp r
      refine ⟨a, rfl, ⟨vs, q⟩, o ρ1 H1 _ x1 s1 ?_⟩
      refine src_at (n := ds.length) (r := ⟨ds, none⟩) (G := fun H => SqT X.K H a vs) (by rw [v1.length]; exact walk_tup) (fun ρ2 S2 H2 x2 _ _ => x2.kp.sqt q) fun i ρ2 S2 H2 y H3 hi x2 s2 _ hy => ?_
      obtain ⟨e1, e2⟩ := hy
      exact ⟨e1, (v1.mono x2).at e2⟩
    | fl ds =>
      refine .inl (start fun ρ1 H1 v x1 s1 r => ?_)
      obtain ⟨a, vs, rfl, q, v1⟩ := VR_fl.mp r
      refine ⟨a, rfl, ⟨vs, q.sql⟩, o ρ1 H1 _ x1 s1 ?_⟩
      refine src_at (n := ds.length) (r := ⟨ds, none⟩) (G := fun H => SqL X.K H a vs) (by rw [v1.length]; exact walk_list) (fun ρ2 S2 H2 x2 _ _ => (x2.kp.frl q).sql) fun i ρ2 S2 H2 y H3 hi x2 s2 _ hy => ?_
      obtain ⟨e1, e2⟩ := hy
      exact ⟨e1, (v1.mono x2).at e2⟩
    | str z =>
      refine .inr (.inr (start fun ρ1 H1 v x1 s1 r => ?_))
      rw [VR_str] at r; subst r
      refine ⟨z, rfl, o ρ1 H1 _ x1 s1 ?_⟩
      refine src_at (n := z.cps.size) (r := ⟨z.cps.toList.map fun c => .str ⟨#[c]⟩, none⟩) (G := fun _ => True) (by simpa using walk_str) (fun _ _ _ _ _ _ => True.intro) fun i ρ2 S2 H2 y H3 hi x2 s2 _ hy => ?_
      obtain ⟨e1, c, e2, rfl⟩ := hy
      refine ⟨e1, .str ⟨#[c]⟩, ?_, VR_str.mpr rfl⟩
      show (z.cps.toList.map _)[i]? = _
      rw [List.getElem?_map, Array.getElem?_toList, e2]
      rfl
    | ref n =>
      refine .inl (start fun ρ1 H1 v x1 s1 r => ?_)
      unfold seqSrc at o
      dsimp only at o
      cases q : S1[n]? with
      | none => rw [q] at o; exact o.elim
      | some ob =>
        rw [q] at o
        cases ob with
        | lst ds =>
          obtain ⟨a, rfl, p1, vs, w1, v1⟩ := s1.ref r q
          refine ⟨a, rfl, ⟨vs, SqL.of w1⟩, o ρ1 H1 _ x1 s1 ?_⟩
          refine ⟨fun H => ∃ ρ S, ρ[n]? = some a ∧ Sim X.K X.mg ρ S H ∧ S[n]? = some (.lst ds), fun i H x H' => H' = H ∧ ∀ xs, SqL X.K H a xs → xs[i]? = some x, ⟨fun i H hi z => ?_, fun H z => ?_, fun i H x H' hi z y => y⟩, fun ρ2 S2 H2 x2 s2 h2 => ⟨ρ2, S2, x2.get p1, s2, h2⟩, fun i ρ2 S2 H2 y H3 hi x2 s2 h2 hy => ?_⟩
          · obtain ⟨ρ2, S2, p2, s2, h2⟩ := z
            obtain ⟨vs2, w2, v2⟩ := s2.obj n a _ p2 h2
            exact ⟨vs2, vs2[i]'(by rw [← v2.length]; exact hi), SqL.of w2, by simp⟩
          · obtain ⟨ρ2, S2, p2, s2, h2⟩ := z
            obtain ⟨vs2, w2, v2⟩ := s2.obj n a _ p2 h2
            exact ⟨vs2, SqL.of w2, by rw [← v2.length]; exact Nat.le_refl _⟩
          · obtain ⟨rfl, hy⟩ := hy
            have h2 : S2[n]? = some (.lst ds) := h2
            obtain ⟨vs2, w2, v2⟩ := s2.obj n a _ (x2.get p1) h2
            exact ⟨.refl _ _, s2, v2.at (hy vs2 (SqL.of w2))⟩
        | _ => exact o.elim
    | _ => exact o.elim
/-- ranges -/
def lim62 (i : Int) : Bool := decide (-4611686018427387904 ≤ i) && decide (i < 4611686018427387904)
def rngD (lo c : Int) (n : Nat) : List D := (List.range n).map fun (i : Nat) => D.int (lo + (i : Int) * c)
theorem rngD_get {lo c : Int} {n i : Nat} (h : i < n) : (rngD lo c n)[i]? = some (.int (lo + (i : Int) * c)) := by
  unfold rngD
  rw [List.getElem?_map, List.getElem?_range h]
  rfl
theorem src_rng {J : It} {lo c : Int} {n : Nat} {ρ : List Addr} {H : Hp} (w : L2.Walk J n (fun _ => True) (YFn fun i => .int (lo + (i : Int) * c))) : IsSrc X ρ H ⟨rngD lo c n, none⟩ J := by
  refine src_at (n := n) (r := ⟨rngD lo c n, none⟩) (G := fun _ => True) (by simpa [rngD] using w) (fun _ _ _ _ _ _ => True.intro) fun i ρ2 S2 H2 y H3 hi x2 s2 _ hy => ?_
  obtain ⟨e1, e2⟩ := hy
  subst e2
  exact ⟨e1, _, rngD_get (by simpa [rngD] using hi), VR_int.mpr rfl⟩
def iRg1 (f : MA) : MI := fun G S => (f G S).bind fun ds S1 => match ds with | [.int j] => if lim62 j = true then .ok ⟨rngD 0 1 j.toNat, none⟩ S1 else .bad | _ => .bad
theorem di_range1 (hg : Gl X "range") (hm : X.mg "range" = none) (ha : DA X W [a] ga) (hs : starEach [a] X.env = [(false, eval a X.env)] := by rfl) : DI X W tg (.Call (.Name "range" p) [a] [] pos) (iRg1 ga) := by
  refine PI.weak (pi_range1 hg hm ha hs) fun σ H Rk h => ?_
  refine tG_mono (tG_bind (f := ga) (g := fun ds G S1 => match ds with | [.int j] => if lim62 j = true then R.ok (Src.mk (rngD 0 1 j.toNat) none) S1 else .bad | _ => .bad) h) fun x H1 q => ?_
  obtain ⟨ρ, G, S, ds, g, s, r, o⟩ := q
  split at o
  · rename_i j
    split at o
    · rename_i c
      obtain ⟨v, rfl, r1⟩ := VRs.one r
      rw [VR_int] at r1; subst r1
      simp only [lim62, Bool.and_eq_true, decide_eq_true_eq] at c
      refine ⟨j, rfl, by omega, by omega, o ρ H1 _ (.refl _ _) s (src_rng ?_)⟩
      simpa using walk_range (lo := 0) (n := j.toNat)
    · exact o.elim
  · exact o.elim
def iRg2 (f : MA) : MI := fun G S => (f G S).bind fun ds S1 => match ds with | [.int i, .int j] => if (lim62 i && lim62 j) = true then .ok ⟨rngD i 1 (j - i).toNat, none⟩ S1 else .bad | _ => .bad
theorem di_range2 (hg : Gl X "range") (hm : X.mg "range" = none) (ha : DA X W [a, b] ga) (hs : starEach [a, b] X.env = [(false, eval a X.env), (false, eval b X.env)] := by rfl) (hs2 : starEach [b] X.env = [(false, eval b X.env)] := by rfl) :
    DI X W tg (.Call (.Name "range" p) [a, b] [] pos) (iRg2 ga) := by
  refine PI.weak (pi_range2 hg hm ha hs hs2) fun σ H Rk h => ?_
  refine tG_mono (tG_bind (f := ga) (g := fun ds G S1 => match ds with | [.int i, .int j] => if (lim62 i && lim62 j) = true then R.ok (Src.mk (rngD i 1 (j - i).toNat) none) S1 else .bad | _ => .bad) h) fun x H1 q => ?_
  obtain ⟨ρ, G, S, ds, g, s, r, o⟩ := q
  split at o
  · rename_i i j
    split at o
    · rename_i c
      obtain ⟨v, w, rfl, r1, r2⟩ := VRs.two r
      rw [VR_int] at r1 r2; subst r1 r2
      simp only [lim62, Bool.and_eq_true, decide_eq_true_eq] at c
      refine ⟨i, j, rfl, by omega, o ρ H1 _ (.refl _ _) s (src_rng ?_)⟩
      simpa using walk_range (lo := i) (n := (j - i).toNat)
    · exact o.elim
  · exact o.elim
/-- range(i, j, -1) -/
def iRgN (f : MA) : MI := fun G S => (f G S).bind fun ds S1 => match ds with | [.int i, .int j, .int c] => if (decide (c = -1) && (lim62 i && lim62 j)) = true then .ok ⟨rngD i (-1) (i - j).toNat, none⟩ S1 else .bad | _ => .bad
theorem di_range3 (hg : Gl X "range") (hm : X.mg "range" = none) (ha : DA X W [a, b, c] ga) (hs : starEach [a, b, c] X.env = (false, eval a X.env) :: starEach [b, c] X.env := by rfl) (hpl : (backTo pos (starEach [b, c] X.env)).any (·.1) = false := by rfl) :
    DI X W tg (.Call (.Name "range" p) [a, b, c] [] pos) (iRgN ga) := by
  refine PI.weak (pi_range3 hg hm ha hs hpl) fun σ H Rk h => ?_
  refine tG_mono (tG_bind (f := ga) (g := fun ds G S1 => match ds with | [.int i, .int j, .int c] => if (decide (c = -1) && (lim62 i && lim62 j)) = true then R.ok (Src.mk (rngD i (-1) (i - j).toNat) none) S1 else .bad | _ => .bad) h) fun x H1 q => ?_
  obtain ⟨ρ, G, S, ds, g, s, r, o⟩ := q
  split at o
  · rename_i i j cc
    split at o
    · rename_i c
      obtain ⟨u, r', rfl, r1, r2⟩ := VRs.cons_l r
      obtain ⟨v, w, rfl, r2, r3⟩ := VRs.two r2
      rw [VR_int] at r1 r2 r3; subst r1 r2 r3
      simp only [lim62, Bool.and_eq_true, decide_eq_true_eq] at c
      obtain ⟨c0, c⟩ := c
      subst c0
      refine ⟨i, j, -1, (i - j).toNat, rfl, RgC.neg (by omega) (by omega) (by omega) (by omega), o ρ H1 _ (.refl _ _) s (src_rng walk_rangeC)⟩
    · exact o.elim
  · exact o.elim
end
end Mir

namespace Mir
open PySem L2 PyProof.Rows
section
variable {X : Cx} {W : WX} {a b c e o i tg iter elt : Expr} {es : List Expr} {fa fb fc fe fo fi : ME} {ga : MA} {pos p apos : Pos} {x : Str}

/-! ### for -/
open Classical in
noncomputable def forF (r : Src) (t : Tg) (body : MS) : List D → MS
  | [] => fun G S => if r.ok S then .nx G S else .bad
  | d :: ds => fun G S => if r.ok S then (match bindT t d G S with
    | some G1 => (match body G1 S with
      | .nx G2 S2 => forF r t body ds G2 S2
      | .ct G2 S2 => forF r t body ds G2 S2
      | .bk G2 S2 => .nx G2 S2
      | q => q)
    | none => .bad) else .bad
noncomputable def sFor (f : MI) (t : Tg) (body : MS) : MS := fun G S => (f G S).s G fun r S1 => forF r t body r.ds G S1
theorem ds_for {f : MI} {t : Tg} {fb : MS} {body : List Stmt} (hp : PassesOwn (model X.prog X.w) X.A X.env X.xe) (hc : X.calm = true) (hi : DI X W tg iter f) (hg : DG X tg t) (hb : DSs X W body fb)
    (hs : ∀ x, foldedSetIterable iter X.env x = pure x := by intro _; rfl) : DS X W (.For tg iter body [] pos) (sFor f t fb) := by
  refine PS.weak (ps_for hp hc hi hg hb hs) fun Dn σ H h => ?_
  refine tG_mono (tS_bind (f := f) (k := fun r G S1 => forF r t fb r.ds G S1) (rel := fun ρ H r J => IsSrc X ρ H r J) h) fun J H0 q => ?_
  obtain ⟨ρ0, G0, S0, r, g0, s0, ⟨Gd, Y, w, hG, hY⟩, o0⟩ := q
  refine for_it w (fun i σ H => ∃ ρ G S, Ext ρ0 H0 ρ H ∧ GR X.K ρ H G σ ∧ Sim X.K X.mg ρ S H ∧ OutS X W ρ H (forF r t fb (r.ds.drop i) G S) Dn) ⟨ρ0, G0, S0, .refl _ _, g0, s0, o0⟩ ?_ ?_ ?_
  · rintro i σ1 H1 hi ⟨ρ, G, S, x1, g, s, o⟩
    refine hG ρ S H1 x1 s ?_
    cases e : r.ds.drop i with
    | nil =>
      rw [e] at o
      unfold forF at o
      by_cases k : r.ok S
      · exact k
      · rw [if_neg k] at o; exact (show False from o).elim
    | cons d ds =>
      rw [e] at o
      unfold forF at o
      by_cases k : r.ok S
      · exact k
      · rw [if_neg k] at o; exact (show False from o).elim
  · rintro i v σ1 H1 H2 hi ⟨ρ, G, S, x1, g, s, o⟩ hy
    rw [List.drop_eq_getElem_cons hi] at o
    unfold forF at o
    by_cases k : r.ok S
    · rw [if_pos k] at o
      obtain ⟨x2, s2, d, hd, rd⟩ := hY i ρ S H1 v H2 hi x1 s k hy
      have ed : r.ds[i] = d := by
        rw [List.getElem?_eq_getElem hi] at hd
        exact Option.some.inj hd
      rw [ed] at o
      split at o
      · rename_i G1 hG1
        refine bindT_ok s2 (g.mono x2) rd hG1 fun vs _ g1 => ?_
        refine ⟨ρ, G1, S, g1, s2, ?_⟩
        cases q : fb G1 S with
        | nx G2 S2 => rw [q] at o; exact fun ρ3 H3 σ3 x3 s3 g3 => ⟨ρ3, G2, S2, (x1.trans x2).trans x3, g3, s3, OutS.mono (r := forF r t fb (r.ds.drop (i + 1)) G2 S2) o (x2.trans x3)⟩
        | ct G2 S2 => rw [q] at o; exact fun ρ3 H3 σ3 x3 s3 g3 => ⟨ρ3, G2, S2, (x1.trans x2).trans x3, g3, s3, OutS.mono (r := forF r t fb (r.ds.drop (i + 1)) G2 S2) o (x2.trans x3)⟩
        | bk G2 S2 => rw [q] at o; exact fun ρ3 H3 σ3 x3 s3 g3 => o ρ3 H3 σ3 (x2.trans x3) s3 g3
        | rt d S2 => rw [q] at o; exact fun ρ3 H3 v x3 s3 r3 => o ρ3 H3 v (x2.trans x3) s3 r3
        | exc c fs G2 S2 => rw [q] at o; exact fun ρ3 H3 σ3 cls dx x3 s3 g3 r3 => o ρ3 H3 σ3 cls dx (x2.trans x3) s3 g3 r3
        | bad => rw [q] at o; exact o
      · exact (show False from o).elim
    · rw [if_neg k] at o; exact (show False from o).elim
  · rintro σ1 H1 ⟨ρ, G, S, x1, g, s, o⟩
    rw [List.drop_length] at o
    unfold forF at o
    by_cases k : r.ok S
    · rw [if_pos k] at o; exact outS_nx g s o
    · rw [if_neg k] at o; exact (show False from o).elim

/-! ### comprehensions -/
abbrev DPT (X : Cx) (W : WX) (ifs : List Expr) (f : MT) : Prop := PTs X ifs (tT X W f)
def tYesM : MT := fun _ S => .ok true S
theorem PTs.weak {ifs : List Expr} {t t' : TT} (h : PTs X ifs t) (k : ∀ σ H Q, t' σ H Q → t σ H Q) : PTs X ifs t' := ⟨fun pins s σ H Q I q => h.run pins s σ H Q I (k σ H Q q)⟩
theorem dpt_nil : DPT X W [] tYesM := PTs.weak pts_nil fun σ H Q h => by
  obtain ⟨ρ, G, S, g, s, o⟩ := h
  exact o ρ H true (.refl _ _) s rfl
theorem dpt_one {f : MT} (h : DT X W c f) : DPT X W [c] f := pts_one h
open Classical in
/-- the items into the list at n -/
noncomputable def lcF (r : Src) (t : Tg) (tt : MT) (fe : ME) (n : Nat) (G : GE) : List D → ST → R D
  | [], S => if r.ok S then .ok (.ref n) S else .bad
  | d :: ds, S => if r.ok S then (match bindT t d G S with
    | some G1 => (match tt G1 S with
      | .ok true S1 => (match fe G1 S1 with
        | .ok v S2 => (match S2[n]? with
          | some (.lst acc) => if acc.length < SZ then lcF r t tt fe n G ds (S2.set n (.lst (acc ++ [v]))) else .bad
          | _ => .bad)
        | _ => .bad)
      | .ok false S1 => lcF r t tt fe n G ds S1
      | _ => .bad)
    | none => .bad) else .bad
noncomputable def eLc (f : MI) (t : Tg) (tt : MT) (fe : ME) (own : List Nat) : ME := fun G S => (f G S).bind fun r S1 => lcF r t tt fe S1.length (wipeG G own) r.ds (S1 ++ [.lst []])
theorem wipe_sets : ∀ {is own : List Nat} {σ : L2.St} {vs : List V}, (∀ i ∈ is, i ∈ own) → L2.wipe (setσ σ is vs) own = L2.wipe σ own := by
  have one : ∀ {own : List Nat} {i : Nat} {σ : L2.St} {v : V}, i ∈ own → L2.wipe (σ.set i (some v)) own = L2.wipe σ own := by
    intro own
    induction own with
    | nil => intro i σ v h; cases h
    | cons j own ih =>
      intro i σ v h
      unfold L2.wipe
      by_cases hi : i ∈ own
      · rw [ih hi]
      · have e : i = j := by
          rcases List.mem_cons.mp h with e | e
          · exact e
          · exact absurd e hi
        subst e
        have comm : ∀ {own : List Nat}, i ∉ own → L2.wipe (σ.set i (some v)) own = (L2.wipe σ own).set i (some v) := by
          intro own
          induction own with
          | nil => intro _; rfl
          | cons k own ih2 =>
            intro hk
            unfold L2.wipe
            rw [ih2 (fun z => hk (List.mem_cons_of_mem _ z)), List.set_comm _ _ (fun z => hk (by rw [z]; exact List.mem_cons_self))]
        rw [comm hi, List.set_set]
  intro is
  induction is with
  | nil => intro own σ vs _; cases vs <;> rfl
  | cons i is ih =>
    intro own σ vs h
    cases vs with
    | nil => rfl
    | cons v vs =>
      show L2.wipe (setσ (σ.set i (some v)) is vs) own = _
      rw [ih fun j hj => h j (List.mem_cons_of_mem _ hj), one (h i List.mem_cons_self)]
theorem wipe_wipe {own : List Nat} {σ : L2.St} : ∀ {l : List Nat}, (∀ i ∈ l, i ∈ own) → L2.wipe (L2.wipe σ own) l = L2.wipe σ own := by
  intro l
  induction l with
  | nil => intro _; rfl
  | cons j l ih =>
    intro hl
    show (L2.wipe (L2.wipe σ own) l).set j none = L2.wipe σ own
    rw [ih fun i hi => hl i (List.mem_cons_of_mem _ hi)]
    refine List.ext_getElem? fun m => ?_
    by_cases hm : j = m
    · subst hm
      have hj := hl j List.mem_cons_self
      by_cases hl2 : j < (L2.wipe σ own).length
      · rw [List.getElem?_set_self hl2]
        cases e : (L2.wipe σ own)[j]? with
        | none => rw [List.getElem?_eq_none_iff] at e; omega
        | some z =>
          cases z with
          | none => rfl
          | some z => exact absurd hj (wipe_some e).2
      · rw [List.getElem?_eq_none (by simpa using Nat.not_lt.mp hl2), List.getElem?_eq_none (Nat.not_lt.mp hl2)]
    · rw [List.getElem?_set_ne hm]
theorem lc_end {f : MI} {t : Tg} {tt : MT} {own : List Nat} (ht : ∀ i ∈ t.slots, i ∈ own) {σ : L2.St} {H : Hp} {Q : VK} (h : tE X W (eLc f t tt fe own) σ H Q) : tLc (tI X W f) (tgOf X.K t) (tT X W0 tt) (tE X W0 fe) own σ H Q := by
  refine tG_mono (tG_bind (f := f) (g := fun r G S1 => lcF r t tt fe S1.length (wipeG G own) r.ds (S1 ++ [.lst []])) h) fun J H0 q => ?_
  obtain ⟨ρ0, G0, S0, r, g0, s0, ⟨Gd, Y, w, hG, hY⟩, o0⟩ := q
  intro Dd hD
  have sA := s0.alloc (ho := .lst []) (o := .lst []) hD ⟨[], upd_same, .nil⟩
  have xA : Ext ρ0 H0 (ρ0 ++ [Dd]) (upd H0 Dd (.lst [])) := .alloc hD
  have nA : (ρ0 ++ [Dd])[S0.length]? = some Dd := by rw [← s0.len]; simp
  have okof : ∀ {ds : List D} {S : ST} {ρ : List Addr} {H : Hp} {G : GE}, OutG X W (rV X) ρ σ H (lcF r t tt fe S0.length G ds S) Q → r.ok S := fun {ds S ρ H G} o => by
    cases ds <;> (unfold lcF at o; by_cases k : r.ok S <;> first | exact k | (rw [if_neg k] at o; exact (show False from o).elim))
  refine lc_it w (fun i H => ∃ ρ S, Ext (ρ0 ++ [Dd]) (upd H0 Dd (.lst [])) ρ H ∧ Sim X.K X.mg ρ S H ∧ OutG X W (rV X) ρ σ H (lcF r t tt fe S0.length (wipeG G0 own) (r.ds.drop i) S) Q) ⟨ρ0 ++ [Dd], S0 ++ [.lst []], .refl _ _, sA, OutG.mono o0 xA fun _ _ z => z⟩ ?_ ?_ ?_
  · rintro i H1 hi ⟨ρ, S, x1, s, o⟩
    exact hG ρ S H1 (xA.trans x1) s (okof o)
  · rintro i v H1 H2 hi ⟨ρ, S, x1, s, o⟩ hy
    have k := okof o
    rw [List.drop_eq_getElem_cons hi] at o
    unfold lcF at o
    rw [if_pos k] at o
    obtain ⟨x2, s2, d, hd, rd⟩ := hY i ρ S H1 v H2 hi (xA.trans x1) s k hy
    have ed : r.ds[i] = d := by
      rw [List.getElem?_eq_getElem hi] at hd
      exact Option.some.inj hd
    rw [ed] at o
    have gw : GR X.K ρ H2 (wipeG G0 own) (L2.wipe σ own) := (g0.mono ((xA.trans x1).trans x2)).wipe own
    split at o
    · rename_i G1 hG1
      refine bindT_ok s2 gw rd hG1 fun vs _ g1 => ⟨?_, ρ, G1, S, g1, s2, ?_⟩
      · rw [wipe_sets ht]
        exact wipe_wipe fun _ h => h
      · -- the test
        cases e1 : tt G1 S with
        | exc c fs S1 => rw [e1] at o; exact (show False from o).elim
        | bad => rw [e1] at o; exact (show False from o).elim
        | ok kb S1 =>
          rw [e1] at o
          intro ρ3 H3 kb' x3 s3 r3
          have r3 : kb' = kb := r3
          subst r3
          cases kb' with
          | false =>
            rw [if_neg (by decide)]
            exact ⟨ρ3, S1, x1.trans (x2.trans x3), s3, OutG.mono (r := lcF r t tt fe S0.length (wipeG G0 own) (r.ds.drop (i + 1)) S1) o (x2.trans x3) fun _ _ z => z⟩
          | true =>
            rw [if_pos rfl]
            dsimp only at o
            refine ⟨ρ3, G1, S1, g1.mono x3, s3, ?_⟩
            cases e2 : fe G1 S1 with
            | exc c fs S2 => rw [e2] at o; exact (show False from o).elim
            | bad => rw [e2] at o; exact (show False from o).elim
            | ok y S2 =>
              rw [e2] at o
              intro ρ4 H4 yv x4 s4 r4
              dsimp only at o
              split at o
              · rename_i acc hacc
                split at o
                · rename_i hlen
                  have pA : ρ4[S0.length]? = some Dd := (x1.trans (x2.trans (x3.trans x4))).get nA
                  obtain ⟨vs4, w4, v4⟩ := s4.obj _ Dd _ pA hacc
                  have hm : Mut (H4 Dd) := by rw [w4]; exact True.intro
                  refine ⟨vs4, w4, by rw [sizeLine_eq, ← v4.length]; exact hlen, ρ4, S2.set S0.length (.lst (acc ++ [y])), ?_, s4.write pA hm ⟨_, upd_same, (v4.append (.cons r4 .nil)).mono (.write hm)⟩, ?_⟩
                  · exact x1.trans (x2.trans (x3.trans (x4.trans (.write hm))))
                  · exact OutG.mono o (x2.trans (x3.trans (x4.trans (.write hm)))) fun _ _ z => z
                · exact (show False from o).elim
              · exact (show False from o).elim
    · exact (show False from o).elim
  · rintro H1 ⟨ρ, S, x1, s, o⟩
    rw [List.drop_length] at o
    have k := okof o
    unfold lcF at o
    rw [if_pos k] at o
    exact o ρ H1 _ (.refl _ _) s (VR_ref.mpr ⟨Dd, x1.get nA, rfl⟩)
theorem de_lc {f : MI} {t : Tg} {tt : MT} {ifs : List Expr} {scope : Scope} {own : List (Str × Nat)} (hc : X.calm = true) (hN : X.N.Nodup) (hi : DI X W tg iter f) (ok : BlkOk X.N X.env.scope scope own)
    (hg : ∀ (s : Shared) (H : Hp) (C : Addr) (cl : List (Str × Addr)) (fp : List Addr), DG (X.blk s H scope (compEnvC scope cl C X.env) fp) tg t)
    (ht : ∀ (s : Shared) (H : Hp) (C : Addr) (cl : List (Str × Addr)) (fp : List Addr), DPT (X.blk s H scope (compEnvC scope cl C X.env) fp) W0 ifs tt)
    (he : ∀ (s : Shared) (H : Hp) (C : Addr) (cl : List (Str × Addr)) (fp : List Addr), DE (X.blk s H scope (compEnvC scope cl C X.env) fp) W0 elt fe)
    (hts : ∀ i ∈ t.slots, i ∈ own.map (·.2) := by decide) (hs : ∀ x, foldedSetIterable iter X.env x = pure x := by intro _; rfl) :
    DE X W (.ListComp elt [⟨tg, iter, ifs, 0⟩] scope pos) (eLc f t tt fe (own.map (·.2))) :=
  PE.weak (pe_lc (g := tgOf X.K t) (tt := tT X W0 tt) (te := tE X W0 fe) hc hN hi ok hg ht he hs) fun σ H Q h => lc_end hts h
theorem ds_setLc {i : Nat} {y : Str} {py spos : Pos} {f : MI} {t : Tg} {tt : MT} {ifs : List Expr} {scope : Scope} {own : List (Str × Nat)} (hc : X.calm = true) (hN : X.N.Nodup) (hy : X.N[i]? = some y) (hyl : X.env.scope.names.lookup y = some .local)
    (hsw : swapsWith (.ListComp elt [⟨tg, iter, ifs, 0⟩] scope pos) (some (.Name y py)) spos.line X.env = pure true) (hi : DI X W tg iter f) (ok : BlkOk X.N X.env.scope scope own)
    (hg : ∀ (s : Shared) (H : Hp) (C : Addr) (cl : List (Str × Addr)) (fp : List Addr), DG (X.blk s H scope (compEnvC scope cl C X.env) fp) tg t)
    (ht : ∀ (s : Shared) (H : Hp) (C : Addr) (cl : List (Str × Addr)) (fp : List Addr), DPT (X.blk s H scope (compEnvC scope cl C X.env) fp) W0 ifs tt)
    (he : ∀ (s : Shared) (H : Hp) (C : Addr) (cl : List (Str × Addr)) (fp : List Addr), DE (X.blk s H scope (compEnvC scope cl C X.env) fp) W0 elt fe)
    (hts : ∀ i ∈ t.slots, i ∈ own.map (·.2) := by decide) (hs : ∀ x, foldedSetIterable iter X.env x = pure x := by intro _; rfl) :
    DS X W (.Assign [.Name y py] (.ListComp elt [⟨tg, iter, ifs, 0⟩] scope pos) spos) (sSet i (eLc f t tt fe (own.map (·.2)))) :=
  PS.weak (ps_setLc (g := tgOf X.K t) (tt := tT X W0 tt) (te := tE X W0 fe) hc hN hy hyl hsw hi ok hg ht he hs) fun D σ H h => by
    show tLc _ _ _ _ _ σ H fun x H1 => gName i x σ H1 D.nx
    exact lc_end hts (set_end h)
end
end Mir

namespace Mir
open PySem L2 PyProof.Rows

theorem hu65 {k : Nat} {A : Around} (r : Room k A) : A.units + 65 < cLine := by have := r.un; omega
theorem hu64 {k : Nat} {A : Around} (r : Room k A) : A.units + 64 < cLine := by have := r.un; omega
/-! ### built-ins -/
theorem bb_len : bootBuiltins "len" = some (.builtin "len") := by decide +kernel
theorem bb_abs : bootBuiltins "abs" = some (.builtin "abs") := by decide +kernel
theorem bb_max : bootBuiltins "max" = some (.builtin "max") := by decide +kernel
theorem bb_min : bootBuiltins "min" = some (.builtin "min") := by decide +kernel
theorem bb_sum : bootBuiltins "sum" = some (.builtin "sum") := by decide +kernel
theorem bb_sorted : bootBuiltins "sorted" = some (.builtin "sorted") := by decide +kernel
theorem bb_isinstance : bootBuiltins "isinstance" = some (.builtin "isinstance") := by decide +kernel
theorem bb_all : bootBuiltins "all" = some (.builtin "all") := by decide +kernel
theorem bb_any : bootBuiltins "any" = some (.builtin "any") := by decide +kernel
theorem bb_int : bootBuiltins "int" = some (.type "int") := by decide +kernel
theorem bb_bool : bootBuiltins "bool" = some (.type "bool") := by decide +kernel
theorem bb_str : bootBuiltins "str" = some (.type "str") := by decide +kernel
theorem bb_list : bootBuiltins "list" = some (.type "list") := by decide +kernel
theorem bb_tuple : bootBuiltins "tuple" = some (.type "tuple") := by decide +kernel
theorem bb_dict : bootBuiltins "dict" = some (.type "dict") := by decide +kernel
/-! ### facts of the text -/
/-- a def of the text, at its name -/
def DefAt (K : PySem.W.Frag) (mg : Str → Option Value) (x qual : Str) (st : Stmt) (ps : List Str) : Prop := ∃ f fd, Fun K x qual st f fd ∧ Binds K fd ps [] ∧ mg x = some (.ref f)
/-- it keeps its promise -/
def Okd (P : Program) (w : World) (K : PySem.W.Frag) (mg : Str → Option Value) (base : Heap) (CX : CXT) (k : Nat) (x : Str) (n : Nat) (m : Fn) : Prop :=
  ∃ f fd ps, FnOk P w K mg base CX k f fd ps (spM K mg n m) ∧ PySem.W.keepIn K (.ref f) = true ∧ Binds K fd ps [] ∧ mg x = some (.ref f)
/-- a class of the text: its own attributes -/
def ClsAt (K : PySem.W.Frag) (mg : Str → Option Value) (c : Str) (fs : List Str) : Prop := ∃ C, mg c = some (.ref C) ∧ Cls K C ∧ ∀ f ∈ fs, NoAttr K C f
/-- a method of the text -/
def MethAt (K : PySem.W.Frag) (mg : Str → Option Value) (c x qual : Str) (st : Stmt) (ps : List Str) : Prop := ∃ C f fd, mg c = some (.ref C) ∧ Cls K C ∧ Meth K C x f ∧ Fun K x qual st f fd ∧ Binds K fd ps []
def InitAt (K : PySem.W.Frag) (mg : Str → Option Value) (c qual : Str) (st : Stmt) (ps : List Str) : Prop := ∃ C f fd, mg c = some (.ref C) ∧ Mk K C f ∧ Fun K "__init__" qual st f fd ∧ Binds K fd ps []
def Okm (P : Program) (w : World) (K : PySem.W.Frag) (mg : Str → Option Value) (base : Heap) (CX : CXT) (k : Nat) (c x : Str) (n : Nat) (m : Fn) : Prop :=
  ∃ C f fd ps, mg c = some (.ref C) ∧ Cls K C ∧ Meth K C x f ∧ FnOk P w K mg base CX k f fd ps (spM K mg n m) ∧ Binds K fd ps []
def Oki (P : Program) (w : World) (K : PySem.W.Frag) (mg : Str → Option Value) (base : Heap) (k : Nat) (c : Str) (n : Nat) (m : Fn) : Prop :=
  ∃ C f fd ps, mg c = some (.ref C) ∧ Mk K C f ∧ FnOk P w K mg base CX0 k f fd ps (spM K mg n m) ∧ Binds K fd ps []
def ConAt (K : PySem.W.Frag) (mg : Str → Option Value) (x : Str) (d : D) : Prop := ∃ v u, mg x = some u ∧ RelV v u ∧ ∀ ρ H, VR K ρ H d v
section
variable {X : Cx} {W : WX} {e o : Expr} {es : List Expr} {fe fo : ME} {ga : MA} {pos p apos : Pos} {x : Str} {CX : CXT} {k l n : Nat} {m : Fn}
theorem de_fnE (h : Okd X.prog X.w X.K X.mg X.base CX k x n m) (hr : Room k X.A) (hg : Gl X x) (hx : Hx CX X W)
    (ha : DA X W (e :: es) ga) (hdb : (x == ("__debug__" : Str)) = false := by decide) (he : starEach (e :: es) X.env = (false, eval e X.env) :: starEach es X.env := by rfl) (hpl : (backTo pos (starEach es X.env)).any (·.1) = false := by rfl) :
    DE X W (.Call (.Name x p) (e :: es) [] pos) (eFn n m ga) := by
  obtain ⟨f, fd, ps, F, hk, hb, hm⟩ := h
  exact de_fn F hr hg hm hk hb hx ha hdb he hpl
theorem de_fn0E (h : Okd X.prog X.w X.K X.mg X.base CX k x n m) (hr : Room k X.A) (hg : Gl X x) (hx : Hx CX X W) (hdb : (x == ("__debug__" : Str)) = false := by decide) : DE X W (.Call (.Name x p) [] [] pos) (eFn n m aNil) := by
  obtain ⟨f, fd, ps, F, hk, hb, hm⟩ := h
  exact de_fn0 F hr hg hm hk hb hx hdb
theorem de_makeE {c : Str} (h : Oki X.prog X.w X.K X.mg X.base k c n m) (hr : Room (k + 1) X.A) (hg : Gl X c)
    (ha : DA X W (e :: es) ga) (hdb : (c == ("__debug__" : Str)) = false := by decide) (he : starEach (e :: es) X.env = (false, eval e X.env) :: starEach es X.env := by rfl) (hpl : (backTo pos (starEach es X.env)).any (·.1) = false := by rfl) :
    DE X W (.Call (.Name c p) (e :: es) [] pos) (eMake c n m ga) := by
  obtain ⟨C, f, fd, ps, hm, M, F, hb⟩ := h
  exact de_make M F hr hg hm hb ha hdb he hpl
theorem de_make0E {c : Str} (h : Oki X.prog X.w X.K X.mg X.base k c n m) (hr : Room (k + 1) X.A) (hg : Gl X c) (hdb : (c == ("__debug__" : Str)) = false := by decide) : DE X W (.Call (.Name c p) [] [] pos) (eMake c n m aNil) := by
  obtain ⟨C, f, fd, ps, hm, M, F, hb⟩ := h
  exact de_make0 M F hr hg hm hb hdb
theorem methOf {c name : Str} (h : Okm X.prog X.w X.K X.mg X.base CX k c name n m) (hr : Room k X.A) (hx : Hx CX X W) (hl : ∀ ds S, ds.length ≠ n → m ds S = .bad) : MethOf X W name c m := by
  obtain ⟨C, f, fd, ps, hm, kc, km, F, hb⟩ := h
  refine ⟨fun C' hC => ?_⟩
  rw [hm] at hC
  cases hC
  exact ⟨f, CX, k, n, fd, ps, kc, km, F, hr, hb, hx, hl⟩
theorem mkFn_len {n k : Nat} {b : MS} : ∀ ds S, ds.length ≠ n → mkFn n k b ds S = .bad := fun ds S h => by
  unfold mkFn
  rw [if_neg h]
theorem de_cg {d : D} (h : ConAt X.K X.mg x d) (hg : Gl X x) (hdb : (x == ("__debug__" : Str)) = false := by decide) : DE X W (.Name x pos) (eC d) := by
  obtain ⟨v, u, h1, h2, h3⟩ := h
  exact de_glob hg h1 h2 h3 hdb
end
abbrev BearsK (K : PySem.W.Frag) (mg : Str → Option Value) (cs : List Str) (f : Str) : Prop := ∀ c ∈ cs, ∀ C, mg c = some (.ref C) → Cls K C ∧ NoAttr K C f
theorem bears_one {K : PySem.W.Frag} {mg : Str → Option Value} {c f : Str} {fs : List Str} (h : ClsAt K mg c fs) (hf : f ∈ fs) : BearsK K mg [c] f := fun c' hc C hC => by
  have e : c' = c := by simpa using hc
  subst e
  obtain ⟨C', h1, h2, h3⟩ := h
  rw [h1] at hC
  cases hC
  exact ⟨h2, h3 f hf⟩
theorem bears_cons {K : PySem.W.Frag} {mg : Str → Option Value} {c f : Str} {cs : List Str} (h : BearsK K mg [c] f) (t : BearsK K mg cs f) : BearsK K mg (c :: cs) f := fun c' hc C hC => by
  rcases List.mem_cons.mp hc with e | hc
  · exact h c' (by rw [e]; exact List.mem_cons_self) C hC
  · exact t c' hc C hC
section
variable {P : Program} {w : World} {K : PySem.W.Frag} {mg : Str → Option Value} {base : Heap} {x qual : Str} {st : Stmt} {N ps : List Str} {l n k : Nat} {body : MS}
theorem okd0 (Dx : DefAt K mg x qual st ps) (Sc : FnScope N ps (defScope st)) (hN : N.length = n + k) (hp : ps.length = n)
    (hb : ∀ (f : Addr) (cdv : Value) (A : Around) (outer : List Env) (s : Shared) (H : Hp) (E : XK), Room l (A.deeper (envOfC qual (defScope st) s.heap.objs.size f cdv)) →
      DSs (cxOf CX0 P w K mg base N qual (defScope st) f cdv A outer s H E).nox (fun c d _ H => E c d H) (defBody st) body) : Okd P w K mg base CX0 (l + 1) x n (mkFn n k body) := by
  obtain ⟨f, fd, F, b, m⟩ := Dx
  exact ⟨f, fd, ps, fn0 F Sc hN hp (hb f), F.kp, b, m⟩
theorem okm0 {c : Str} (Dx : MethAt K mg c x qual st ps) (Sc : FnScope N ps (defScope st)) (hN : N.length = n + k) (hp : ps.length = n)
    (hb : ∀ (f : Addr) (cdv : Value) (A : Around) (outer : List Env) (s : Shared) (H : Hp) (E : XK), Room l (A.deeper (envOfC qual (defScope st) s.heap.objs.size f cdv)) →
      DSs (cxOf CX0 P w K mg base N qual (defScope st) f cdv A outer s H E).nox (fun c d _ H => E c d H) (defBody st) body) : Okm P w K mg base CX0 (l + 1) c x n (mkFn n k body) := by
  obtain ⟨C, f, fd, hm, kc, km, F, b⟩ := Dx
  exact ⟨C, f, fd, ps, hm, kc, km, fn0 F Sc hN hp (hb f), b⟩
theorem oki0 {c : Str} (Dx : InitAt K mg c qual st ps) (Sc : FnScope N ps (defScope st)) (hN : N.length = n + k) (hp : ps.length = n)
    (hb : ∀ (f : Addr) (cdv : Value) (A : Around) (outer : List Env) (s : Shared) (H : Hp) (E : XK), Room l (A.deeper (envOfC qual (defScope st) s.heap.objs.size f cdv)) →
      DSs (cxOf CX0 P w K mg base N qual (defScope st) f cdv A outer s H E).nox (fun c d _ H => E c d H) (defBody st) body) : Oki P w K mg base (l + 1) c n (mkFn n k body) := by
  obtain ⟨C, f, fd, hm, M, F, b⟩ := Dx
  exact ⟨C, f, fd, ps, hm, M, fn0 F Sc hN hp (hb f), b⟩
def mBad : Fn := fun _ _ => .bad
theorem spM_bad {vs : List V} {H : Hp} {Q : VK} {E : XK} (h : spM K mg n mBad vs H Q E) : False := by
  obtain ⟨ρ, S, ds, _, _, _, o⟩ := h
  exact o
theorem okd_bad (Dx : DefAt K mg x qual st ps) (hp : ps.length = n) {CX : CXT} {l : Nat} : Okd P w K mg base CX l x n mBad := by
  obtain ⟨f, fd, F, b, m⟩ := Dx
  exact ⟨f, fd, ps, ⟨fun vs H Q E h => (spM_bad h).elim, fun A outer s H args us vs Q E _ _ _ _ h => (spM_bad h).elim⟩, F.kp, b, m⟩
theorem okm_bad {c : Str} (Dx : MethAt K mg c x qual st ps) (hp : ps.length = n) {CX : CXT} {l : Nat} : Okm P w K mg base CX l c x n mBad := by
  obtain ⟨C, f, fd, hm, kc, km, F, b⟩ := Dx
  exact ⟨C, f, fd, ps, hm, kc, km, ⟨fun vs H Q E h => (spM_bad h).elim, fun A outer s H args us vs Q E _ _ _ _ h => (spM_bad h).elim⟩, b⟩
end
/-! ### the law -/
/-- law's promise: for a list of at most 63 ints the answer is True -/
def spLaw (K : PySem.W.Frag) : Sp := fun vs H Q _ => ∃ (a : Addr) (ns : List Int), vs = [.ref a] ∧ Only H ∧ SqL K H a (ns.map V.int) ∧ ns.length ≤ 63 ∧ ∀ H', Q (.bl true) H'
theorem law_fn {P : Program} {w : World} {K : PySem.W.Frag} {mg : Str → Option Value} {base : Heap} {k : Nat} {f : Addr} {fd : FuncData} {ps : List Str} {m : Fn} (F : FnOk P w K mg base CX0 k f fd ps (spM K mg 1 m)) (hm : ∀ ns : List Int, ns.length ≤ 63 → ∃ S', m [.fl (ns.map D.int)] [] = .ok (.bl true) S') : FnOk P w K mg base CX0 k f fd ps (spLaw K) :=
  F.imp fun vs H Q E h => by
    obtain ⟨a, ns, rfl, ho, hS, hl, q⟩ := h
    obtain ⟨S', e⟩ := hm ns hl
    refine ⟨[], [], [.fl (ns.map D.int)], .cons (VR_fl.mpr ⟨a, ns.map V.int, rfl, ?_, VRs.of_ints ns⟩) .nil, rfl, ⟨List.nodup_nil, rfl, fun n a o h => by simp at h⟩, ?_⟩
    · rcases hS with (h | ⟨o, h⟩) | h
      · rcases ho a with z | ⟨o, xs, z⟩
        · rw [h] at z; cases z
        · rw [h] at z; cases z
      · exact .inl ⟨o, h⟩
      · exact .inr h
    · rw [e]
      intro ρ' H' v x s r
      rw [VR_bl] at r; subst r
      exact q H'
end Mir

namespace Mir
open PySem L2 PyProof.Rows

/-! ### running the mirror, from the left -/
abbrev XQ := Str → List (Str × D) → ST → Prop
def wpR {α : Type} (r : R α) (Q : α → ST → Prop) (X : XQ) : Prop := match r with
  | .ok a S => Q a S
  | .exc c fs S => X c fs S
  | .bad => False
def wpE {α : Type} (f : GE → ST → R α) (G : GE) (S : ST) (Q : α → ST → Prop) (X : XQ) : Prop := wpR (f G S) Q X
structure Kt where
  nx : GE → ST → Prop
  rt : D → ST → Prop
  bk : GE → ST → Prop
  ct : GE → ST → Prop
  ex : Str → List (Str × D) → GE → ST → Prop
def runK (r : RS) (K : Kt) : Prop := match r with
  | .nx G S => K.nx G S
  | .rt d S => K.rt d S
  | .bk G S => K.bk G S
  | .ct G S => K.ct G S
  | .exc c fs G S => K.ex c fs G S
  | .bad => False
def wpS (f : MS) (G : GE) (S : ST) (K : Kt) : Prop := runK (f G S) K

section
variable {α β : Type} {Q : α → ST → Prop} {X : XQ} {S : ST} {G : GE} {K : Kt}
theorem wp_ok {a : α} : wpR (.ok a S) Q X = Q a S := rfl
theorem wp_exc {c fs} : wpR (.exc c fs S : R α) Q X = X c fs S := rfl
theorem wp_bad : wpR (.bad : R α) Q X = False := rfl
theorem wp_ite {c : Prop} [Decidable c] {r : R α} : wpR (if c then r else .bad) Q X = (c ∧ wpR r Q X) := by
  by_cases h : c
  · rw [if_pos h]; simp [h]
  · rw [if_neg h]; simp [h, wp_bad]
theorem wp_bind {r : R β} {f : β → ST → R α} : wpR (r.bind f) Q X = wpR r (fun b S => wpR (f b S) Q X) X := by cases r <;> rfl
/-- names -/
def kV (o : Option (Option D)) (S : ST) (Q : D → ST → Prop) : Prop := match o with | some (some d) => Q d S | _ => False
theorem kV_some {d : D} {Q : D → ST → Prop} : kV (some (some d)) S Q = Q d S := rfl
theorem wp_eV {i : Nat} {Q : D → ST → Prop} : wpE (eV i) G S Q X = kV G[i]? S Q := by
  unfold wpE eV kV
  split <;> rename_i h
  · simp [h, wpR]
  · first
    | rfl
    | (split
       · rename_i d e; exact absurd e (h d)
       · rfl)
theorem wp_eC {d : D} {Q : D → ST → Prop} : wpE (eC d) G S Q X = Q d S := rfl
def k2b (m : D → D → C D) (a : D) (Q : D → ST → Prop) (X : XQ) : D → ST → Prop := fun b S => wpR (m a b S) Q X
def k2a (m : D → D → C D) (fb : ME) (G : GE) (Q : D → ST → Prop) (X : XQ) : D → ST → Prop := fun a S => wpE fb G S (k2b m a Q X) X
theorem wp_e2 {m : D → D → C D} {fa fb : ME} {Q : D → ST → Prop} : wpE (e2 m fa fb) G S Q X = wpE fa G S (k2a m fb G Q X) X := by
  unfold wpE e2 k2a
  rw [wp_bind]
  congr 1
  funext a S
  unfold wpE
  rw [wp_bind]
  rfl
theorem k2a_eq {m : D → D → C D} {fb : ME} {Q : D → ST → Prop} {a : D} : k2a m fb G Q X a S = wpE fb G S (k2b m a Q X) X := rfl
theorem k2b_eq {m : D → D → C D} {Q : D → ST → Prop} {a b : D} : k2b m a Q X b S = wpR (m a b S) Q X := rfl
def k1 {γ : Type} (m : γ → C α) (Q : α → ST → Prop) (X : XQ) : γ → ST → Prop := fun a S => wpR (m a S) Q X
theorem k1_eq {γ : Type} {m : γ → C α} {a : γ} : k1 m Q X a S = wpR (m a S) Q X := rfl
theorem wp_e1 {m : D → C D} {fa : ME} {Q : D → ST → Prop} : wpE (e1 m fa) G S Q X = wpE fa G S (k1 m Q X) X := by
  unfold wpE e1 k1; rw [wp_bind]
theorem wp_eCall {m : List D → C D} {ga : MA} {Q : D → ST → Prop} : wpE (eCall m ga) G S Q X = wpE ga G S (k1 m Q X) X := by
  unfold wpE eCall k1; rw [wp_bind]
theorem wp_aNil {Q : List D → ST → Prop} : wpE aNil G S Q X = Q [] S := rfl
def kC2 (d : D) (Q : List D → ST → Prop) : List D → ST → Prop := fun ds S => Q (d :: ds) S
def kC1 (g : MA) (G : GE) (Q : List D → ST → Prop) (X : XQ) : D → ST → Prop := fun d S => wpE g G S (kC2 d Q) X
theorem wp_aCons {f : ME} {g : MA} {Q : List D → ST → Prop} : wpE (aCons f g) G S Q X = wpE f G S (kC1 g G Q X) X := by
  unfold wpE aCons kC1
  rw [wp_bind]
  congr 1
  funext d S
  unfold wpE
  rw [wp_bind]
  rfl
theorem kC1_eq {g : MA} {Q : List D → ST → Prop} {d : D} : kC1 g G Q X d S = wpE g G S (kC2 d Q) X := rfl
theorem kC2_eq {d : D} {Q : List D → ST → Prop} {ds : List D} : kC2 d Q ds S = Q (d :: ds) S := rfl
def kTup (Q : D → ST → Prop) : List D → ST → Prop := fun ds S => ds.length ≤ SZ ∧ Q (.tup ds) S
theorem wp_eTup {ga : MA} {Q : D → ST → Prop} : wpE (eTup ga) G S Q X = wpE ga G S (kTup Q) X := by
  unfold wpE eTup kTup
  rw [wp_bind]
  congr 1
  funext ds S
  rw [wp_ite]; rfl
theorem kTup_eq {Q : D → ST → Prop} {ds : List D} : kTup Q ds S = (ds.length ≤ SZ ∧ Q (.tup ds) S) := rfl
def kLst (Q : D → ST → Prop) : List D → ST → Prop := fun ds S => ds.length ≤ SZ ∧ Q (.ref S.length) (S ++ [.lst ds])
theorem wp_eLst {ga : MA} {Q : D → ST → Prop} : wpE (eLst ga) G S Q X = wpE ga G S (kLst Q) X := by
  unfold wpE eLst kLst
  rw [wp_bind]
  congr 1
  funext ds S
  rw [wp_ite]; rfl
theorem kLst_eq {Q : D → ST → Prop} {ds : List D} : kLst Q ds S = (ds.length ≤ SZ ∧ Q (.ref S.length) (S ++ [.lst ds])) := rfl
theorem wp_allocO {o : O} {Q : D → ST → Prop} : wpR (allocO o S) Q X = Q (.ref S.length) (S ++ [o]) := rfl
def kFn (n : Nat) (m : Fn) (Q : D → ST → Prop) (X : XQ) : List D → ST → Prop := fun ds S => ds.length = n ∧ wpR (m ds S) Q X
theorem wp_eFn {n : Nat} {m : Fn} {ga : MA} {Q : D → ST → Prop} : wpE (eFn n m ga) G S Q X = wpE ga G S (kFn n m Q X) X := by
  unfold wpE eFn kFn
  rw [wp_bind]
  congr 1
  funext ds S
  rw [wp_ite]
theorem kFn_eq {n : Nat} {m : Fn} {Q : D → ST → Prop} {ds : List D} : kFn n m Q X ds S = (ds.length = n ∧ wpR (m ds S) Q X) := rfl
/-- tests -/
def kTb (Q : Bool → ST → Prop) : D → ST → Prop := fun d S => match d with | .bl b => Q b S | _ => False
theorem wp_tb {f : ME} {Q : Bool → ST → Prop} : wpE (tb f) G S Q X = wpE f G S (kTb Q) X := by
  unfold wpE tb
  rw [wp_bind]
  congr 1
  funext d S
  cases d <;> rfl
theorem kTb_eq {Q : Bool → ST → Prop} {b : Bool} : kTb Q (.bl b) S = Q b S := rfl
def kTru (Q : Bool → ST → Prop) : D → ST → Prop := fun d S => match truD S d with | some b => Q b S | none => False
theorem wp_tTru {f : ME} {Q : Bool → ST → Prop} : wpE (tTru f) G S Q X = wpE f G S (kTru Q) X := by
  unfold wpE tTru kTru
  rw [wp_bind]
  congr 1
  funext d S
  cases truD S d <;> rfl
theorem kTru_eq {Q : Bool → ST → Prop} {d : D} {b : Bool} (h : truD S d = some b) : kTru Q d S = Q b S := by unfold kTru; rw [h]
theorem kTru_bl {Q : Bool → ST → Prop} {b : Bool} : kTru Q (.bl b) S = Q b S := rfl
def kAnd (g : MT) (G : GE) (Q : Bool → ST → Prop) (X : XQ) : Bool → ST → Prop := fun b S => (b = true → wpE g G S Q X) ∧ (b = false → Q false S)
theorem wp_tAnd {f g : MT} {Q : Bool → ST → Prop} : wpE (Mir.tAnd f g) G S Q X = wpE f G S (kAnd g G Q X) X := by
  unfold wpE Mir.tAnd kAnd
  rw [wp_bind]
  congr 1
  funext b S
  cases b <;> simp [wpE, wp_ok]
theorem kAnd_t {g : MT} {Q : Bool → ST → Prop} : kAnd g G Q X true S = wpE g G S Q X := by simp [kAnd]
theorem kAnd_d {g : MT} {Q : Bool → ST → Prop} {p : Prop} [Decidable p] : kAnd g G Q X (decide p) S = ((p → wpE g G S Q X) ∧ (¬p → Q false S)) := by simp [kAnd]
theorem kAnd_n {g : MT} {Q : Bool → ST → Prop} {p : Prop} [Decidable p] : kAnd g G Q X (!decide p) S = ((¬p → wpE g G S Q X) ∧ (p → Q false S)) := by simp [kAnd]
theorem kAnd_f {g : MT} {Q : Bool → ST → Prop} : kAnd g G Q X false S = Q false S := by simp [kAnd]
def kOr (g : MT) (G : GE) (Q : Bool → ST → Prop) (X : XQ) : Bool → ST → Prop := fun b S => (b = true → Q true S) ∧ (b = false → wpE g G S Q X)
theorem wp_tOr {f g : MT} {Q : Bool → ST → Prop} : wpE (Mir.tOr f g) G S Q X = wpE f G S (kOr g G Q X) X := by
  unfold wpE Mir.tOr kOr
  rw [wp_bind]
  congr 1
  funext b S
  cases b <;> simp [wpE, wp_ok]
theorem kOr_t {g : MT} {Q : Bool → ST → Prop} : kOr g G Q X true S = Q true S := by simp [kOr]
theorem kOr_d {g : MT} {Q : Bool → ST → Prop} {p : Prop} [Decidable p] : kOr g G Q X (decide p) S = ((p → Q true S) ∧ (¬p → wpE g G S Q X)) := by simp [kOr]
theorem kOr_n {g : MT} {Q : Bool → ST → Prop} {p : Prop} [Decidable p] : kOr g G Q X (!decide p) S = ((¬p → Q true S) ∧ (p → wpE g G S Q X)) := by simp [kOr]
theorem kOr_f {g : MT} {Q : Bool → ST → Prop} : kOr g G Q X false S = wpE g G S Q X := by simp [kOr]
def kNot (Q : Bool → ST → Prop) : Bool → ST → Prop := fun b S => Q (!b) S
theorem wp_tNot {f : MT} {Q : Bool → ST → Prop} : wpE (Mir.tNot f) G S Q X = wpE f G S (kNot Q) X := by
  unfold wpE Mir.tNot
  rw [wp_bind]
  rfl
theorem kNot_eq {Q : Bool → ST → Prop} {b : Bool} : kNot Q b S = Q (!b) S := rfl
def kIf (f g : ME) (G : GE) (Q : D → ST → Prop) (X : XQ) : Bool → ST → Prop := fun b S => (b = true → wpE f G S Q X) ∧ (b = false → wpE g G S Q X)
theorem wp_eIf {t : MT} {f g : ME} {Q : D → ST → Prop} : wpE (eIf t f g) G S Q X = wpE t G S (kIf f g G Q X) X := by
  unfold wpE eIf kIf
  rw [wp_bind]
  congr 1
  funext b S
  cases b <;> simp [wpE]
theorem kIf_eq {f g : ME} {Q : D → ST → Prop} {b : Bool} : kIf f g G Q X b S = ((b = true → wpE f G S Q X) ∧ (b = false → wpE g G S Q X)) := rfl
theorem kIf_t {f g : ME} {Q : D → ST → Prop} : kIf f g G Q X true S = wpE f G S Q X := by simp [kIf]
theorem kIf_d {f g : ME} {Q : D → ST → Prop} {p : Prop} [Decidable p] : kIf f g G Q X (decide p) S = ((p → wpE f G S Q X) ∧ (¬p → wpE g G S Q X)) := by simp [kIf]
theorem kIf_n {f g : ME} {Q : D → ST → Prop} {b : Bool} : kIf f g G Q X (!b) S = kIf g f G Q X b S := by cases b <;> simp [kIf]
theorem kIf_f {f g : ME} {Q : D → ST → Prop} : kIf f g G Q X false S = wpE g G S Q X := by simp [kIf]
/-- and, or, not as values -/
def kAndV (g : ME) (G : GE) (Q : D → ST → Prop) (X : XQ) : D → ST → Prop := fun d S => match truD S d with | some true => wpE g G S Q X | some false => Q d S | none => False
theorem wp_eAnd {f g : ME} {Q : D → ST → Prop} : wpE (eAnd f g) G S Q X = wpE f G S (kAndV g G Q X) X := by
  unfold wpE eAnd kAndV
  rw [wp_bind]
  congr 1
  funext d S
  cases truD S d with
  | none => rfl
  | some b => cases b <;> rfl
theorem kAndV_bl {g : ME} {Q : D → ST → Prop} {b : Bool} : kAndV g G Q X (.bl b) S = ((b = true → wpE g G S Q X) ∧ (b = false → Q (.bl false) S)) := by cases b <;> simp [kAndV, truD]
def kOrV (g : ME) (G : GE) (Q : D → ST → Prop) (X : XQ) : D → ST → Prop := fun d S => match truD S d with | some true => Q d S | some false => wpE g G S Q X | none => False
theorem wp_eOr {f g : ME} {Q : D → ST → Prop} : wpE (eOr f g) G S Q X = wpE f G S (kOrV g G Q X) X := by
  unfold wpE eOr kOrV
  rw [wp_bind]
  congr 1
  funext d S
  cases truD S d with
  | none => rfl
  | some b => cases b <;> rfl
theorem kOrV_bl {g : ME} {Q : D → ST → Prop} {b : Bool} : kOrV g G Q X (.bl b) S = ((b = true → Q (.bl true) S) ∧ (b = false → wpE g G S Q X)) := by cases b <;> simp [kOrV, truD]
def kNotV (Q : D → ST → Prop) : D → ST → Prop := fun d S => match truD S d with | some b => Q (.bl (!b)) S | none => False
theorem wp_eNot {f : ME} {Q : D → ST → Prop} : wpE (eNot f) G S Q X = wpE f G S (kNotV Q) X := by
  unfold wpE eNot kNotV
  rw [wp_bind]
  congr 1
  funext d S
  cases truD S d <;> rfl
theorem kAndV_d {g : ME} {Q : D → ST → Prop} {p : Prop} [Decidable p] : kAndV g G Q X (.bl (decide p)) S = ((p → wpE g G S Q X) ∧ (¬p → Q (.bl false) S)) := by by_cases h : p <;> simp [kAndV, truD, h]
theorem kAndV_n {g : ME} {Q : D → ST → Prop} {p : Prop} [Decidable p] : kAndV g G Q X (.bl (!decide p)) S = ((¬p → wpE g G S Q X) ∧ (p → Q (.bl false) S)) := by by_cases h : p <;> simp [kAndV, truD, h]
theorem kOrV_d {g : ME} {Q : D → ST → Prop} {p : Prop} [Decidable p] : kOrV g G Q X (.bl (decide p)) S = ((p → Q (.bl true) S) ∧ (¬p → wpE g G S Q X)) := by by_cases h : p <;> simp [kOrV, truD, h]
theorem kOrV_n {g : ME} {Q : D → ST → Prop} {p : Prop} [Decidable p] : kOrV g G Q X (.bl (!decide p)) S = ((¬p → Q (.bl true) S) ∧ (p → wpE g G S Q X)) := by by_cases h : p <;> simp [kOrV, truD, h]
theorem kAndV_t {g : ME} {Q : D → ST → Prop} : kAndV g G Q X (.bl true) S = wpE g G S Q X := by simp [kAndV, truD]
theorem kAndV_f {g : ME} {Q : D → ST → Prop} : kAndV g G Q X (.bl false) S = Q (.bl false) S := by simp [kAndV, truD]
theorem kOrV_t {g : ME} {Q : D → ST → Prop} : kOrV g G Q X (.bl true) S = Q (.bl true) S := by simp [kOrV, truD]
theorem kOrV_f {g : ME} {Q : D → ST → Prop} : kOrV g G Q X (.bl false) S = wpE g G S Q X := by simp [kOrV, truD]
theorem kNotV_bl {Q : D → ST → Prop} {b : Bool} : kNotV Q (.bl b) S = Q (.bl (!b)) S := rfl
/-- a op b op' c -/
def kCh3 (m' : D → D → C D) (fc : ME) (b : D) (G : GE) (Q : D → ST → Prop) (X : XQ) : D → ST → Prop := fun k S => match k with
  | .bl true => wpE fc G S (k2b m' b Q X) X
  | .bl false => Q (.bl false) S
  | _ => False
def kCh2 (m m' : D → D → C D) (fc : ME) (a : D) (G : GE) (Q : D → ST → Prop) (X : XQ) : D → ST → Prop := fun b S => wpR (m a b S) (kCh3 m' fc b G Q X) X
def kCh1 (m m' : D → D → C D) (fb fc : ME) (G : GE) (Q : D → ST → Prop) (X : XQ) : D → ST → Prop := fun a S => wpE fb G S (kCh2 m m' fc a G Q X) X
theorem wp_eChain {m m' : D → D → C D} {fa fb fc : ME} {Q : D → ST → Prop} : wpE (eChain m m' fa fb fc) G S Q X = wpE fa G S (kCh1 m m' fb fc G Q X) X := by
  unfold wpE eChain kCh1
  rw [wp_bind]
  congr 1
  funext a S
  unfold wpE
  rw [wp_bind]
  unfold kCh2
  congr 1
  funext b S
  rw [wp_bind]
  congr 1
  funext k S
  unfold kCh3
  cases k <;> first | rfl | skip
  rename_i b
  cases b <;> first | rfl | skip
  unfold wpE
  rw [wp_bind]
  rfl
theorem kCh1_eq {m m' : D → D → C D} {fb fc : ME} {Q : D → ST → Prop} {a : D} : kCh1 m m' fb fc G Q X a S = wpE fb G S (kCh2 m m' fc a G Q X) X := rfl
theorem kCh2_eq {m m' : D → D → C D} {fc : ME} {Q : D → ST → Prop} {a b : D} : kCh2 m m' fc a G Q X b S = wpR (m a b S) (kCh3 m' fc b G Q X) X := rfl
theorem kCh3_eq {m' : D → D → C D} {fc : ME} {Q : D → ST → Prop} {b : D} {k : Bool} : kCh3 m' fc b G Q X (.bl k) S = ((k = true → wpE fc G S (k2b m' b Q X) X) ∧ (k = false → Q (.bl false) S)) := by cases k <;> simp [kCh3]
/-- slices -/
def kSl3 (d : D) (lo : Option Int) (Q : D → ST → Prop) (X : XQ) : Option Int → ST → Prop := fun hi S => wpR (mSl d lo hi S) Q X
def kSl2 (d : D) (fh : MO) (G : GE) (Q : D → ST → Prop) (X : XQ) : Option Int → ST → Prop := fun lo S => wpE fh G S (kSl3 d lo Q X) X
def kSl1 (fl fh : MO) (G : GE) (Q : D → ST → Prop) (X : XQ) : D → ST → Prop := fun d S => wpE fl G S (kSl2 d fh G Q X) X
theorem wp_eSl {fe : ME} {fl fh : MO} {Q : D → ST → Prop} : wpE (eSl fe fl fh) G S Q X = wpE fe G S (kSl1 fl fh G Q X) X := by
  unfold wpE eSl kSl1
  rw [wp_bind]
  congr 1
  funext d S
  unfold wpE
  rw [wp_bind]
  unfold kSl2
  congr 1
  funext lo S
  unfold wpE
  rw [wp_bind]
  rfl
theorem kSl1_eq {fl fh : MO} {Q : D → ST → Prop} {d : D} : kSl1 fl fh G Q X d S = wpE fl G S (kSl2 d fh G Q X) X := rfl
theorem kSl2_eq {fh : MO} {Q : D → ST → Prop} {d : D} {lo : Option Int} : kSl2 d fh G Q X lo S = wpE fh G S (kSl3 d lo Q X) X := rfl
theorem kSl3_eq {Q : D → ST → Prop} {d : D} {lo hi : Option Int} : kSl3 d lo Q X hi S = wpR (mSl d lo hi S) Q X := rfl
theorem wp_oNone {Q : Option Int → ST → Prop} : wpE oNone G S Q X = Q none S := rfl
def kO (Q : Option Int → ST → Prop) : D → ST → Prop := fun d S => match d with | .int i => Q (some i) S | _ => False
theorem wp_oSome {f : ME} {Q : Option Int → ST → Prop} : wpE (oSome f) G S Q X = wpE f G S (kO Q) X := by
  unfold wpE oSome
  rw [wp_bind]
  congr 1
  funext d S
  cases d <;> rfl
theorem kO_eq {Q : Option Int → ST → Prop} {i : Int} : kO Q (.int i) S = Q (some i) S := rfl
/-- methods -/
def kBm2 (m : D → List D → C D) (d : D) (Q : D → ST → Prop) (X : XQ) : List D → ST → Prop := fun ds S => wpR (m d ds S) Q X
def kBm (T : String) (m : D → List D → C D) (g : MA) (G : GE) (Q : D → ST → Prop) (X : XQ) : D → ST → Prop := fun d S => tyD T S d = true ∧ wpE g G S (kBm2 m d Q X) X
theorem wp_eBm {T : String} {m : D → List D → C D} {f : ME} {g : MA} {Q : D → ST → Prop} : wpE (eBm T m f g) G S Q X = wpE f G S (kBm T m g G Q X) X := by
  unfold wpE eBm kBm
  rw [wp_bind]
  congr 1
  funext d S
  rw [wp_ite]
  unfold wpE
  rw [wp_bind]
  rfl
theorem kBm_eq {T : String} {m : D → List D → C D} {g : MA} {Q : D → ST → Prop} {d : D} : kBm T m g G Q X d S = (tyD T S d = true ∧ wpE g G S (kBm2 m d Q X) X) := rfl
theorem kBm2_eq {m : D → List D → C D} {Q : D → ST → Prop} {d : D} {ds : List D} : kBm2 m d Q X ds S = wpR (m d ds S) Q X := rfl
def kBm0 (T : String) (m : D → List D → C D) (Q : D → ST → Prop) (X : XQ) : D → ST → Prop := fun d S => tyD T S d = true ∧ wpR (m d [] S) Q X
theorem wp_eBm0 {T : String} {m : D → List D → C D} {f : ME} {Q : D → ST → Prop} : wpE (eBm0 T m f) G S Q X = wpE f G S (kBm0 T m Q X) X := by
  unfold wpE eBm0 kBm0
  rw [wp_bind]
  congr 1
  funext d S
  rw [wp_ite]
theorem kBm0_eq {T : String} {m : D → List D → C D} {Q : D → ST → Prop} {d : D} : kBm0 T m Q X d S = (tyD T S d = true ∧ wpR (m d [] S) Q X) := rfl
def kMt2 (m : Fn) (o : D) (Q : D → ST → Prop) (X : XQ) : List D → ST → Prop := fun ds S => wpR (m (o :: ds) S) Q X
def kMt (name : Str) (tab : List (Str × Fn)) (g : MA) (G : GE) (Q : D → ST → Prop) (X : XQ) : D → ST → Prop := fun o S => ∃ m, methD name tab S o = some m ∧ wpE g G S (kMt2 m o Q X) X
theorem wp_eMeth {name : Str} {tab : List (Str × Fn)} {f : ME} {g : MA} {Q : D → ST → Prop} : wpE (eMeth name tab f g) G S Q X = wpE f G S (kMt name tab g G Q X) X := by
  unfold wpE eMeth kMt
  rw [wp_bind]
  congr 1
  funext o S
  cases e : methD name tab S o with
  | none => simp [wp_bad]
  | some m =>
    simp only [Option.some.injEq, exists_eq_left']
    unfold wpE
    rw [wp_bind]
    rfl
theorem kMt_eq {name : Str} {tab : List (Str × Fn)} {g : MA} {Q : D → ST → Prop} {o : D} {m : Fn} (h : methD name tab S o = some m) : kMt name tab g G Q X o S = wpE g G S (kMt2 m o Q X) X := by
  unfold kMt
  rw [h]
  simp
theorem kMt2_eq {m : Fn} {Q : D → ST → Prop} {o : D} {ds : List D} : kMt2 m o Q X ds S = wpR (m (o :: ds) S) Q X := rfl
/-- new instances -/
def kMkI (n : Nat) (Q : D → ST → Prop) : D → ST → Prop := fun d S => match d with | .non => Q (.ref n) S | _ => False
def kMk (c : Str) (n : Nat) (m : Fn) (Q : D → ST → Prop) : List D → ST → Prop := fun ds S => ds.length + 1 = n ∧ wpR (m (.ref S.length :: ds) (S ++ [.ins c []])) (kMkI S.length Q) fun _ _ _ => False
theorem wp_eMake {c : Str} {n : Nat} {m : Fn} {ga : MA} {Q : D → ST → Prop} : wpE (eMake c n m ga) G S Q X = wpE ga G S (kMk c n m Q) X := by
  unfold wpE eMake kMk
  rw [wp_bind]
  congr 1
  funext ds S
  rw [wp_ite]
  congr 1
  cases m (.ref S.length :: ds) (S ++ [.ins c []]) with
  | ok d S2 => cases d <;> rfl
  | exc c fs S2 => rfl
  | bad => rfl
theorem kMk_eq {c : Str} {n : Nat} {m : Fn} {Q : D → ST → Prop} {ds : List D} : kMk c n m Q ds S = (ds.length + 1 = n ∧ wpR (m (.ref S.length :: ds) (S ++ [.ins c []])) (kMkI S.length Q) fun _ _ _ => False) := rfl
theorem kMkI_eq {n : Nat} {Q : D → ST → Prop} : kMkI n Q .non S = Q (.ref n) S := rfl
/-- dicts -/
theorem wp_pairs_nil {Q : List (D × D) → ST → Prop} : wpE (pairsF []) G S Q X = Q [] S := rfl
def kP3 (k v : D) (Q : List (D × D) → ST → Prop) : List (D × D) → ST → Prop := fun ps S => Q ((k, v) :: ps) S
def kP2 (k : D) (r : List (ME × ME)) (G : GE) (Q : List (D × D) → ST → Prop) (X : XQ) : D → ST → Prop := fun v S => wpE (pairsF r) G S (kP3 k v Q) X
def kP1 (g : ME) (r : List (ME × ME)) (G : GE) (Q : List (D × D) → ST → Prop) (X : XQ) : D → ST → Prop := fun k S => wpE g G S (kP2 k r G Q X) X
theorem wp_pairs_cons {f g : ME} {r : List (ME × ME)} {Q : List (D × D) → ST → Prop} : wpE (pairsF ((f, g) :: r)) G S Q X = wpE f G S (kP1 g r G Q X) X := by
  unfold wpE pairsF
  rw [wp_bind]
  congr 1
  funext k S
  unfold kP1 wpE
  rw [wp_bind]
  congr 1
  funext v S
  unfold kP2 wpE
  rw [wp_bind]
  rfl
theorem kP1_eq {g : ME} {r : List (ME × ME)} {Q : List (D × D) → ST → Prop} {k : D} : kP1 g r G Q X k S = wpE g G S (kP2 k r G Q X) X := rfl
theorem kP2_eq {k v : D} {r : List (ME × ME)} {Q : List (D × D) → ST → Prop} : kP2 k r G Q X v S = wpE (pairsF r) G S (kP3 k v Q) X := rfl
theorem kP3_eq {k v : D} {Q : List (D × D) → ST → Prop} {ps : List (D × D)} : kP3 k v Q ps S = Q ((k, v) :: ps) S := rfl
def kDict (n : Nat) (Q : D → ST → Prop) : List (D × D) → ST → Prop := fun ps S => S[n]? = some (.dk []) ∧ ∃ kvs, keysD ps = some kvs ∧ kvs.length ≤ 15 ∧ Q (.ref n) (S.set n (.dk (dmerge kvs)))
theorem wp_eDict {fs : List (ME × ME)} {Q : D → ST → Prop} : wpE (eDict fs) G S Q X = wpE (pairsF fs) G (S ++ [.dk []]) (kDict S.length Q) X := by
  unfold wpE eDict
  rw [wp_bind]
  congr 1
  funext ps S1
  unfold kDict
  split
  · rename_i kvs h1 h2
    rw [wp_ite, h1, h2]
    simp [wp_ok]
  · rename_i h
    simp only [wp_bad]
    refine (eq_false ?_).symm
    rintro ⟨h1, kvs, h2, _⟩
    exact h kvs h1 h2
theorem kDict_eq {n : Nat} {Q : D → ST → Prop} {ps : List (D × D)} {kvs : List (Key × D)} (h : keysD ps = some kvs) : kDict n Q ps S = (S[n]? = some (.dk []) ∧ kvs.length ≤ 15 ∧ Q (.ref n) (S.set n (.dk (dmerge kvs)))) := by
  unfold kDict
  rw [h]
  simp

/-! ### statements -/
def kx (K : Kt) (G : GE) : XQ := fun c fs S => K.ex c fs G S
theorem run_s {α : Type} {r : R α} {k : α → ST → RS} : runK (r.s G k) K = wpR r (fun a S => runK (k a S) K) (kx K G) := by cases r <;> rfl
def Kt.seq (g : MS) (K : Kt) : Kt := { K with nx := fun G S => wpS g G S K }
theorem seq_nx {g : MS} : (K.seq g).nx G S = wpS g G S K := rfl
theorem seq_rt {g : MS} : (K.seq g).rt = K.rt := rfl
theorem seq_ex {g : MS} : (K.seq g).ex = K.ex := rfl
theorem seq_bk {g : MS} : (K.seq g).bk = K.bk := rfl
theorem seq_ct {g : MS} : (K.seq g).ct = K.ct := rfl
theorem kx_seq {g : MS} : kx (K.seq g) G = kx K G := rfl
theorem kx_mk {nx bk ct : GE → ST → Prop} {rt : D → ST → Prop} {ex : Str → List (Str × D) → GE → ST → Prop} : kx ⟨nx, rt, bk, ct, ex⟩ G = fun c fs S => ex c fs G S := rfl
theorem wp_sSeq {f g : MS} : wpS (sSeq f g) G S K = wpS f G S (K.seq g) := by
  unfold wpS sSeq
  cases f G S <;> rfl
theorem wp_sNil : wpS sNil G S K = K.nx G S := rfl
theorem wp_sBreak : wpS sBreak G S K = K.bk G S := rfl
theorem wp_sCont : wpS sCont G S K = K.ct G S := rfl
theorem wp_sRetN : wpS sRetN G S K = K.rt .non S := rfl
def kExpr (K : Kt) (G : GE) : D → ST → Prop := fun _ S => K.nx G S
theorem wp_sExpr {f : ME} : wpS (sExpr f) G S K = wpE f G S (kExpr K G) (kx K G) := by
  unfold wpS sExpr; rw [run_s]; rfl
theorem kExpr_eq {d : D} : kExpr K G d S = K.nx G S := rfl
def kRet (K : Kt) : D → ST → Prop := fun d S => K.rt d S
theorem wp_sRet {f : ME} : wpS (sRet f) G S K = wpE f G S (kRet K) (kx K G) := by
  unfold wpS sRet; rw [run_s]; rfl
theorem kRet_seq {g : MS} : kRet (K.seq g) = kRet K := rfl
theorem kRet_mk {nx bk ct : GE → ST → Prop} {rt : D → ST → Prop} {ex : Str → List (Str × D) → GE → ST → Prop} : kRet ⟨nx, rt, bk, ct, ex⟩ = rt := rfl
theorem kRet_eq {d : D} : kRet K d S = K.rt d S := rfl
def kSet (i : Nat) (K : Kt) (G : GE) : D → ST → Prop := fun d S => K.nx (G.set i (some d)) S
theorem wp_sSet {i : Nat} {f : ME} : wpS (sSet i f) G S K = wpE f G S (kSet i K G) (kx K G) := by
  unfold wpS sSet; rw [run_s]; rfl
theorem kSet_eq {i : Nat} {d : D} : kSet i K G d S = K.nx (G.set i (some d)) S := rfl
def kSetT (t : Tg) (K : Kt) (G : GE) : D → ST → Prop := fun d S => match bindT t d G S with | some G' => K.nx G' S | none => False
theorem wp_sSetT {t : Tg} {f : ME} : wpS (sSetT t f) G S K = wpE f G S (kSetT t K G) (kx K G) := by
  unfold wpS sSetT; rw [run_s]
  unfold wpE kSetT
  congr 1
  funext d S
  cases bindT t d G S <;> rfl
theorem kSetT_eq {t : Tg} {d : D} {G' : GE} (h : bindT t d G S = some G') : kSetT t K G d S = K.nx G' S := by unfold kSetT; rw [h]
def kIfS (f g : MS) (G : GE) (K : Kt) : Bool → ST → Prop := fun b S => (b = true → wpS f G S K) ∧ (b = false → wpS g G S K)
theorem wp_sIf {t : MT} {f g : MS} : wpS (sIf t f g) G S K = wpE t G S (kIfS f g G K) (kx K G) := by
  unfold wpS sIf; rw [run_s]
  unfold wpE kIfS
  congr 1
  funext b S
  cases b <;> simp [wpS]
theorem kIfS_eq {f g : MS} {b : Bool} : kIfS f g G K b S = ((b = true → wpS f G S K) ∧ (b = false → wpS g G S K)) := rfl
theorem kIfS_t {f g : MS} : kIfS f g G K true S = wpS f G S K := by simp [kIfS]
theorem kIfS_d {f g : MS} {p : Prop} [Decidable p] : kIfS f g G K (decide p) S = ((p → wpS f G S K) ∧ (¬p → wpS g G S K)) := by simp [kIfS]
theorem kIfS_n {f g : MS} {b : Bool} : kIfS f g G K (!b) S = kIfS g f G K b S := by cases b <;> simp [kIfS]
theorem kIfS_f {f g : MS} : kIfS f g G K false S = wpS g G S K := by simp [kIfS]
def kPar (i j : Nat) (K : Kt) (G : GE) : List D → ST → Prop := fun ds S => match ds with | [d, e] => K.nx ((G.set i (some d)).set j (some e)) S | _ => False
theorem wp_sPar {i j : Nat} {f : MA} : wpS (sPar i j f) G S K = wpE f G S (kPar i j K G) (kx K G) := by
  unfold wpS sPar; rw [run_s]
  unfold wpE kPar
  congr 1
  funext ds S
  split
  · rfl
  · rename_i h
    first
    | rfl
    | (split
       · exact (h _ _ rfl).elim
       · rfl)
theorem kPar_eq {i j : Nat} {d e : D} : kPar i j K G [d, e] S = K.nx ((G.set i (some d)).set j (some e)) S := rfl
def kAug2 (m : D → D → C D) (i : Nat) (d : D) (K : Kt) (G : GE) : D → ST → Prop := fun e S => wpR (m d e S) (kSet i K G) (kx K G)
def kAug (m : D → D → C D) (i : Nat) (f : ME) (K : Kt) (G : GE) : D → ST → Prop := fun d S => wpE f G S (kAug2 m i d K G) (kx K G)
theorem wp_sAug {i : Nat} {m : D → D → C D} {f : ME} : wpS (sAug i m f) G S K = kV G[i]? S (kAug m i f K G) := by
  unfold wpS sAug kV
  split
  · rename_i d e
    rw [run_s]
    (try rw [e])
    unfold kAug wpE kAug2
    (try dsimp only)
    congr 1
    funext e S
    rw [run_s]
    rfl
  · rename_i h
    first
    | rfl
    | (split
       · rename_i d e; exact absurd e (h d)
       · rfl)
theorem kAug_eq {m : D → D → C D} {i : Nat} {f : ME} {d : D} : kAug m i f K G d S = wpE f G S (kAug2 m i d K G) (kx K G) := rfl
theorem kAug2_eq {m : D → D → C D} {i : Nat} {d e : D} : kAug2 m i d K G e S = wpR (m d e S) (kSet i K G) (kx K G) := rfl
def kPut3 (v o : D) (K : Kt) (G : GE) : D → ST → Prop := fun i S => match putD S o i v with | some S4 => K.nx G S4 | none => False
def kPut2 (v : D) (fi : ME) (K : Kt) (G : GE) : D → ST → Prop := fun o S => wpE fi G S (kPut3 v o K G) (kx K G)
def kPut1 (fo fi : ME) (K : Kt) (G : GE) : D → ST → Prop := fun v S => wpE fo G S (kPut2 v fi K G) (kx K G)
theorem wp_sPut {fo fi fe : ME} : wpS (sPut fo fi fe) G S K = wpE fe G S (kPut1 fo fi K G) (kx K G) := by
  unfold wpS sPut; rw [run_s]
  unfold wpE kPut1
  congr 1
  funext v S
  rw [run_s]
  unfold wpE kPut2
  congr 1
  funext o S
  rw [run_s]
  unfold wpE kPut3
  congr 1
  funext i S
  cases putD S o i v <;> rfl
theorem kPut1_eq {fo fi : ME} {v : D} : kPut1 fo fi K G v S = wpE fo G S (kPut2 v fi K G) (kx K G) := rfl
theorem kPut2_eq {fi : ME} {v o : D} : kPut2 v fi K G o S = wpE fi G S (kPut3 v o K G) (kx K G) := rfl
theorem kPut3_eq {v o i : D} {S' : ST} (h : putD S o i v = some S') : kPut3 v o K G i S = K.nx G S' := by unfold kPut3; rw [h]
def kPA4 (o i : D) (K : Kt) (G : GE) : D → ST → Prop := fun z S => ∃ S5, o.isDict S = true ∧ putD S o i z = some S5 ∧ K.nx G S5
def kPA3 (m : D → D → C D) (old o i : D) (K : Kt) (G : GE) : D → ST → Prop := fun v S => wpR (m old v S) (kPA4 o i K G) (kx K G)
def kPA2 (m : D → D → C D) (o : D) (fe : ME) (K : Kt) (G : GE) : D → ST → Prop := fun i S => ∃ old, dGet S o i = some (some old) ∧ wpE fe G S (kPA3 m old o i K G) (kx K G)
def kPA1 (m : D → D → C D) (fi fe : ME) (K : Kt) (G : GE) : D → ST → Prop := fun o S => wpE fi G S (kPA2 m o fe K G) (kx K G)
theorem wp_sPutAug {m : D → D → C D} {fo fi fe : ME} : wpS (sPutAug m fo fi fe) G S K = wpE fo G S (kPA1 m fi fe K G) (kx K G) := by
  unfold wpS sPutAug; rw [run_s]
  unfold wpE kPA1
  congr 1
  funext o S
  rw [run_s]
  unfold wpE kPA2
  congr 1
  funext i S
  split
  · rename_i old h
    rw [run_s, h]
    simp only [Option.some.injEq, exists_eq_left']
    unfold wpE kPA3
    congr 1
    funext v S
    rw [run_s]
    congr 1
    funext z S
    unfold kPA4
    by_cases c : o.isDict S = true
    · rw [if_pos c]
      cases putD S o i z <;> simp [runK, c]
    · rw [if_neg c]
      simp [runK, c]
  · rename_i h
    refine (eq_false ?_).symm
    rintro ⟨old, h1, _⟩
    exact h old h1
theorem kPA1_eq {m : D → D → C D} {fi fe : ME} {o : D} : kPA1 m fi fe K G o S = wpE fi G S (kPA2 m o fe K G) (kx K G) := rfl
theorem kPA2_eq {m : D → D → C D} {fe : ME} {o i old : D} (h : dGet S o i = some (some old)) : kPA2 m o fe K G i S = wpE fe G S (kPA3 m old o i K G) (kx K G) := by unfold kPA2; rw [h]; simp
theorem kPA3_eq {m : D → D → C D} {old o i v : D} : kPA3 m old o i K G v S = wpR (m old v S) (kPA4 o i K G) (kx K G) := rfl
theorem kPA4_eq {o i z : D} {S5 : ST} (h : o.isDict S = true) (h5 : putD S o i z = some S5) : kPA4 o i K G z S = K.nx G S5 := by unfold kPA4; rw [h5]; simp [h]
def kFld2 (cs : List Str) (f : Str) (v : D) (K : Kt) (G : GE) : D → ST → Prop := fun o S => match putFD cs f S o v with | some S3 => K.nx G S3 | none => False
def kFld1 (cs : List Str) (f : Str) (fo : ME) (K : Kt) (G : GE) : D → ST → Prop := fun v S => wpE fo G S (kFld2 cs f v K G) (kx K G)
theorem wp_sFld {cs : List Str} {f : Str} {fo fe : ME} : wpS (Mir.sFld cs f fo fe) G S K = wpE fe G S (kFld1 cs f fo K G) (kx K G) := by
  unfold wpS Mir.sFld; rw [run_s]
  unfold wpE kFld1
  congr 1
  funext v S
  rw [run_s]
  unfold wpE kFld2
  congr 1
  funext o S
  cases putFD cs f S o v <;> rfl
theorem kFld1_eq {cs : List Str} {f : Str} {fo : ME} {v : D} : kFld1 cs f fo K G v S = wpE fo G S (kFld2 cs f v K G) (kx K G) := rfl
theorem kFld2_eq {cs : List Str} {f : Str} {v o : D} {S' : ST} (h : putFD cs f S o v = some S') : kFld2 cs f v K G o S = K.nx G S' := by unfold kFld2; rw [h]
def kFA3 (c f : Str) (o : D) (K : Kt) (G : GE) : D → ST → Prop := fun z S => match putFD [c] f S o z with | some S5 => K.nx G S5 | none => False
def kFA2 (m : D → D → C D) (c f : Str) (old o : D) (K : Kt) (G : GE) : D → ST → Prop := fun v S => wpR (m old v S) (kFA3 c f o K G) (kx K G)
def kFA1 (m : D → D → C D) (c f : Str) (o : D) (fe : ME) (K : Kt) (G : GE) : D → ST → Prop := fun old S => wpE fe G S (kFA2 m c f old o K G) (kx K G)
def kFA0 (m : D → D → C D) (c f : Str) (fe : ME) (K : Kt) (G : GE) : D → ST → Prop := fun o S => wpR (mFld [c] f o S) (kFA1 m c f o fe K G) (kx K G)
theorem wp_sFldAug {c f : Str} {m : D → D → C D} {fo fe : ME} : wpS (Mir.sFldAug c f m fo fe) G S K = wpE fo G S (kFA0 m c f fe K G) (kx K G) := by
  unfold wpS Mir.sFldAug; rw [run_s]
  unfold wpE kFA0
  congr 1
  funext o S
  rw [run_s]
  unfold kFA1 wpE
  congr 1
  funext old S
  rw [run_s]
  unfold kFA2
  congr 1
  funext v S
  rw [run_s]
  unfold kFA3
  congr 1
  funext z S
  cases putFD [c] f S o z <;> rfl
theorem kFA0_eq {m : D → D → C D} {c f : Str} {fe : ME} {o : D} : kFA0 m c f fe K G o S = wpR (mFld [c] f o S) (kFA1 m c f o fe K G) (kx K G) := rfl
theorem kFA1_eq {m : D → D → C D} {c f : Str} {fe : ME} {o old : D} : kFA1 m c f o fe K G old S = wpE fe G S (kFA2 m c f old o K G) (kx K G) := rfl
theorem kFA2_eq {m : D → D → C D} {c f : Str} {o old v : D} : kFA2 m c f old o K G v S = wpR (m old v S) (kFA3 c f o K G) (kx K G) := rfl
theorem kFA3_eq {c f : Str} {o z : D} {S' : ST} (h : putFD [c] f S o z = some S') : kFA3 c f o K G z S = K.nx G S' := by unfold kFA3; rw [h]

/-! ### loops -/
def kFor (t : Tg) (body : MS) (K : Kt) (G : GE) : Src → ST → Prop := fun r S => runK (forF r t body r.ds G S) K
theorem bindT_nm {i : Nat} {d : D} : bindT (.nm i) d G S = some (G.set i (some d)) := rfl
theorem wp_sFor {f : MI} {t : Tg} {body : MS} : wpS (sFor f t body) G S K = wpE f G S (kFor t body K G) (kx K G) := by
  unfold wpS sFor; rw [run_s]; rfl
/-- the loop's word: P of what is left, the names, the store -/
theorem for_inv {t : Tg} {body : MS} {r : Src} (P : List D → GE → ST → Prop) (h0 : P r.ds G S) (hok : ∀ ds G S, P ds G S → r.ok S) (hd : ∀ G S, P [] G S → K.nx G S)
    (hs : ∀ d ds G S, P (d :: ds) G S → ∃ G1, bindT t d G S = some G1 ∧ wpS body G1 S { nx := P ds, ct := P ds, bk := K.nx, rt := K.rt, ex := K.ex }) : kFor t body K G r S := by
  unfold kFor
  have gen : ∀ ds G S, P ds G S → runK (forF r t body ds G S) K := by
    intro ds
    induction ds with
    | nil =>
      intro G S p
      unfold forF
      rw [if_pos (hok _ _ _ p)]
      exact hd G S p
    | cons d ds ih =>
      intro G S p
      unfold forF
      rw [if_pos (hok _ _ _ p)]
      obtain ⟨G1, e, w⟩ := hs d ds G S p
      rw [e]
      unfold wpS at w
      dsimp only
      cases q : body G1 S with
      | nx G2 S2 => rw [q] at w; exact ih G2 S2 w
      | ct G2 S2 => rw [q] at w; exact ih G2 S2 w
      | bk G2 S2 => rw [q] at w; exact w
      | rt d S2 => rw [q] at w; exact w
      | exc c fs G2 S2 => rw [q] at w; exact w
      | bad => rw [q] at w; exact w
  exact gen _ _ _ h0
/-- by places -/
theorem for_at {t : Tg} {body : MS} {r : Src} (P : Nat → GE → ST → Prop) (h0 : P 0 G S) (hok : ∀ i G S, i ≤ r.ds.length → P i G S → r.ok S) (hd : ∀ G S, P r.ds.length G S → K.nx G S)
    (hs : ∀ i d G S, r.ds[i]? = some d → P i G S → ∃ G1, bindT t d G S = some G1 ∧ wpS body G1 S { nx := P (i + 1), ct := P (i + 1), bk := K.nx, rt := K.rt, ex := K.ex }) : kFor t body K G r S := by
  refine for_inv (fun ds G S => ∃ i, i ≤ r.ds.length ∧ ds = r.ds.drop i ∧ P i G S) ⟨0, Nat.zero_le _, by simp, h0⟩ ?_ ?_ ?_
  · rintro ds G S ⟨i, hi, _, p⟩
    exact hok i G S hi p
  · rintro G S ⟨i, hi, e, p⟩
    have e2 : i = r.ds.length := by
      have := congrArg List.length e
      simp at this
      omega
    subst e2
    exact hd G S p
  · rintro d ds G S ⟨i, hi, e, p⟩
    have hlt : i < r.ds.length := by
      apply Classical.byContradiction
      intro z
      rw [List.drop_eq_nil_of_le (by omega)] at e
      cases e
    rw [List.drop_eq_getElem_cons hlt] at e
    injection e with e1 e2
    obtain ⟨G1, b, w⟩ := hs i d G S (by rw [List.getElem?_eq_getElem hlt, e1]) p
    refine ⟨G1, b, ?_⟩
    have m : ∀ G S, P (i + 1) G S → ∃ i, i ≤ r.ds.length ∧ ds = r.ds.drop i ∧ P i G S := fun G S p => ⟨i + 1, hlt, e2, p⟩
    unfold wpS at w ⊢
    cases q : body G1 S with
    | nx G2 S2 => rw [q] at w; exact m _ _ w
    | ct G2 S2 => rw [q] at w; exact m _ _ w
    | bk G2 S2 => rw [q] at w; exact w
    | rt d S2 => rw [q] at w; exact w
    | exc c fs G2 S2 => rw [q] at w; exact w
    | bad => rw [q] at w; exact w
theorem rngD_len {lo c : Int} {n : Nat} : (rngD lo c n).length = n := by simp [rngD]
theorem for_rng {t : Tg} {body : MS} {lo c : Int} {n : Nat} (P : Nat → GE → ST → Prop) (h0 : P 0 G S) (hd : ∀ G S, P n G S → K.nx G S)
    (hs : ∀ i G S, i < n → P i G S → ∃ G1, bindT t (.int (lo + (i : Int) * c)) G S = some G1 ∧ wpS body G1 S { nx := P (i + 1), ct := P (i + 1), bk := K.nx, rt := K.rt, ex := K.ex }) : kFor t body K G ⟨rngD lo c n, none⟩ S := by
  refine for_at P h0 (fun _ _ _ _ _ => True.intro) (fun G S p => hd G S (by simpa [rngD_len] using p)) fun i d G S hi p => ?_
  have hlt : i < n := by
    have := (List.getElem?_eq_some_iff.mp hi).1
    simpa [rngD_len] using this
  rw [rngD_get hlt] at hi
  cases hi
  exact hs i G S hlt p
/-- while: a word and a measure -/
theorem while_inv {t : MT} {b : MS} (P : Nat → GE → ST → Prop) {n : Nat} (h0 : P n G S)
    (hs : ∀ n G S, P n G S → wpE t G S (fun k S1 => (k = true → wpS b G S1 { nx := fun G S => ∃ m, m < n ∧ P m G S, ct := fun G S => ∃ m, m < n ∧ P m G S, bk := K.nx, rt := K.rt, ex := K.ex }) ∧ (k = false → K.nx G S1)) (kx K G)) : wpS (sWhile t b) G S K := by
  unfold wpS
  induction n using Nat.strongRecOn generalizing G S with
  | _ n ih =>
    rw [sWhile_step]
    unfold whStep
    rw [run_s]
    have w := hs n G S h0
    unfold wpE at w
    cases e : t G S with
    | ok k S1 =>
      rw [e] at w
      obtain ⟨w1, w2⟩ := w
      simp only [wp_ok]
      cases k with
      | false =>
        rw [if_neg (by decide)]
        exact w2 rfl
      | true =>
        rw [if_pos rfl]
        have w1 := w1 rfl
        unfold wpS at w1
        cases q : b G S1 with
        | nx G2 S2 => rw [q] at w1; obtain ⟨m, hm, p⟩ := w1; exact ih m hm p
        | ct G2 S2 => rw [q] at w1; obtain ⟨m, hm, p⟩ := w1; exact ih m hm p
        | bk G2 S2 => rw [q] at w1; exact w1
        | rt d S2 => rw [q] at w1; exact w1
        | exc c fs G2 S2 => rw [q] at w1; exact w1
        | bad => rw [q] at w1; exact w1
    | exc c fs S1 => rw [e] at w; exact w
    | bad => rw [e] at w; exact w
/-- what is walked -/
def kSeq (Q : Src → ST → Prop) : D → ST → Prop := fun d S => match seqSrc S d with | some r => Q r S | none => False
theorem wp_iSeq {f : ME} {Q : Src → ST → Prop} : wpE (iSeq f) G S Q X = wpE f G S (kSeq Q) X := by
  unfold wpE iSeq kSeq
  rw [wp_bind]
  congr 1
  funext d S
  cases seqSrc S d <;> rfl
theorem kSeq_tup {Q : Src → ST → Prop} {ds : List D} : kSeq Q (.tup ds) S = Q ⟨ds, none⟩ S := rfl
theorem kSeq_fl {Q : Src → ST → Prop} {ds : List D} : kSeq Q (.fl ds) S = Q ⟨ds, none⟩ S := rfl
theorem kSeq_ref {Q : Src → ST → Prop} {n : Nat} {ds : List D} (h : S[n]? = some (.lst ds)) : kSeq Q (.ref n) S = Q ⟨ds, some n⟩ S := by unfold kSeq seqSrc; simp only [h]
def kRg1 (Q : Src → ST → Prop) : List D → ST → Prop := fun ds S => match ds with | [.int j] => lim62 j = true ∧ Q ⟨rngD 0 1 j.toNat, none⟩ S | _ => False
theorem wp_iRg1 {f : MA} {Q : Src → ST → Prop} : wpE (iRg1 f) G S Q X = wpE f G S (kRg1 Q) X := by
  unfold wpE iRg1
  rw [wp_bind]
  congr 1
  funext ds S
  unfold kRg1
  split
  · rw [wp_ite]; rfl
  · rename_i h
    first
    | rfl
    | (split
       · exact (h _ rfl).elim
       · rfl)
theorem kRg1_eq {Q : Src → ST → Prop} {j : Int} : kRg1 Q [.int j] S = (lim62 j = true ∧ Q ⟨rngD 0 1 j.toNat, none⟩ S) := rfl
def kRg2 (Q : Src → ST → Prop) : List D → ST → Prop := fun ds S => match ds with | [.int i, .int j] => (lim62 i && lim62 j) = true ∧ Q ⟨rngD i 1 (j - i).toNat, none⟩ S | _ => False
theorem wp_iRg2 {f : MA} {Q : Src → ST → Prop} : wpE (iRg2 f) G S Q X = wpE f G S (kRg2 Q) X := by
  unfold wpE iRg2
  rw [wp_bind]
  congr 1
  funext ds S
  unfold kRg2
  split
  · rw [wp_ite]; rfl
  · rename_i h
    first
    | rfl
    | (split
       · exact (h _ _ rfl).elim
       · rfl)
theorem kRg2_eq {Q : Src → ST → Prop} {i j : Int} : kRg2 Q [.int i, .int j] S = ((lim62 i && lim62 j) = true ∧ Q ⟨rngD i 1 (j - i).toNat, none⟩ S) := rfl
/-- comprehensions -/
def kLc (t : Tg) (tt : MT) (fe : ME) (own : List Nat) (G : GE) (Q : D → ST → Prop) (X : XQ) : Src → ST → Prop := fun r S => wpR (lcF r t tt fe S.length (wipeG G own) r.ds (S ++ [.lst []])) Q X
theorem wp_eLc {f : MI} {t : Tg} {tt : MT} {fe : ME} {own : List Nat} {Q : D → ST → Prop} : wpE (eLc f t tt fe own) G S Q X = wpE f G S (kLc t tt fe own G Q X) X := by
  unfold wpE eLc; rw [wp_bind]; rfl
/-- its word: P of what is left, the items made, the store; the new list stands at n -/
theorem lc_inv {t : Tg} {tt : MT} {fe : ME} {own : List Nat} {r : Src} {Q : D → ST → Prop} (P : List D → List D → ST → Prop) (h0 : P r.ds [] (S ++ [.lst []])) (hok : ∀ ds acc S, P ds acc S → r.ok S) (hd : ∀ acc S', P [] acc S' → Q (.ref S.length) S')
    (hs : ∀ d ds acc S', P (d :: ds) acc S' → ∃ G1, bindT t d (wipeG G own) S' = some G1 ∧ wpE tt G1 S' (fun k S1 => (k = false → P ds acc S1) ∧ (k = true → wpE fe G1 S1 (fun v S2 => S2[S.length]? = some (.lst acc) ∧ acc.length < SZ ∧ P ds (acc ++ [v]) (S2.set S.length (.lst (acc ++ [v])))) fun _ _ _ => False)) fun _ _ _ => False) :
    kLc t tt fe own G Q X r S := by
  unfold kLc
  have gen : ∀ ds acc S', P ds acc S' → wpR (lcF r t tt fe S.length (wipeG G own) ds S') Q X := by
    intro ds
    induction ds with
    | nil =>
      intro acc S' p
      unfold lcF
      rw [if_pos (hok _ _ _ p)]
      exact hd acc S' p
    | cons d ds ih =>
      intro acc S' p
      unfold lcF
      rw [if_pos (hok _ _ _ p)]
      obtain ⟨G1, e, w⟩ := hs d ds acc S' p
      rw [e]
      unfold wpE at w
      dsimp only
      cases q : tt G1 S' with
      | ok k S1 =>
        rw [q] at w
        obtain ⟨w1, w2⟩ := w
        cases k with
        | false => exact ih _ _ (w1 rfl)
        | true =>
          have w2 := w2 rfl
          dsimp only
          cases q2 : fe G1 S1 with
          | ok v S2 =>
            rw [q2] at w2
            obtain ⟨h1, h2, h3⟩ := w2
            dsimp only
            rw [h1]
            dsimp only
            rw [if_pos h2]
            exact ih _ _ h3
          | exc c fs S2 => rw [q2] at w2; exact w2.elim
          | bad => rw [q2] at w2; exact w2.elim
      | exc c fs S1 => rw [q] at w; exact w.elim
      | bad => rw [q] at w; exact w.elim
  exact gen _ _ _ h0
/-- functions -/
def kFnEnd (Q : D → ST → Prop) (X : XQ) : Kt := { nx := fun _ S => Q .non S, rt := Q, bk := fun _ _ => False, ct := fun _ _ => False, ex := fun c fs _ S => X c fs S }
theorem wp_mkFn {n k : Nat} {b : MS} {ds : List D} {Q : D → ST → Prop} : wpR (mkFn n k b ds S) Q X = (ds.length = n ∧ wpS b (ds.map some ++ List.replicate k none) S (kFnEnd Q X)) := by
  unfold mkFn wpS
  by_cases h : ds.length = n
  · rw [if_pos h]
    simp only [h, true_and]
    cases b (ds.map some ++ List.replicate k none) S <;> rfl
  · rw [if_neg h]
    simp only [h, false_and, wp_bad]
theorem fe_nx {Q : D → ST → Prop} : (kFnEnd Q X).nx G S = Q .non S := rfl
theorem fe_rt {Q : D → ST → Prop} : (kFnEnd Q X).rt = Q := rfl
theorem kRet_fe {Q : D → ST → Prop} : kRet (kFnEnd Q X) = Q := rfl
theorem kx_fe {Q : D → ST → Prop} : kx (kFnEnd Q X) G = X := rfl
theorem fe_ex {Q : D → ST → Prop} : (kFnEnd Q X).ex = fun c fs _ S => X c fs S := rfl
theorem wpR_none {r : R α} {Q : α → ST → Prop} (h : wpR r Q (fun _ _ _ => False)) : wpR r Q X := by
  cases r with
  | ok a S => exact h
  | exc c fs S => exact h.elim
  | bad => exact h
theorem wpR_mono {r : R α} {Q' : α → ST → Prop} (h : wpR r Q X) (q : ∀ a S, Q a S → Q' a S) : wpR r Q' X := by
  cases r with
  | ok a S => exact q a S h
  | exc c fs S => exact h
  | bad => exact h
theorem wpS_mono {b : MS} {G : GE} {K K' : Kt} (h : wpS b G S K) (h1 : ∀ G S, K.nx G S → K'.nx G S) (h2 : ∀ d S, K.rt d S → K'.rt d S) (h3 : ∀ G S, K.bk G S → K'.bk G S) (h4 : ∀ G S, K.ct G S → K'.ct G S) (h5 : ∀ c fs G S, K.ex c fs G S → K'.ex c fs G S) : wpS b G S K' := by
  unfold wpS runK at *
  revert h
  cases b G S with
  | nx => exact h1 _ _
  | rt => exact h2 _ _
  | bk => exact h3 _ _
  | ct => exact h4 _ _
  | exc => exact h5 _ _ _ _
  | bad => exact id
theorem wpR_eq {r : R α} (h : wpR r Q (fun _ _ _ => False)) : ∃ a S, r = .ok a S ∧ Q a S := by
  cases r with
  | ok a S => exact ⟨a, S, rfl, h⟩
  | exc c fs S => exact h.elim
  | bad => exact h.elim
theorem wpR_of {r : R α} (h : ∃ a S, r = .ok a S ∧ Q a S) : wpR r Q X := by
  obtain ⟨a, S, e, q⟩ := h
  rw [e]; exact q
end
end Mir

namespace Mir
open PySem L2 PyProof.Rows
section
variable {α : Type} {Q : D → ST → Prop} {X : XQ} {S : ST} {G : GE} {K : Kt} {i j : Int} {x y : Str} {n : Nat} {k : D} {ds es : List D} {kvs : List (Key × D)}
/-! ### the operations at known shapes -/
theorem r_add : wpR (mAdd (.int i) (.int j) S) Q X = Q (.int (i + j)) S := rfl
theorem r_addS : wpR (mAdd (.str x) (.str y) S) Q X = (x.length + y.length ≤ SZ ∧ Q (.str (x ++ y)) S) := wp_ite
theorem r_addT : wpR (mAdd (.tup ds) (.tup es) S) Q X = (ds.length + es.length ≤ SZ ∧ Q (.tup (ds ++ es)) S) := wp_ite
theorem r_iadd : wpR (mIAdd (.int i) (.int j) S) Q X = Q (.int (i + j)) S := rfl
theorem r_sub : wpR (mSub (.int i) (.int j) S) Q X = Q (.int (i - j)) S := rfl
theorem r_mul : wpR (mMul (.int i) (.int j) S) Q X = ((lim64 i || lim64 j) = true ∧ Q (.int (i * j)) S) := wp_ite
theorem r_fdiv : wpR (mFDiv (.int i) (.int j) S) Q X = (cDiv i j = true ∧ Q (.int (i / j)) S) := wp_ite
theorem r_mod : wpR (mMod (.int i) (.int j) S) Q X = (cMod i j = true ∧ Q (.int (i % j)) S) := wp_ite
theorem r_pow : wpR (mPow (.int i) (.int j) S) Q X = (cPow i j = true ∧ Q (.int (i ^ j.toNat)) S) := wp_ite
theorem r_shl : wpR (mShl (.int i) (.int j) S) Q X = (cPow i j = true ∧ Q (.int (i * 2 ^ j.toNat)) S) := wp_ite
theorem r_shr : wpR (mShr (.int i) (.int j) S) Q X = (cNn i j = true ∧ Q (.int (i / 2 ^ j.toNat)) S) := wp_ite
theorem r_and : wpR (mAnd (.int i) (.int j) S) Q X = Q (.int (Builtin.bitAnd i j)) S := rfl
theorem r_or : wpR (mOr (.int i) (.int j) S) Q X = Q (.int (Builtin.bitOr i j)) S := rfl
theorem r_xor : wpR (mXor (.int i) (.int j) S) Q X = Q (.int (Builtin.bitXor i j)) S := rfl
theorem r_neg : wpR (mNeg (.int i) S) Q X = Q (.int (-i)) S := rfl
theorem r_lt : wpR (mLt (.int i) (.int j) S) Q X = Q (.bl (decide (i < j))) S := rfl
theorem r_le : wpR (mLe (.int i) (.int j) S) Q X = Q (.bl (decide (i ≤ j))) S := rfl
theorem r_gt : wpR (mGt (.int i) (.int j) S) Q X = Q (.bl (decide (j < i))) S := rfl
theorem r_ge : wpR (mGe (.int i) (.int j) S) Q X = Q (.bl (decide (j ≤ i))) S := rfl
theorem r_eqI : wpR (mEq (.int i) (.int j) S) Q X = Q (.bl (decide (i = j))) S := rfl
theorem r_eqS : wpR (mEq (.str x) (.str y) S) Q X = Q (.bl (decide (x = y))) S := rfl
theorem r_eqB {a b : Bool} : wpR (mEq (.bl a) (.bl b) S) Q X = Q (.bl (decide (a = b))) S := rfl
theorem r_neI : wpR (mNe (.int i) (.int j) S) Q X = Q (.bl (!decide (i = j))) S := rfl
theorem r_neS : wpR (mNe (.str x) (.str y) S) Q X = Q (.bl (!decide (x = y))) S := rfl
theorem r_neB {a b : Bool} : wpR (mNe (.bl a) (.bl b) S) Q X = Q (.bl (!decide (a = b))) S := rfl
theorem r_isB {a b : Bool} : wpR (mIs (.bl a) (.bl b) S) Q X = Q (.bl (decide (a = b))) S := rfl
theorem r_isNB {a b : Bool} : wpR (mIsNot (.bl a) (.bl b) S) Q X = Q (.bl (!decide (a = b))) S := rfl
theorem r_is0 : wpR (mIs .non .non S) Q X = Q (.bl true) S := rfl
theorem r_isI : wpR (mIs (.int i) .non S) Q X = Q (.bl false) S := rfl
theorem r_isT : wpR (mIs (.tup ds) .non S) Q X = Q (.bl false) S := rfl
theorem r_isNot0 : wpR (mIsNot .non .non S) Q X = Q (.bl false) S := rfl
theorem r_isNotI : wpR (mIsNot (.int i) .non S) Q X = Q (.bl true) S := rfl
theorem r_isNotT : wpR (mIsNot (.tup ds) .non S) Q X = Q (.bl true) S := rfl
theorem r_int : wpR (bInt [.int i] S) Q X = Q (.int i) S := rfl
theorem r_intB {b : Bool} : wpR (bInt [.bl b] S) Q X = Q (.int (if b = true then 1 else 0)) S := rfl
theorem r_abs : wpR (bAbs [.int i] S) Q X = Q (.int (if i < 0 then -i else i)) S := rfl
theorem r_max2 : wpR (bMax2 [.int i, .int j] S) Q X = Q (.int (max i j)) S := rfl
theorem r_min2 : wpR (bMin2 [.int i, .int j] S) Q X = Q (.int (min i j)) S := rfl
theorem r_lenT : wpR (bLen [.tup ds] S) Q X = Q (.int ds.length) S := rfl
theorem r_lenF : wpR (bLen [.fl ds] S) Q X = Q (.int ds.length) S := rfl
def kLen (o : Option O) (Q : D → ST → Prop) (S : ST) : Prop := match o with | some (.lst ds) => Q (.int ds.length) S | some (.dk kvs) => Q (.int kvs.length) S | _ => False
theorem r_lenR : wpR (bLen [.ref n] S) Q X = kLen S[n]? Q S := by
  unfold bLen lenD kLen
  dsimp only
  split <;> split <;> simp_all [wpR]
theorem kLen_lst : kLen (some (.lst ds)) Q S = Q (.int ds.length) S := rfl
theorem kLen_dk : kLen (some (.dk kvs)) Q S = Q (.int kvs.length) S := rfl
/-- a[i] -/
def kOpt (o : Option D) (Q : D → ST → Prop) (S : ST) : Prop := match o with | some d => Q d S | none => False
theorem kOpt_some {d : D} : kOpt (some d) Q S = Q d S := rfl
def kIx (o : Option O) (k : D) (Q : D → ST → Prop) (S : ST) : Prop := match o with
  | some (.lst ds) => (match k with | .int i => kOpt (atI ds i) Q S | _ => False)
  | some (.dk kvs) => (match k.key with | some k => kOpt (look kvs k) Q S | none => False)
  | _ => False
theorem r_ixT : wpR (mIx (.tup ds) (.int i) S) Q X = kOpt (atI ds i) Q S := by
  unfold mIx mIxS ixS
  simp only [D.isDict, D.items, if_false, Bool.false_eq_true]
  cases atI ds i <;> rfl
theorem r_ixF : wpR (mIx (.fl ds) (.int i) S) Q X = kOpt (atI ds i) Q S := by
  unfold mIx mIxS ixS
  simp only [D.isDict, D.items, if_false, Bool.false_eq_true]
  cases atI ds i <;> rfl
theorem r_ixR : wpR (mIx (.ref n) k S) Q X = kIx S[n]? k Q S := by
  cases h : S[n]? with
  | none => cases k <;> simp [mIx, D.isDict, mIxS, ixS, D.items, h, kIx, wpR]
  | some o =>
    cases o with
    | lst ds =>
      simp only [mIx, D.isDict, mIxS, ixS, D.items, h, kIx, Bool.false_eq_true, if_false]
      cases k <;> first | rfl | skip
      rename_i i
      dsimp only
      cases atI ds i <;> rfl
    | dk kvs =>
      simp only [mIx, D.isDict, mIxD, dGet, h, kIx, if_true]
      cases k.key with
      | none => rfl
      | some k =>
        simp only [Option.map_some]
        cases look kvs k <;> rfl
    | dt kvs => simp [mIx, D.isDict, mIxD, dGet, h, kIx, wpR]
    | ins c fs => cases k <;> simp [mIx, D.isDict, mIxS, ixS, D.items, h, kIx, wpR]
theorem kIx_lst : kIx (some (.lst ds)) (.int i) Q S = kOpt (atI ds i) Q S := rfl
theorem kIx_dkS : kIx (some (.dk kvs)) (.str x) Q S = kOpt (look kvs (.inr x)) Q S := rfl
theorem kIx_dkI : kIx (some (.dk kvs)) (.int i) Q S = kOpt (look kvs (.inl i)) Q S := rfl
theorem look_cons {κ α : Type} [DecidableEq κ] {k j : κ} {d : α} {r : List (κ × α)} : look ((j, d) :: r) k = if j = k then some d else look r k := by
  unfold look
  by_cases h : j = k <;> simp [List.find?_cons, h]
theorem look_nil {κ α : Type} [DecidableEq κ] {k : κ} : look ([] : List (κ × α)) k = none := rfl
theorem key_int : D.key (.int i) = some (.inl i) := rfl
theorem key_str : D.key (.str x) = some (.inr x) := rfl
theorem dput_cons {κ α : Type} [DecidableEq κ] {k j : κ} {d v : α} {r : List (κ × α)} (h : j ≠ k) : dput ((j, d) :: r) k v = (j, d) :: dput r k v := by
  unfold dput
  simp only [List.any_cons, h, decide_false, Bool.false_or, List.map_cons, if_false]
  split <;> rfl
theorem dput_nil {κ α : Type} [DecidableEq κ] {k : κ} {v : α} : dput ([] : List (κ × α)) k v = [(k, v)] := rfl
theorem inr_inj {a b : Str} : ((Sum.inr a : Key) = Sum.inr b) = (a = b) := by simp
theorem inl_inj {a b : Int} : ((Sum.inl a : Key) = Sum.inl b) = (a = b) := by simp
theorem ofS_inj {a b : String} : (Str.ofString a = Str.ofString b) = (a = b) := propext ofString_inj
theorem dput_hit {κ α : Type} [DecidableEq κ] {k : κ} {d v : α} {r : List (κ × α)} (h : ∀ p ∈ r, p.1 ≠ k) : dput ((k, d) :: r) k v = (k, v) :: r := by
  unfold dput
  have e : r.map (fun kv => if kv.1 = k then (kv.1, v) else kv) = r := by
    conv => rhs; rw [← List.map_id r]
    exact List.map_congr_left fun p hp => by simp [h p hp]
  simp [e]
/-- stores -/
def kPutO (o : Option O) (n : Nat) (i v : D) (S : ST) (N : ST → Prop) : Prop := match o with
  | some (.lst ds) => (match i with | .int i => (match ixN ds.length i with | some j => N (S.set n (.lst (ds.set j v))) | none => False) | _ => False)
  | some (.dk kvs) => (match i.key with | some k => kvs.length < SZ ∧ N (S.set n (.dk (dput kvs k v))) | none => False)
  | _ => False
theorem kPut3_ref {v i : D} : kPut3 v (.ref n) K G i S = kPutO S[n]? n i v S (fun S' => K.nx G S') := by
  unfold kPut3 putD kPutO
  dsimp only
  cases S[n]? with
  | none => rfl
  | some o =>
    cases o with
    | lst ds =>
      cases i <;> first | rfl | skip
      dsimp only
      cases ixN ds.length _ <;> rfl
    | dk kvs =>
      cases i.key with
      | none => rfl
      | some k =>
        dsimp only
        by_cases h : kvs.length < SZ <;> simp [h]
    | dt kvs => rfl
    | ins c fs => rfl
theorem kPutO_lst {v : D} {N : ST → Prop} : kPutO (some (.lst ds)) n (.int i) v S N = (match ixN ds.length i with | some j => N (S.set n (.lst (ds.set j v))) | none => False) := rfl
theorem kPutO_dkS {v : D} {N : ST → Prop} : kPutO (some (.dk kvs)) n (.str x) v S N = (kvs.length < SZ ∧ N (S.set n (.dk (dput kvs (.inr x) v)))) := rfl
theorem kPutO_dkI {v : D} {N : ST → Prop} : kPutO (some (.dk kvs)) n (.int i) v S N = (kvs.length < SZ ∧ N (S.set n (.dk (dput kvs (.inl i) v)))) := rfl
theorem dGet_ref {k : D} : dGet S (.ref n) k = (match S[n]? with | some (.dk kvs) => k.key.map fun k => look kvs k | _ => none) := rfl
theorem isDict_ref : D.isDict S (.ref n) = (match S[n]? with | some (.dk _) => true | some (.dt _) => true | _ => false) := rfl
theorem putD_ref {k v : D} : putD S (.ref n) k v = (match S[n]? with
    | some (.lst ds) => (match k with | .int i => (ixN ds.length i).map fun j => S.set n (.lst (ds.set j v)) | _ => none)
    | some (.dk kvs) => (match k.key with | some k => if kvs.length < SZ then some (S.set n (.dk (dput kvs k v))) else none | none => none)
    | _ => none) := rfl
theorem tyD_ref {T : String} : tyD T S (.ref n) = (match S[n]? with | some (.lst _) => T == "list" | some (.dk _) => T == "dict" | some (.dt _) => T == "dict" | _ => false) := rfl
theorem r_append {y : D} : wpR (bAppend (.ref n) [y] S) Q X = (match S[n]? with | some (.lst es) => es.length < SZ ∧ Q .non (S.set n (.lst (es ++ [y]))) | _ => False) := by
  unfold bAppend withL
  dsimp only
  cases S[n]? with
  | none => rfl
  | some o => cases o <;> first | rfl | (dsimp only; rw [wp_ite]; rfl)
theorem sl_ref {lo hi : Option Int} : wpR (mSl (.ref n) lo hi S) Q X = (match S[n]? with | some (.lst ds) => Q (.ref S.length) (S ++ [.lst (cutD ds lo hi)]) | _ => False) := by
  unfold mSl D.items
  dsimp only
  cases S[n]? with
  | none => rfl
  | some o => cases o <;> rfl
/-- d[k] op= e of a dict in the store -/
def kPAo (o : Option O) (m : D → D → C D) (n : Nat) (fe : ME) (K : Kt) (G : GE) (i : D) (S : ST) : Prop := match o with
  | some (.dk kvs) => (match i.key with
    | some k => (match look kvs k with | some old => wpE fe G S (kPA3 m old (.ref n) i K G) (kx K G) | none => False)
    | none => False)
  | _ => False
theorem kPA2_ref {m : D → D → C D} {fe : ME} {i : D} : kPA2 m (.ref n) fe K G i S = kPAo S[n]? m n fe K G i S := by
  cases h : S[n]? with
  | none => simp [kPA2, dGet, h, kPAo]
  | some o =>
    cases o with
    | dk kvs =>
      simp only [kPA2, dGet, h, kPAo]
      cases i.key with
      | none => simp
      | some k => simp only [Option.map_some]; cases look kvs k <;> simp
    | _ => simp [kPA2, dGet, h, kPAo]
theorem kPAo_dkS {m : D → D → C D} {fe : ME} : kPAo (some (.dk kvs)) m n fe K G (.str x) S = (match look kvs (.inr x) with | some old => wpE fe G S (kPA3 m old (.ref n) (.str x) K G) (kx K G) | none => False) := rfl
theorem kPAo_dkI {m : D → D → C D} {fe : ME} : kPAo (some (.dk kvs)) m n fe K G (.int i) S = (match look kvs (.inl i) with | some old => wpE fe G S (kPA3 m old (.ref n) (.int i) K G) (kx K G) | none => False) := rfl
def kPDo (o : Option O) (n : Nat) (i z : D) (S : ST) (N : ST → Prop) : Prop := match o with
  | some (.dk kvs) => (match i.key with | some k => kvs.length < SZ ∧ N (S.set n (.dk (dput kvs k z))) | none => False)
  | _ => False
theorem kPA4_ref {i z : D} : kPA4 (.ref n) i K G z S = kPDo S[n]? n i z S (K.nx G) := by
  cases h : S[n]? with
  | none => simp [kPA4, D.isDict, h, kPDo]
  | some o =>
    cases o with
    | dk kvs =>
      simp only [kPA4, D.isDict, putD, h, kPDo]
      cases i.key with
      | none => simp
      | some k => by_cases c : kvs.length < SZ <;> simp [c]
    | dt kvs => simp [kPA4, D.isDict, putD, h, kPDo]
    | _ => simp [kPA4, D.isDict, h, kPDo]
theorem kPDo_dkS {z : D} {N : ST → Prop} : kPDo (some (.dk kvs)) n (.str x) z S N = (kvs.length < SZ ∧ N (S.set n (.dk (dput kvs (.inr x) z)))) := rfl
theorem kPDo_dkI {z : D} {N : ST → Prop} : kPDo (some (.dk kvs)) n (.int i) z S N = (kvs.length < SZ ∧ N (S.set n (.dk (dput kvs (.inl i) z)))) := rfl
theorem dput_eq {κ α : Type} [DecidableEq κ] {k j : κ} {d v : α} {r : List (κ × α)} (h : ∀ p ∈ r, p.1 ≠ j) : dput ((j, d) :: r) k v = if j = k then (j, v) :: r else (j, d) :: dput r k v := by
  by_cases e : j = k
  · subst e; rw [if_pos rfl, dput_hit h]
  · rw [if_neg e, dput_cons e]
theorem set_get {iw n : Nat} {o : O} (h : n ≠ iw) : (S.set iw o)[n]? = S[n]? := List.getElem?_set_ne (Ne.symm h)
theorem set_same {iw : Nat} {o : O} (h : iw < S.length) : (S.set iw o)[iw]? = some o := List.getElem?_set_self h
theorem lim64_of {i : Int} (h0 : -18446744073709551616 < i) (h1 : i < 18446744073709551616) : lim64 i = true := by simp [lim64, h0, h1]
theorem lim64_l {i j : Int} (h0 : -18446744073709551616 < i) (h1 : i < 18446744073709551616) : (lim64 i || lim64 j) = true := by rw [lim64_of h0 h1]; rfl
theorem lim64_r {i j : Int} (h0 : -18446744073709551616 < j) (h1 : j < 18446744073709551616) : (lim64 i || lim64 j) = true := by rw [lim64_of h0 h1]; simp
theorem lim62_of {i : Int} (h0 : -4611686018427387904 ≤ i) (h1 : i < 4611686018427387904) : lim62 i = true := by simp [lim62, h0, h1]
theorem cMod_of {i j : Int} (h : 0 < j) : cMod i j = true := by simp [cMod, h]
theorem cDiv_of {i j : Int} (h : 0 < j) (h1 : j < 18446744073709551616) : cDiv i j = true := by simp [cDiv, h, h1]
theorem cNn_of {i j : Int} (h : 0 ≤ j) : cNn i j = true := by simp [cNn, h]
theorem cPow_of {i j : Int} (h : 0 ≤ j) (h1 : j ≤ 1000000) (h2 : -18446744073709551616 < i) (h3 : i < 18446744073709551616) : cPow i j = true := by simp [cPow, h, h1, lim64_of h2 h3]
theorem atI_pos {α : Type} {xs : List α} {i : Int} (h0 : 0 ≤ i) (h1 : i < xs.length) : atI xs i = xs[i.toNat]? := by
  unfold atI ixN
  rw [if_pos h0, if_pos h1]
  rfl
theorem cut_len (ds : List D) (lo hi : Option Int) : (cutD ds lo hi).length ≤ ds.length := by
  unfold cutD
  rw [List.length_take, List.length_drop]
  omega
theorem cut_sub {ds : List D} {lo hi : Option Int} {d : D} (h : d ∈ cutD ds lo hi) : d ∈ ds := List.mem_of_mem_drop (List.mem_of_mem_take h)
/-! ### in -/
theorem r_inT {a : D} (h : (a.flat && ds.all D.flat) = true) : wpR (mIn a (.tup ds) S) Q X = Q (.bl (ds.any fun y => eqF y a)) S := by
  unfold mIn mInG
  simp only [D.isDict, inB, D.items, h, if_true, Bool.false_eq_true, if_false]
  rfl
theorem r_ninT {a : D} (h : (a.flat && ds.all D.flat) = true) : wpR (mNotIn a (.tup ds) S) Q X = Q (.bl (!(ds.any fun y => eqF y a))) S := by
  unfold mNotIn mInG
  simp only [D.isDict, inB, D.items, h, if_true, Bool.false_eq_true, if_false]
  rfl
def kInO (o : Option O) (g : Bool → Bool) (a : D) (Q : D → ST → Prop) (S : ST) : Prop := match o with
  | some (.lst ds) => (a.flat && ds.all D.flat) = true ∧ Q (.bl (g (ds.any fun y => eqF y a))) S
  | some (.dk kvs) => (match a.key with | some k => Q (.bl (g (look kvs k).isSome)) S | none => False)
  | _ => False
theorem r_inG {g : Bool → Bool} {a : D} (h : kInO S[n]? g a Q S) : wpR (mInG g a (.ref n) S) Q X := by
  unfold kInO at h
  split at h
  · rename_i ds e
    unfold mInG
    simp only [D.isDict, e, Bool.false_eq_true, if_false, inB, D.items, h.1, if_true]
    exact h.2
  · rename_i kvs e
    unfold mInG
    simp only [D.isDict, e, if_true, dGet]
    cases ek : a.key with
    | none => rw [ek] at h; exact h.elim
    | some k => rw [ek] at h; exact h
  · exact h.elim
theorem r_inR {a : D} (h : kInO S[n]? id a Q S) : wpR (mIn a (.ref n) S) Q X := r_inG h
theorem r_ninR {a : D} (h : kInO S[n]? not a Q S) : wpR (mNotIn a (.ref n) S) Q X := r_inG h
theorem flat_int : D.flat (.int i) = true := rfl
theorem flat_str : D.flat (.str x) = true := rfl
theorem flat_bl {b : Bool} : D.flat (.bl b) = true := rfl
theorem eqF_int : eqF (.int i) (.int j) = decide (i = j) := rfl
theorem eqF_str : eqF (.str x) (.str y) = decide (x = y) := rfl
theorem dec_or {p q : Prop} [Decidable p] [Decidable q] : (decide p || decide q) = decide (p ∨ q) := by by_cases p <;> simp_all
theorem dec_and {p q : Prop} [Decidable p] [Decidable q] : (decide p && decide q) = decide (p ∧ q) := by by_cases p <;> simp_all
/-! ### isinstance -/
def kIsi (o : Option Bool) (Q : D → ST → Prop) (S : ST) : Prop := match o with | some b => Q (.bl b) S | none => False
theorem r_isi {d : D} {T : String} : wpR (bIsi [d, .opq (.ty T)] S) Q X = kIsi ((tyN S d).bind fun t => subN t T) Q S := by
  unfold bIsi kIsi
  dsimp only
  cases (tyN S d).bind fun t => subN t T <;> rfl
theorem kIsi_some {b : Bool} : kIsi (some b) Q S = Q (.bl b) S := rfl
theorem tyN_non : tyN S .non = some "NoneType" := rfl
theorem tyN_bl {b : Bool} : tyN S (.bl b) = some "bool" := rfl
theorem tyN_int : tyN S (.int i) = some "int" := rfl
theorem tyN_str : tyN S (.str x) = some "str" := rfl
theorem tyN_tup : tyN S (.tup ds) = some "tuple" := rfl
theorem tyN_fl : tyN S (.fl ds) = some "list" := rfl
def tyO (o : Option O) : Option String := match o with | some (.lst _) => some "list" | some (.dk _) => some "dict" | some (.dt _) => some "dict" | _ => none
theorem tyN_ref : tyN S (.ref n) = tyO S[n]? := rfl
theorem tyO_lst : tyO (some (.lst ds)) = some "list" := rfl
theorem tyO_dk : tyO (some (.dk kvs)) = some "dict" := rfl
theorem subN_int {t : String} : subN t "int" = some (t == "int" || t == "bool") := rfl
theorem subN_bool {t : String} : subN t "bool" = some (t == "bool") := rfl
theorem subN_str {t : String} : subN t "str" = some (t == "str") := rfl
theorem subN_tuple {t : String} : subN t "tuple" = some (t == "tuple") := rfl
theorem subN_list {t : String} : subN t "list" = some (t == "list") := rfl
theorem subN_dict {t : String} : subN t "dict" = some (t == "dict") := rfl
theorem r_isS : wpR (mIs (.str x) .non S) Q X = Q (.bl false) S := rfl
theorem r_isBl {b : Bool} : wpR (mIs (.bl b) .non S) Q X = Q (.bl false) S := rfl
theorem r_isR : wpR (mIs (.ref n) .non S) Q X = Q (.bl false) S := rfl
theorem r_isF : wpR (mIs (.fl ds) .non S) Q X = Q (.bl false) S := rfl
theorem r_isNotS : wpR (mIsNot (.str x) .non S) Q X = Q (.bl true) S := rfl
theorem r_isNotBl {b : Bool} : wpR (mIsNot (.bl b) .non S) Q X = Q (.bl true) S := rfl
theorem r_isNotR : wpR (mIsNot (.ref n) .non S) Q X = Q (.bl true) S := rfl
theorem r_isNotF : wpR (mIsNot (.fl ds) .non S) Q X = Q (.bl true) S := rfl
/-! ### dict displays -/
def kDk (o : Option (List (Key × D))) (n : Nat) (Q : D → ST → Prop) (S : ST) : Prop := match o with
  | some kvs => kvs.length ≤ 15 ∧ Q (.ref n) (S.set n (.dk (dmerge kvs)))
  | none => False
theorem kDict_dk {ps : List (D × D)} : kDict n Q ps S = (S[n]? = some (.dk []) ∧ kDk (keysD ps) n Q S) := by
  cases h : keysD ps with
  | none => simp [kDict, h, kDk]
  | some kvs => rw [kDict_eq h]; rfl
theorem kDk_some : kDk (some kvs) n Q S = (kvs.length ≤ 15 ∧ Q (.ref n) (S.set n (.dk (dmerge kvs)))) := rfl
theorem keysD_nil : keysD [] = some [] := rfl
theorem keysD_s {v : D} {r : List (D × D)} : keysD ((.str x, v) :: r) = (keysD r).map ((.inr x, v) :: ·) := by
  rw [keysD]
  cases h : keysD r <;> rfl
theorem keysD_i {v : D} {r : List (D × D)} : keysD ((.int i, v) :: r) = (keysD r).map ((.inl i, v) :: ·) := by
  rw [keysD]
  cases h : keysD r <;> rfl
theorem dmerge_def : dmerge kvs = kvs.foldl (fun acc kv => dput acc kv.1 kv.2) [] := rfl
theorem dput_n {κ α : Type} [DecidableEq κ] {k j : κ} {d v : α} {r : List (κ × α)} (h : (j = k) = False) : dput ((j, d) :: r) k v = (j, d) :: dput r k v := dput_cons (of_eq_false h)
theorem dput_h {κ α : Type} [DecidableEq κ] {k : κ} {d v : α} {r : List (κ × α)} (h : (∀ p ∈ r, p.1 ≠ k) = True) : dput ((k, d) :: r) k v = (k, v) :: r := dput_hit (of_eq_true h)
/-! ### the store's end -/
theorem get_app {α : Type} {S T : List α} {k : Nat} : (S ++ T)[S.length + k]? = T[k]? := by
  rw [List.getElem?_append_right (by omega)]
  congr 1
  omega
theorem get_app0 {α : Type} {S T : List α} : (S ++ T)[S.length]? = T[0]? := get_app (k := 0)
theorem set_app {α : Type} {S T : List α} {k : Nat} {o : α} : (S ++ T).set (S.length + k) o = S ++ T.set k o := by
  rw [List.set_append_right (h := by omega)]
  congr 2
  omega
theorem set_app0 {α : Type} {S T : List α} {o : α} : (S ++ T).set S.length o = S ++ T.set 0 o := set_app (k := 0)
/-! ### small facts -/
theorem sz_le (h : (n ≤ 100) = True) : (n ≤ SZ) = True := eq_true (Nat.le_trans (of_eq_true h) (by decide))
theorem sz_lt (h : (n ≤ 100) = True) : (n < SZ) = True := eq_true (Nat.lt_of_le_of_lt (of_eq_true h) (by decide))
theorem lk_nil {α : Type} {f : Str} : List.lookup f ([] : List (Str × α)) = none := rfl
theorem lk_cons {α : Type} {f k : Str} {v : α} {r : List (Str × α)} : List.lookup f ((k, v) :: r) = if f = k then some v else List.lookup f r := by
  rw [List.lookup_cons]
  by_cases h : f = k
  · subst h; simp
  · rw [if_neg h, beq_false_of_ne h]
def kFldO (o : Option O) (cs : List Str) (f : Str) (Q : D → ST → Prop) (S : ST) : Prop := match o with
  | some (.ins c fs) => c ∈ cs ∧ kOpt (fs.lookup f) Q S
  | _ => False
theorem r_fld {cs : List Str} {f : Str} : wpR (mFld cs f (.ref n) S) Q X = kFldO S[n]? cs f Q S := by
  unfold mFld kFldO
  dsimp only
  cases S[n]? with
  | none => rfl
  | some o =>
    cases o with
    | ins c fs =>
      dsimp only
      by_cases h : c ∈ cs
      · rw [if_pos h]
        cases fs.lookup f <;> simp [h, kOpt, wpR]
      · rw [if_neg h]; simp [h, wpR]
    | _ => rfl
theorem kFldO_ins {c f : Str} {cs : List Str} {fs : List (Str × D)} : kFldO (some (.ins c fs)) cs f Q S = (c ∈ cs ∧ kOpt (fs.lookup f) Q S) := rfl
def kFlO (o : Option O) (n : Nat) (cs : List Str) (f : Str) (v : D) (S : ST) (N : ST → Prop) : Prop := match o with
  | some (.ins c fs) => c ∈ cs ∧ fs.length < 1000 ∧ N (S.set n (.ins c (putA f v fs)))
  | _ => False
theorem kFlO_eq {cs : List Str} {f : Str} {v : D} {N : ST → Prop} : (match putFD cs f S (.ref n) v with | some S' => N S' | none => False) = kFlO S[n]? n cs f v S N := by
  unfold putFD kFlO
  dsimp only
  cases S[n]? with
  | none => rfl
  | some o =>
    cases o with
    | ins c fs =>
      dsimp only
      by_cases h : c ∈ cs ∧ fs.length < 1000
      · rw [if_pos h]; simp [h]
      · rw [if_neg h]
        simp only [eq_iff_iff, false_iff]
        exact fun q => h ⟨q.1, q.2.1⟩
    | _ => rfl
theorem kFld2_ref {cs : List Str} {f : Str} {v : D} : kFld2 cs f v K G (.ref n) S = kFlO S[n]? n cs f v S (fun S' => K.nx G S') := kFlO_eq
theorem kFA3_ref {c f : Str} {v : D} : kFA3 c f (.ref n) K G v S = kFlO S[n]? n [c] f v S (fun S' => K.nx G S') := kFlO_eq
theorem kFlO_ins {c f : Str} {cs : List Str} {fs : List (Str × D)} {v : D} {N : ST → Prop} : kFlO (some (.ins c fs)) n cs f v S N = (c ∈ cs ∧ fs.length < 1000 ∧ N (S.set n (.ins c (putA f v fs)))) := rfl
def kMtM (o : Option Fn) (n : Nat) (g : MA) (G : GE) (Q : D → ST → Prop) (X : XQ) (S : ST) : Prop := match o with | some m => wpE g G S (kMt2 m (.ref n) Q X) X | none => False
def kMtO (o : Option O) (name : Str) (tab : List (Str × Fn)) (n : Nat) (g : MA) (G : GE) (Q : D → ST → Prop) (X : XQ) (S : ST) : Prop := match o with
  | some (.ins c fs) => fs.lookup name = none ∧ kMtM (tab.lookup c) n g G Q X S
  | _ => False
theorem kMt_ref {name : Str} {tab : List (Str × Fn)} {g : MA} : kMt name tab g G Q X (.ref n) S = kMtO S[n]? name tab n g G Q X S := by
  unfold kMt methD kMtO
  dsimp only
  cases S[n]? with
  | none => simp
  | some o =>
    cases o with
    | ins c fs =>
      dsimp only
      cases fs.lookup name with
      | none =>
        cases tab.lookup c <;> simp [kMtM]
      | some d => simp
    | _ => simp
theorem kMtO_ins {c name : Str} {tab : List (Str × Fn)} {fs : List (Str × D)} {g : MA} : kMtO (some (.ins c fs)) name tab n g G Q X S = (fs.lookup name = none ∧ kMtM (tab.lookup c) n g G Q X S) := rfl
theorem kMtM_some {m : Fn} {g : MA} : kMtM (some m) n g G Q X S = wpE g G S (kMt2 m (.ref n) Q X) X := rfl
theorem putA_nil {f : Str} {v : D} : putA f v [] = [(f, v)] := rfl
theorem putA_cons {f g : Str} {v d : D} {r : List (Str × D)} : putA f v ((g, d) :: r) = if g = f then (g, v) :: r else (g, d) :: putA f v r := rfl
theorem mem_one {c d : Str} : (c ∈ [d]) = (c = d) := by simp
/-! ### list methods -/
def kLsO (o : Option O) (Q : List D → Prop) : Prop := match o with | some (.lst ds) => Q ds | _ => False
theorem kLsO_lst {R : List D → Prop} : kLsO (some (.lst ds)) R = R ds := rfl
theorem wp_withL {f : Nat → List D → R D} : wpR (withL (.ref n) S f) Q X = kLsO S[n]? (fun es => wpR (f n es) Q X) := by
  unfold withL kLsO
  dsimp only
  cases S[n]? with
  | none => rfl
  | some o => cases o <;> rfl
theorem wp_optR {α : Type} {o : Option α} {f : α → R D} : wpR (match o with | some y => f y | none => R.bad) Q X = (∃ y, o = some y ∧ wpR (f y) Q X) := by
  cases o <;> simp [wpR]
theorem r_pop0 : wpR (bPop (.ref n) [] S) Q X = kLsO S[n]? (fun es => kOpt es[es.length - 1]? (fun y _ => Q y (S.set n (.lst es.dropLast))) S) := by
  unfold bPop
  dsimp only
  rw [wp_withL]
  congr 1
  funext es
  cases es[es.length - 1]? <;> rfl
theorem r_popAt0 : wpR (bPopAt (.ref n) [.int 0] S) Q X = kLsO S[n]? (fun es => es.length ≤ SZ ∧ kOpt es.head? (fun y _ => Q y (S.set n (.lst es.tail))) S) := by
  unfold bPopAt
  dsimp only
  rw [wp_withL]
  congr 1
  funext es
  cases es with
  | nil => simp [ixN, kOpt, wpR]
  | cons d ds =>
    have e : ixN (d :: ds).length 0 = some 0 := by simp [ixN]
    rw [e]
    dsimp only [List.getElem?_cons_zero, List.head?_cons, List.tail_cons, List.eraseIdx_cons_zero]
    rw [wp_ite]
    rfl
theorem r_insert {y : D} : wpR (bInsert (.ref n) [.int i, y] S) Q X = kLsO S[n]? (fun es => (es.length < SZ ∧ 0 ≤ i ∧ i < 16777216) ∧ Q .non (S.set n (.lst (es.take i.toNat ++ [y] ++ es.drop i.toNat)))) := by
  unfold bInsert
  dsimp only
  rw [wp_withL]
  congr 1
  funext es
  rw [wp_ite]
  rfl
theorem r_extend {m : Nat} : wpR (bExtend (.ref n) [.ref m] S) Q X = kLsO S[n]? (fun es => kLsO S[m]? (fun zs => es.length + zs.length ≤ SZ ∧ Q .non (S.set n (.lst (es ++ zs))))) := by
  unfold bExtend
  dsimp only
  rw [wp_withL]
  congr 1
  funext es
  cases S[m]? with
  | none => rfl
  | some o =>
    cases o with
    | lst zs => dsimp only; rw [wp_ite]; rfl
    | _ => rfl
theorem r_tupR : wpR (bTuple [.ref n] S) Q X = kLsO S[n]? (fun es => Q (.tup es) S) := by
  unfold bTuple D.items kLsO
  dsimp only
  cases S[n]? with
  | none => rfl
  | some o => cases o <;> rfl
theorem r_tupT : wpR (bTuple [.tup ds] S) Q X = Q (.tup ds) S := rfl
theorem r_tupF : wpR (bTuple [.fl ds] S) Q X = Q (.tup ds) S := rfl
theorem r_listR : wpR (bList [.ref n] S) Q X = kLsO S[n]? (fun es => Q (.ref S.length) (S ++ [.lst es])) := by
  unfold bList D.items kLsO
  dsimp only
  cases S[n]? with
  | none => rfl
  | some o => cases o <;> rfl
theorem r_listT : wpR (bList [.tup ds] S) Q X = Q (.ref S.length) (S ++ [.lst ds]) := rfl
theorem r_listF : wpR (bList [.fl ds] S) Q X = Q (.ref S.length) (S ++ [.lst ds]) := rfl
theorem r_addR {m : Nat} : wpR (mAdd (.ref n) (.ref m) S) Q X = kLsO S[n]? (fun es => kLsO S[m]? (fun zs => es.length + zs.length ≤ SZ ∧ Q (.ref S.length) (S ++ [.lst (es ++ zs)]))) := by
  unfold mAdd kLsO
  dsimp only
  cases S[n]? with
  | none => rfl
  | some o =>
    cases S[m]? with
    | none => cases o <;> rfl
    | some o2 =>
      cases o <;> cases o2 <;> first | rfl | (dsimp only; rw [wp_ite]; rfl)
theorem kSeq_refO {R : Src → ST → Prop} : kSeq R (.ref n) S = kLsO S[n]? (fun ds => R ⟨ds, some n⟩ S) := by
  unfold kSeq seqSrc kLsO
  dsimp only
  cases S[n]? with
  | none => rfl
  | some o => cases o <;> rfl
theorem kPutO_l {v : D} {N : ST → Prop} : kPutO (some (.lst ds)) n (.int i) v S N = kOpt ((ixN ds.length i).map fun j => D.int j) (fun d _ => match d with | .int j => N (S.set n (.lst (ds.set j.toNat v))) | _ => False) S := by
  rw [kPutO_lst]
  cases ixN ds.length i <;> simp [kOpt]
theorem set_get' {iw n : Nat} {o : O} (h : iw ≠ n) : (S.set iw o)[n]? = S[n]? := List.getElem?_set_ne h
end
end Mir

namespace Mir
open PySem L2 PyProof.Rows
/-! ### == of nested data -/
/-- data with no truth and no list in it, at most n deep -/
def Nb : Nat → D → Prop
  | 0, _ => False
  | n + 1, d => match d with
    | .non => True
    | .int _ => True
    | .str x => PyData.strOk x = true
    | .tup ds => ∀ d ∈ ds, Nb n d
    | _ => False
theorem nb_pys {n : Nat} (ih : ∀ d, Nb n d → ∃ p, d.py = some p ∧ p.canLay0 = true ∧ p.depth ≤ n) : ∀ ds : List D, (∀ d ∈ ds, Nb n d) → ∃ ps, D.pys ds = some ps ∧ PyData.canLayAll0 ps = true ∧ PyData.depthAll ps ≤ n
  | [], _ => ⟨[], by rw [D.pys], by rw [PyData.canLayAll0], by rw [PyData.depthAll]; omega⟩
  | d :: ds, h => by
    obtain ⟨p, h1, h2, h3⟩ := ih d (h d (List.mem_cons_self ..))
    obtain ⟨ps, g1, g2, g3⟩ := nb_pys ih ds fun e he => h e (List.mem_cons_of_mem _ he)
    refine ⟨p :: ps, by rw [D.pys, h1, g1], by rw [PyData.canLayAll0, h2, g2]; rfl, by rw [PyData.depthAll]; omega⟩
theorem nb_py : ∀ (n : Nat) (d : D), Nb n d → ∃ p, d.py = some p ∧ p.canLay0 = true ∧ p.depth ≤ n
  | 0, d, h => h.elim
  | n + 1, d, h => by
    cases d with
    | non => exact ⟨.none, by rw [D.py], by rw [PyData.canLay0], by rw [PyData.depth]; omega⟩
    | int i => exact ⟨.int i, by rw [D.py], by rw [PyData.canLay0], by rw [PyData.depth]; omega⟩
    | str x => exact ⟨.str x, by rw [D.py], by rw [PyData.canLay0]; exact h, by rw [PyData.depth]; omega⟩
    | tup ds =>
      obtain ⟨ps, h1, h2, h3⟩ := nb_pys (nb_py n) ds h
      exact ⟨.tuple ps, by rw [D.py, h1]; rfl, by rw [PyData.canLay0]; exact h2, by rw [PyData.depth]; omega⟩
    | _ => exact h.elim
theorem eqv_pys {n : Nat} (ih : ∀ d e p q, Nb n d → Nb n e → d.py = some p → e.py = some q → (PyData.eqv p q = true ↔ d = e)) : ∀ (ds es : List D) (ps qs : List PyData), (∀ d ∈ ds, Nb n d) → (∀ d ∈ es, Nb n d) → D.pys ds = some ps → D.pys es = some qs → (PyData.eqvAll ps qs = true ↔ ds = es)
  | [], [], ps, qs, _, _, h1, h2 => by
    rw [D.pys] at h1 h2; cases h1; cases h2
    rw [PyData.eqvAll]; simp
  | [], e :: es, ps, qs, _, _, h1, h2 => by
    rw [D.pys] at h1; cases h1
    rw [D.pys] at h2
    split at h2 <;> cases h2
    rw [PyData.eqvAll]; simp
  | d :: ds, [], ps, qs, _, _, h1, h2 => by
    rw [D.pys] at h2; cases h2
    rw [D.pys] at h1
    split at h1 <;> cases h1
    rw [PyData.eqvAll]; simp
  | d :: ds, e :: es, ps, qs, hd, he, h1, h2 => by
    rw [D.pys] at h1 h2
    split at h1
    · rename_i p ps e1 e2
      cases h1
      split at h2
      · rename_i q qs e3 e4
        cases h2
        rw [PyData.eqvAll, Bool.and_eq_true, ih d e p q (hd d (List.mem_cons_self ..)) (he e (List.mem_cons_self ..)) e1 e3,
          eqv_pys ih ds es ps qs (fun x hx => hd x (List.mem_cons_of_mem _ hx)) (fun x hx => he x (List.mem_cons_of_mem _ hx)) e2 e4]
        simp
      · cases h2
    · cases h1
theorem eqv_py : ∀ (n : Nat) (d e : D) (p q : PyData), Nb n d → Nb n e → d.py = some p → e.py = some q → (PyData.eqv p q = true ↔ d = e)
  | 0, d, e, p, q, h, _, _, _ => h.elim
  | n + 1, d, e, p, q, hd, he, h1, h2 => by
    cases d <;> first | exact hd.elim | skip
    all_goals (cases e <;> first | exact he.elim | skip)
    all_goals (simp only [D.py, Option.map_eq_some_iff, Option.some.injEq] at h1 h2)
    all_goals first
      | (subst h1; subst h2; rw [PyData.eqv]; simp; done)
      | (obtain ⟨qs, h3, rfl⟩ := h2; subst h1; rw [PyData.eqv]; simp; done)
      | (obtain ⟨ps, h3, rfl⟩ := h1; subst h2; rw [PyData.eqv]; simp; done)
      | (obtain ⟨ps, h3, rfl⟩ := h1; obtain ⟨qs, h4, rfl⟩ := h2; rw [PyData.eqv, eqv_pys (eqv_py n) _ _ _ _ hd he h3 h4]; simp; done)
theorem shaped_of {p : PyData} {n : Nat} (h : p.canLay0 = true) (h2 : p.depth ≤ n) (hn : n ≤ 64) : SeqAt.shaped p = true := by
  unfold SeqAt.shaped
  rw [h, decide_eq_true (Nat.le_trans h2 hn)]
  rfl
section
variable {Q : D → ST → Prop} {X : XQ} {S : ST} {n : Nat} {d e : D}
theorem mEqB_nb (hd : Nb n d) (he : Nb n e) (hn : n ≤ 64) : ∃ b : Bool, mEqB d e S = some b ∧ (b = true ↔ d = e) := by
  obtain ⟨p, p1, p2, p3⟩ := nb_py n d hd
  obtain ⟨q, q1, q2, q3⟩ := nb_py n e he
  have h := eqv_py n d e p q hd he p1 q1
  have s1 := shaped_of p2 p3 hn
  have s2 := shaped_of q2 q3 hn
  have pd : d.pyS S = d.py := by
    cases n with
    | zero => exact hd.elim
    | succ n => cases d <;> first | exact hd.elim | rfl
  have pe : e.pyS S = e.py := by
    cases n with
    | zero => exact he.elim
    | succ n => cases e <;> first | exact he.elim | rfl
  unfold mEqB
  split
  · exact ⟨_, rfl, by simp⟩
  · exact ⟨_, rfl, by simp⟩
  · exact ⟨_, rfl, by simp⟩
  · rw [pd, pe, p1, q1]
    dsimp only
    rw [s1, s2]
    exact ⟨_, rfl, h⟩
theorem w_eqN (hd : Nb n d) (he : Nb n e) (hn : n ≤ 64) (h1 : d = e → Q (.bl true) S) (h2 : d ≠ e → Q (.bl false) S) : wpR (mEq d e S) Q X := by
  obtain ⟨b, hb, h⟩ := mEqB_nb (S := S) hd he hn
  unfold mEq
  rw [hb]
  cases b with
  | true => exact h1 (h.mp rfl)
  | false => exact h2 fun c => nomatch h.mpr c
theorem w_neN (hd : Nb n d) (he : Nb n e) (hn : n ≤ 64) (h1 : d = e → Q (.bl false) S) (h2 : d ≠ e → Q (.bl true) S) : wpR (mNe d e S) Q X := by
  obtain ⟨b, hb, h⟩ := mEqB_nb (S := S) hd he hn
  unfold mNe
  rw [hb]
  cases b with
  | true => exact h1 (h.mp rfl)
  | false => exact h2 fun c => nomatch h.mpr c
/-- two lists in the store -/
theorem mEqB_lst {k m : Nat} {ds es : List D} (h1 : S[k]? = some (.lst ds)) (h2 : S[m]? = some (.lst es)) (hd : ∀ d ∈ ds, Nb n d) (he : ∀ d ∈ es, Nb n d) (hn : n ≤ 63) : ∃ b : Bool, mEqB (.ref k) (.ref m) S = some b ∧ (b = true ↔ ds = es) := by
  obtain ⟨ps, p1, p2, p3⟩ := nb_pys (nb_py n) ds hd
  obtain ⟨qs, q1, q2, q3⟩ := nb_pys (nb_py n) es he
  have h := eqv_pys (eqv_py n) ds es ps qs hd he p1 q1
  have s1 : SeqAt.shaped (.list ps) = true := shaped_of (n := n + 1) (by rw [PyData.canLay0]; exact p2) (by rw [PyData.depth]; omega) (by omega)
  have s2 : SeqAt.shaped (.list qs) = true := shaped_of (n := n + 1) (by rw [PyData.canLay0]; exact q2) (by rw [PyData.depth]; omega) (by omega)
  unfold mEqB
  dsimp only
  unfold D.pyS
  simp only [h1, h2, p1, q1, Option.map_some, s1, s2, Bool.and_self, if_true]
  exact ⟨_, rfl, by rw [PyData.eqv]; exact h⟩
theorem w_eqL {k m : Nat} {ds es : List D} (g1 : S[k]? = some (.lst ds)) (g2 : S[m]? = some (.lst es)) (hd : ∀ d ∈ ds, Nb n d) (he : ∀ d ∈ es, Nb n d) (hn : n ≤ 63) (h1 : ds = es → Q (.bl true) S) (h2 : ds ≠ es → Q (.bl false) S) : wpR (mEq (.ref k) (.ref m) S) Q X := by
  obtain ⟨b, hb, h⟩ := mEqB_lst g1 g2 hd he hn
  unfold mEq
  rw [hb]
  cases b with
  | true => exact h1 (h.mp rfl)
  | false => exact h2 fun c => nomatch h.mpr c
theorem w_neL {k m : Nat} {ds es : List D} (g1 : S[k]? = some (.lst ds)) (g2 : S[m]? = some (.lst es)) (hd : ∀ d ∈ ds, Nb n d) (he : ∀ d ∈ es, Nb n d) (hn : n ≤ 63) (h1 : ds = es → Q (.bl false) S) (h2 : ds ≠ es → Q (.bl true) S) : wpR (mNe (.ref k) (.ref m) S) Q X := by
  obtain ⟨b, hb, h⟩ := mEqB_lst g1 g2 hd he hn
  unfold mNe
  rw [hb]
  cases b with
  | true => exact h1 (h.mp rfl)
  | false => exact h2 fun c => nomatch h.mpr c
end
/-! ### frames of the store -/
/-- all but the places L stands as it was -/
structure Frm (L : List Nat) (S S' : ST) : Prop where
  le : S.length ≤ S'.length
  eq : ∀ i, i ∉ L → i < S.length → S'[i]? = S[i]?
theorem Frm.refl (L : List Nat) (S : ST) : Frm L S S := ⟨Nat.le_refl _, fun _ _ _ => rfl⟩
theorem Frm.trans {L : List Nat} {S S1 S2 : ST} (a : Frm L S S1) (b : Frm L S1 S2) : Frm L S S2 := ⟨Nat.le_trans a.le b.le, fun i h1 h2 => (b.eq i h1 (Nat.lt_of_lt_of_le h2 a.le)).trans (a.eq i h1 h2)⟩
theorem Frm.app (L : List Nat) (S T : ST) : Frm L S (S ++ T) := ⟨by simp, fun i _ h => List.getElem?_append_left h⟩
theorem Frm.set {L : List Nat} (S : ST) (o : O) {n : Nat} (h : n ∈ L) : Frm L S (S.set n o) := ⟨by simp, fun i h1 _ => List.getElem?_set_ne fun c => by subst c; exact h1 h⟩
theorem Frm.get {L : List Nat} {S S' : ST} (f : Frm L S S') {i : Nat} {o : O} (h : i ∉ L) (e : S[i]? = some o) : S'[i]? = some o := by rw [f.eq i h (List.getElem?_eq_some_iff.mp e).1]; exact e
theorem Frm.mono {L M : List Nat} {S S' : ST} (f : Frm L S S') (h : ∀ i ∈ L, i ∈ M) : Frm M S S' := ⟨f.le, fun i h1 h2 => f.eq i (fun c => h1 (h i c)) h2⟩
theorem lt_of_get {S : ST} {i : Nat} {o : O} (h : S[i]? = some o) : i < S.length := (List.getElem?_eq_some_iff.mp h).1
theorem ne_of_get {S : ST} {i j : Nat} {a b : O} (h1 : S[i]? = some a) (h2 : S[j]? = some b) (h : a ≠ b) : i ≠ j := fun c => by
  subst c
  rw [h1] at h2
  exact h (Option.some.inj h2)
/-- a comprehension that changes nothing -/
theorem lc_map {α : Type} {S : ST} {G : GE} {X : XQ} {t : Tg} {tt : MT} {fe : ME} {own : List Nat} {r : Src} {Q : D → ST → Prop} (xs : List α) (g : α → D) (c : α → Bool) (v : α → D) (hr : r.ds = xs.map g) (hok : ∀ acc, r.ok (S ++ [.lst acc])) (hl : xs.length < SZ)
    (hs : ∀ a ∈ xs, ∀ acc, ∃ G1, bindT t (g a) (wipeG G own) (S ++ [.lst acc]) = some G1 ∧ wpE tt G1 (S ++ [.lst acc]) (fun k S1 => S1 = S ++ [.lst acc] ∧ k = c a ∧ (c a = true → wpE fe G1 (S ++ [.lst acc]) (fun x S2 => S2 = S ++ [.lst acc] ∧ x = v a) fun _ _ _ => False)) fun _ _ _ => False)
    (hd : Q (.ref S.length) (S ++ [.lst ((xs.filter c).map v)])) : kLc t tt fe own G Q X r S := by
  refine lc_inv (fun ds acc S' => ∃ ys : List α, S' = S ++ [.lst acc] ∧ ds = ys.map g ∧ acc ++ (ys.filter c).map v = (xs.filter c).map v ∧ (∀ a ∈ ys, a ∈ xs) ∧ acc.length + ys.length ≤ xs.length) ⟨xs, rfl, hr, rfl, fun _ h => h, by simp⟩ ?_ ?_ ?_
  · intro ds acc S' h
    obtain ⟨ys, h1, _⟩ := h
    rw [h1]
    exact hok acc
  · intro acc S' h
    obtain ⟨ys, h1, h0, h2, _, _⟩ := h
    have e : ys = [] := List.map_eq_nil_iff.mp h0.symm
    rw [e, List.filter_nil, List.map_nil, List.append_nil] at h2
    rw [h1, h2]
    exact hd
  · intro d ds acc S' h
    obtain ⟨ys, h1, h0, h2, h3, h4⟩ := h
    cases ys with
    | nil => cases h0
    | cons a ys =>
      rw [List.map_cons] at h0
      injection h0 with e1 e2
      rw [e1]
      obtain ⟨G1, g1, g2⟩ := hs a (h3 a (List.mem_cons_self ..)) acc
      rw [h1]
      refine ⟨G1, g1, wpR_mono g2 fun k S1 q => ?_⟩
      obtain ⟨q1, q2, q3⟩ := q
      rw [List.length_cons] at h4
      refine ⟨fun hk => ?_, fun hk => ?_⟩
      · rw [q1]
        rw [List.filter_cons_of_neg (by rw [← q2, hk]; exact Bool.false_ne_true)] at h2
        exact ⟨ys, rfl, e2, h2, fun e he => h3 e (List.mem_cons_of_mem _ he), by omega⟩
      · have hc : c a = true := q2.symm.trans hk
        rw [q1]
        refine wpR_mono (q3 hc) fun x S2 z => ?_
        rw [List.filter_cons_of_pos hc, List.map_cons] at h2
        rw [z.1, z.2]
        refine ⟨by simp, by omega, ys, by simp, e2, ?_, fun e he => h3 e (List.mem_cons_of_mem _ he), by rw [List.length_append, List.length_singleton]; omega⟩
        rw [List.append_assoc]
        exact h2
theorem wipe_nil {G : GE} : wipeG G [] = G := rfl
theorem wipe_cons {G : GE} {v : Nat} {vs : List Nat} : wipeG G (v :: vs) = (wipeG G vs).set v none := rfl
theorem atI_0 {α : Type} {x : α} {xs : List α} : atI (x :: xs) 0 = some x := by
  rw [atI_pos (by omega) (by rw [List.length_cons]; omega)]; rfl
theorem atI_1 {α : Type} {x y : α} {xs : List α} : atI (x :: y :: xs) 1 = some y := by
  rw [atI_pos (by omega) (by rw [List.length_cons, List.length_cons]; omega)]; rfl
theorem atI_2 {α : Type} {x y z : α} {xs : List α} : atI (x :: y :: z :: xs) 2 = some z := by
  rw [atI_pos (by omega) (by rw [List.length_cons, List.length_cons, List.length_cons]; omega)]; rfl
theorem atI_3 {α : Type} {x y z w : α} {xs : List α} : atI (x :: y :: z :: w :: xs) 3 = some w := by
  rw [atI_pos (by omega) (by rw [List.length_cons, List.length_cons, List.length_cons, List.length_cons]; omega)]; rfl
/-- a loop over a typed list -/
theorem for_map {α : Type} {S : ST} {G : GE} {K : Kt} {t : Tg} {body : MS} {r : Src} (xs : List α) (g : α → D) (hr : r.ds = xs.map g) (P : List α → GE → ST → Prop) (h0 : P xs G S) (hok : ∀ ys G S, P ys G S → r.ok S) (hd : ∀ G S, P [] G S → K.nx G S)
    (hs : ∀ a ys G S, P (a :: ys) G S → ∃ G1, bindT t (g a) G S = some G1 ∧ wpS body G1 S { nx := P ys, ct := P ys, bk := K.nx, rt := K.rt, ex := K.ex }) : kFor t body K G r S := by
  refine for_inv (fun ds G S => ∃ ys, ds = ys.map g ∧ P ys G S) ⟨xs, hr, h0⟩ (fun ds G S h => by obtain ⟨ys, _, h⟩ := h; exact hok ys G S h) ?_ ?_
  · intro G S h
    obtain ⟨ys, h1, h2⟩ := h
    rw [List.map_eq_nil_iff.mp h1.symm] at h2
    exact hd G S h2
  · intro d ds G S h
    obtain ⟨ys, h1, h2⟩ := h
    cases ys with
    | nil => cases h1
    | cons a ys =>
      rw [List.map_cons] at h1
      injection h1 with e1 e2
      rw [e1]
      obtain ⟨G1, g1, g2⟩ := hs a ys G S h2
      exact ⟨G1, g1, wpS_mono g2 (fun _ _ q => ⟨ys, e2, q⟩) (fun _ _ q => q) (fun _ _ q => q) (fun _ _ q => ⟨ys, e2, q⟩) fun _ _ _ _ q => q⟩
theorem setG_nil {G : GE} {ds : List D} : setG G [] ds = G := by cases ds <;> rfl
theorem setG_cons {G : GE} {i : Nat} {is : List Nat} {d : D} {ds : List D} : setG G (i :: is) (d :: ds) = setG (G.set i (some d)) is ds := rfl
theorem kSetT_ref {is : List Nat} {K : Kt} {G : GE} {S : ST} {n : Nat} : kSetT (.tp is) K G (.ref n) S = kLsO S[n]? (fun ds => ds.length = is.length ∧ K.nx (setG G is ds) S) := by
  unfold kSetT bindT D.items kLsO
  dsimp only
  cases S[n]? with
  | none => rfl
  | some o =>
    cases o with
    | lst ds =>
      dsimp only
      by_cases h : ds.length = is.length
      · rw [if_pos h]; simp [h]
      · rw [if_neg h]; simp [h]
    | _ => rfl
theorem kSetT_tup {is : List Nat} {K : Kt} {G : GE} {S : ST} {ds : List D} : kSetT (.tp is) K G (.tup ds) S = (ds.length = is.length ∧ K.nx (setG G is ds) S) := by
  unfold kSetT bindT D.items
  dsimp only
  by_cases h : ds.length = is.length
  · rw [if_pos h]; simp [h]
  · rw [if_neg h]; simp [h]
theorem kSetT_nm {i : Nat} {K : Kt} {G : GE} {S : ST} {d : D} : kSetT (.nm i) K G d S = K.nx (G.set i (some d)) S := rfl
theorem bindT_ref {is : List Nat} {G : GE} {S : ST} {n : Nat} {ds : List D} (h : S[n]? = some (.lst ds)) (hl : ds.length = is.length) : bindT (.tp is) (.ref n) G S = some (setG G is ds) := by
  unfold bindT D.items
  simp only [h, hl, if_true]
theorem wp_tYes {G : GE} {S : ST} {Q : Bool → ST → Prop} {X : XQ} : wpE tYesM G S Q X = Q true S := rfl
theorem erase_idx {xs : List Int} {k : Int} (h : k ∈ xs) : ∃ j, idxI xs k = some j ∧ xs.eraseIdx j = xs.erase k := by
  induction xs with
  | nil => cases h
  | cons x xs ih =>
    unfold idxI at ih ⊢
    rw [List.findIdx?_cons]
    by_cases e : x = k
    · subst e
      exact ⟨0, by simp, by simp⟩
    · have hm : k ∈ xs := by
        rcases List.mem_cons.mp h with c | c
        · exact absurd c.symm e
        · exact c
      obtain ⟨j, h1, h2⟩ := ih hm
      refine ⟨j + 1, by simp [e, h1], ?_⟩
      rw [List.eraseIdx_cons_succ, h2, List.erase_cons_tail (by simpa using e)]
theorem r_removeI {S : ST} {n : Nat} {xs : List Int} {k : Int} {Q : D → ST → Prop} {X : XQ} (h : S[n]? = some (.lst (xs.map D.int))) (hk : k ∈ xs) (q : Q .non (S.set n (.lst ((xs.erase k).map D.int)))) : wpR (bRemove (.ref n) [.int k] S) Q X := by
  obtain ⟨j, h1, h2⟩ := erase_idx hk
  unfold bRemove withL
  simp only [h, intsD_map, h1, h2]
  exact q
theorem any_ints {xs : List Int} {k : Int} : ((xs.map D.int).any fun y => eqF y (.int k)) = decide (k ∈ xs) := by
  rw [List.any_map]
  induction xs with
  | nil => rfl
  | cons x xs ih =>
    rw [List.any_cons, ih]
    show (decide (x = k) || _) = _
    rw [dec_or]
    congr 1
    rw [List.mem_cons, eq_comm (a := x)]
theorem flat_ints {xs : List Int} : (xs.map D.int).all D.flat = true := by
  rw [List.all_map]
  exact List.all_eq_true.mpr fun _ _ => rfl
theorem r_inInts {S : ST} {n : Nat} {xs : List Int} {k : Int} {Q : D → ST → Prop} {X : XQ} (h : S[n]? = some (.lst (xs.map D.int))) (q : Q (.bl (decide (k ∈ xs))) S) : wpR (mIn (.int k) (.ref n) S) Q X := by
  refine r_inR ?_
  rw [h]
  unfold kInO
  refine ⟨by rw [flat_ints]; rfl, ?_⟩
  rw [any_ints]
  exact q
theorem r_ninInts {S : ST} {n : Nat} {xs : List Int} {k : Int} {Q : D → ST → Prop} {X : XQ} (h : S[n]? = some (.lst (xs.map D.int))) (q : Q (.bl (!decide (k ∈ xs))) S) : wpR (mNotIn (.int k) (.ref n) S) Q X := by
  refine r_ninR ?_
  rw [h]
  unfold kInO
  refine ⟨by rw [flat_ints]; rfl, ?_⟩
  rw [any_ints]
  exact q
/-! ### frames by a predicate -/
structure FrP (P : Nat → Prop) (S S' : ST) : Prop where
  le : S.length ≤ S'.length
  eq : ∀ i, ¬ P i → i < S.length → S'[i]? = S[i]?
theorem FrP.refl (P : Nat → Prop) (S : ST) : FrP P S S := ⟨Nat.le_refl _, fun _ _ _ => rfl⟩
theorem FrP.trans {P : Nat → Prop} {S S1 S2 : ST} (a : FrP P S S1) (b : FrP P S1 S2) : FrP P S S2 := ⟨Nat.le_trans a.le b.le, fun i h1 h2 => (b.eq i h1 (Nat.lt_of_lt_of_le h2 a.le)).trans (a.eq i h1 h2)⟩
theorem FrP.mono {P P' : Nat → Prop} {S S' : ST} (f : FrP P S S') (h : ∀ i, P i → P' i) : FrP P' S S' := ⟨f.le, fun i h1 h2 => f.eq i (fun c => h1 (h i c)) h2⟩
theorem FrP.get {P : Nat → Prop} {S S' : ST} (f : FrP P S S') {i : Nat} {o : O} (h : ¬ P i) (e : S[i]? = some o) : S'[i]? = some o := by rw [f.eq i h (lt_of_get e)]; exact e
theorem FrP.app (P : Nat → Prop) (S T : ST) : FrP P S (S ++ T) := ⟨by simp, fun i _ h => List.getElem?_append_left h⟩
theorem FrP.set {P : Nat → Prop} (S : ST) (o : O) {n : Nat} (h : P n) : FrP P S (S.set n o) := ⟨by simp, fun i h1 _ => List.getElem?_set_ne fun c => by subst c; exact h1 h⟩
theorem Frm.frp {L : List Nat} {S S' : ST} (f : Frm L S S') {P : Nat → Prop} (h : ∀ i ∈ L, P i) : FrP P S S' := ⟨f.le, fun i h1 h2 => f.eq i (fun c => h1 (h i c)) h2⟩
/-- lists of numbers at the places rs -/
def Rows (S : ST) (rs : List Nat) (rows : List (List Int)) : Prop := rs.length = rows.length ∧ ∀ (k : Nat) (r : Nat) (xs : List Int), rs[k]? = some r → rows[k]? = some xs → S[r]? = some (.lst (xs.map D.int))
theorem Rows.mono {S S' : ST} {rs : List Nat} {rows : List (List Int)} (h : Rows S rs rows) (f : ∀ r ∈ rs, S'[r]? = S[r]?) : Rows S' rs rows := ⟨h.1, fun k r xs h1 h2 => by rw [f r (List.mem_of_getElem? h1)]; exact h.2 k r xs h1 h2⟩
theorem Rows.at {S : ST} {rs : List Nat} {rows : List (List Int)} (h : Rows S rs rows) {k : Nat} {xs : List Int} (hk : rows[k]? = some xs) : ∃ r, rs[k]? = some r ∧ r ∈ rs ∧ S[r]? = some (.lst (xs.map D.int)) := by
  have l := (List.getElem?_eq_some_iff.mp hk).1
  have l2 : k < rs.length := by rw [h.1]; exact l
  exact ⟨rs[k], List.getElem?_eq_getElem l2, List.getElem_mem l2, h.2 k _ xs (List.getElem?_eq_getElem l2) hk⟩
theorem Rows.lt {S : ST} {rs : List Nat} {rows : List (List Int)} (h : Rows S rs rows) {r : Nat} (hr : r ∈ rs) : r < S.length := by
  obtain ⟨k, hk, e⟩ := List.mem_iff_getElem.mp hr
  have l : k < rows.length := by rw [← h.1]; exact hk
  exact lt_of_get (h.2 k r _ (by rw [List.getElem?_eq_getElem hk, e]) (List.getElem?_eq_getElem l))
theorem set_self {S : ST} {n : Nat} {o : O} (h : S[n]? = some o) : S.set n o = S := by
  refine List.ext_getElem? fun i => ?_
  by_cases c : n = i
  · subst c
    rw [set_same (lt_of_get h), h]
  · exact set_get' c
theorem kPutO_at {S : ST} {n : Nat} {ds : List D} {i : Int} {v : D} {N : ST → Prop} (h0 : 0 ≤ i) (h1 : i < ds.length) : kPutO (some (.lst ds)) n (.int i) v S N = N (S.set n (.lst (ds.set i.toNat v))) := by
  rw [kPutO_lst]
  unfold ixN
  rw [if_pos h0, if_pos h1]
theorem cut_pos (ds : List D) (r : Nat) : Mir.cutD ds none (some (r : Int)) = ds.take r := by
  have e1 : HT.sIx ds.length ds.length (some (r : Int)) = min r ds.length := HT.sIx_nat _ _ _
  have e2 : HT.sIx ds.length 0 none = 0 := rfl
  unfold Mir.cutD
  rw [e1, e2, List.drop_zero, Nat.sub_zero]
  by_cases h : r ≤ ds.length
  · rw [Nat.min_eq_left h]
  · rw [Nat.min_eq_right (by omega), List.take_of_length_le (Nat.le_refl _), List.take_of_length_le (by omega)]
theorem filt_erase {xs : List Int} (h : xs.Nodup) (k : Int) : xs.filter (fun x => !decide (x = k)) = xs.erase k := by
  rw [h.erase_eq_filter]
  congr 1
theorem dset_map {α : Type} {g : α → D} {xs : List α} {k : Nat} {a : α} : (xs.map g).set k (g a) = (xs.set k a).map g := by rw [List.map_set]
theorem Rows.zip {S : ST} {rs : List Nat} {rows : List (List Int)} (h : Rows S rs rows) : ∀ p ∈ rs.zip rows, S[p.1]? = some (.lst (p.2.map D.int)) := by
  intro p hp
  obtain ⟨k, hk, e⟩ := List.mem_iff_getElem.mp hp
  rw [List.length_zip] at hk
  rw [List.getElem_zip] at e
  rw [← e]
  exact h.2 k _ _ (List.getElem?_eq_getElem (by omega)) (List.getElem?_eq_getElem (by omega))
def freshR (b m : Nat) : List Nat := (List.range m).map (b + ·)
theorem freshR_len {b m : Nat} : (freshR b m).length = m := by simp [freshR]
theorem freshR_mem {b m i : Nat} : i ∈ freshR b m ↔ b ≤ i ∧ i < b + m := by
  unfold freshR
  rw [List.mem_map]
  constructor
  · rintro ⟨j, h, rfl⟩
    rw [List.mem_range] at h
    omega
  · intro h
    exact ⟨i - b, List.mem_range.mpr (by omega), by omega⟩
theorem freshR_nodup {b m : Nat} : (freshR b m).Nodup := by
  unfold freshR
  exact List.Pairwise.map _ (fun a c (h : a ≠ c) => by omega) List.nodup_range
theorem freshR_succ {b m : Nat} : freshR b (m + 1) = freshR b m ++ [b + m] := by
  unfold freshR
  rw [List.range_succ, List.map_append]
  rfl
/-- [[] for _ in range(m)] -/
theorem lc_new {S : ST} {G : GE} {X : XQ} {t m : Nat} {own : List Nat} {Q : D → ST → Prop} (hm : m < SZ)
    (hd : Q (.ref S.length) (S ++ O.lst ((freshR (S.length + 1) m).map D.ref) :: List.replicate m (O.lst []))) : kLc (.nm t) tYesM (eLst aNil) own G Q X ⟨rngD 0 1 m, none⟩ S := by
  refine lc_inv (fun ds acc S' => ∃ i, i ≤ m ∧ ds = (rngD 0 1 m).drop i ∧ acc = (freshR (S.length + 1) i).map D.ref ∧ S' = S ++ O.lst acc :: List.replicate i (O.lst [])) ⟨0, Nat.zero_le _, by simp, rfl, by simp⟩ (fun _ _ _ _ => True.intro) ?_ ?_
  · intro acc S' h
    obtain ⟨i, h1, h2, h3, h4⟩ := h
    have e := congrArg List.length h2
    rw [List.length_drop, rngD_len, List.length_nil] at e
    have e2 : i = m := by omega
    rw [h4, h3, e2]
    exact hd
  · intro d ds acc S' h
    obtain ⟨i, h1, h2, h3, h4⟩ := h
    have e := congrArg List.length h2
    rw [List.length_drop, rngD_len, List.length_cons] at e
    refine ⟨_, rfl, ?_⟩
    rw [wp_tYes]
    refine ⟨fun c => Bool.noConfusion c, fun _ => ?_⟩
    rw [wp_eLst, wp_aNil, kLst_eq]
    have ll : S'.length = S.length + 1 + i := by rw [h4]; simp; omega
    refine ⟨Nat.zero_le _, ?_, ?_, ⟨i + 1, by omega, ?_, ?_, ?_⟩⟩
    · rw [h4, List.append_assoc, List.cons_append, get_app0]; rfl
    · rw [h3, List.length_map, freshR_len]; omega
    · rw [← List.tail_drop, ← h2]; rfl
    · rw [freshR_succ, List.map_append, ← h3, ll]; rfl
    · rw [h4, List.append_assoc, List.cons_append, set_app0, List.set_cons_zero, ← List.replicate_succ']
theorem rows_new {S : ST} {m : Nat} {x : O} : Rows (S ++ x :: List.replicate m (O.lst [])) (freshR (S.length + 1) m) (List.replicate m []) := by
  refine ⟨by rw [freshR_len, List.length_replicate], fun k r xs h1 h2 => ?_⟩
  have hk : k < m := by
    have := (List.getElem?_eq_some_iff.mp h2).1
    rwa [List.length_replicate] at this
  rw [List.getElem?_replicate_of_lt hk] at h2
  cases h2
  unfold freshR at h1
  rw [List.getElem?_map, List.getElem?_range hk] at h1
  cases h1
  show (S ++ x :: List.replicate m (O.lst []))[S.length + 1 + k]? = _
  rw [Nat.add_assoc, get_app, Nat.add_comm 1 k, List.getElem?_cons_succ, List.getElem?_replicate_of_lt hk]
  rfl
theorem r_mulR {S : ST} {m : Nat} {k : Int} {Q : D → ST → Prop} {X : XQ} : wpR (mMul (.ref m) (.int k) S) Q X = kLsO S[m]? (fun xs => (0 ≤ k ∧ k < 16777217 ∧ xs.length * k.toNat ≤ SZ) ∧ Q (.ref S.length) (S ++ [.lst (List.replicate k.toNat xs).flatten])) := by
  unfold mMul kLsO
  dsimp only
  cases S[m]? with
  | none => rfl
  | some o =>
    cases o with
    | lst xs => dsimp only; rw [wp_ite]; rfl
    | _ => rfl
end Mir

namespace Mir
open PySem L2 PyProof.Rows
section
variable {X : Cx} {W : WX}
/-! ### sorted, index -/
def isort (ns : List Int) : List Int := ns.mergeSort fun a b => decide (a ≤ b)
theorem isort_perm (ns : List Int) : (isort ns).Perm ns := List.mergeSort_perm _ _
theorem isort_le (ns : List Int) : (isort ns).Pairwise (· ≤ ·) := by
  have h := List.pairwise_mergeSort (le := fun a b : Int => decide (a ≤ b)) (fun a b c h1 h2 => by simp at *; omega) (fun a b => by simp; omega) ns
  exact h.imp fun h => by simpa using h
theorem isort_eq {ns ms : List Int} (p : ms.Perm ns) (s : ms.Pairwise (· ≤ ·)) : ms = isort ns :=
  List.Perm.eq_of_pairwise (le := (· ≤ ·)) (fun a b _ _ h1 h2 => Int.le_antisymm h1 h2) s (isort_le ns) (p.trans (isort_perm ns).symm)
def bSorted : List D → C D := fun ds S => match ds with | [d] => (match (d.litems S).bind intsD with | some ns => allocO (.lst ((isort ns).map D.int)) S | none => .bad) | _ => .bad
theorem bi_sorted : Bi X W (.builtin "sorted") bSorted := by
  refine ⟨_, cr_sortedI, fun ρ S H σ ds xs Q s r o => ?_⟩
  unfold bSorted at o
  split at o
  · obtain ⟨v, rfl, r1⟩ := r.one
    split at o
    · rename_i ns hn
      rw [Option.bind_eq_some_iff] at hn
      obtain ⟨es, h1, h2⟩ := hn
      obtain ⟨p, vs, rfl, q, v1⟩ := litems_ok s r1 h1
      rw [intsD_eq h2] at v1
      rw [v1.ints] at q
      refine ⟨p, ns, rfl, q, fun ns' p' h3 h4 => ?_⟩
      rw [isort_eq h3 h4]
      exact alloc_lst s o (VRs.of_ints _) p'
    · exact o.elim
  · exact o.elim
def bIndex : D → List D → C D := fun d ds S => match ds with
  | [y] => (match d.litems S with
    | some es => if (y.flat && es.all D.flat) = true then (match es.findIdx? fun z => eqF z y with | some j => .ok (.int j) S | none => .bad) else .bad
    | none => .bad)
  | _ => .bad
theorem bm_index : Bm X W "list.index" bIndex := by
  refine ⟨_, mt_index, fun ρ S H σ d ds x xs Q s r1 r2 o => ?_⟩
  unfold bIndex at o
  split at o
  · rename_i y
    obtain ⟨w, rfl, r4⟩ := r2.one
    split at o
    · rename_i es he
      split at o
      · rename_i hf
        rw [Bool.and_eq_true] at hf
        split at o
        · rename_i j hj
          obtain ⟨p, vs, rfl, q, v1⟩ := litems_ok s r1 he
          obtain ⟨e1, f1⟩ := r4.flat hf.1
          obtain ⟨e2, f2⟩ := v1.flat hf.2
          subst e1 e2
          rw [List.findIdx?_eq_some_iff_getElem] at hj
          obtain ⟨hl, c1, c2⟩ := hj
          have g : ∀ (m : Nat) (h : m < es.length), (es[m]).flat = true := fun m h => List.all_eq_true.mp hf.2 _ (List.getElem_mem h)
          refine ⟨p, _, _, j, (es[j]).toV, rfl, rfl, q, f1, f2, ?_, ?_, fun m z' hm hz => ?_, o ρ H _ (.refl _ _) s (VR_int.mpr rfl)⟩
          · rw [List.getElem?_map, List.getElem?_eq_getElem hl]; rfl
          · rw [eqV_toV (g j hl) hf.1]; exact c1
          · have hml : m < es.length := by omega
            rw [List.getElem?_map, List.getElem?_eq_getElem hml] at hz
            cases hz
            rw [eqV_toV (g m hml) hf.1]
            simpa using c2 m hm
        · exact o.elim
      · exact o.elim
    · exact o.elim
  · exact o.elim
end
end Mir

namespace Mir
open PySem L2 PyProof.Rows
section
variable {S : ST} {G : GE} {X : XQ} {Q : D → ST → Prop}
/-- a comprehension whose test always fails; the test may put things at the store's end -/
theorem lc_empty {t : Tg} {tt : MT} {fe : ME} {own : List Nat} {r : Src} (hok : ∀ T, r.ok (S ++ .lst [] :: T))
    (hs : ∀ (i : Nat) (d : D) (T : ST), r.ds[i]? = some d → ∃ G1, bindT t d (wipeG G own) (S ++ .lst [] :: T) = some G1 ∧ wpE tt G1 (S ++ .lst [] :: T) (fun k S1 => k = false ∧ ∃ T1, S1 = S ++ .lst [] :: T1) fun _ _ _ => False)
    (hd : ∀ T, Q (.ref S.length) (S ++ .lst [] :: T)) : kLc t tt fe own G Q X r S := by
  refine lc_inv (fun ds acc S' => acc = [] ∧ (∃ T, S' = S ++ .lst [] :: T) ∧ ∃ i, i ≤ r.ds.length ∧ ds = r.ds.drop i) ⟨rfl, ⟨[], rfl⟩, 0, Nat.zero_le _, rfl⟩ ?_ ?_ ?_
  · intro ds acc S' h
    obtain ⟨_, ⟨T, h2⟩, _⟩ := h
    rw [h2]; exact hok T
  · intro acc S' h
    obtain ⟨_, ⟨T, h2⟩, _⟩ := h
    rw [h2]; exact hd T
  · intro d ds acc S' h
    obtain ⟨h1, ⟨T, h2⟩, i, h3, h4⟩ := h
    have hi : r.ds[i]? = some d := by
      have e := congrArg (fun l => l[0]?) h4
      rw [List.getElem?_drop] at e
      exact e.symm
    have hl := (List.getElem?_eq_some_iff.mp hi).1
    obtain ⟨G1, g1, g2⟩ := hs i d T hi
    rw [h2]
    refine ⟨G1, g1, wpR_mono g2 fun k S1 q => ⟨fun _ => ⟨h1, q.2, i + 1, by omega, ?_⟩, fun c => by rw [q.1] at c; cases c⟩⟩
    rw [← List.tail_drop, ← h4]; rfl
/-- a comprehension that only puts things at the store's end -/
theorem lc_grow {α : Type} {t : Tg} {tt : MT} {fe : ME} {own : List Nat} {r : Src} (xs : List α) (g : α → D) (c : α → Bool) (v : α → D) (hr : r.ds = xs.map g) (hok : ∀ acc T, r.ok (S ++ .lst acc :: T)) (hl : xs.length < SZ)
    (hs : ∀ a ∈ xs, ∀ (acc : List D) (T : ST), ∃ G1, bindT t (g a) (wipeG G own) (S ++ .lst acc :: T) = some G1 ∧ wpE tt G1 (S ++ .lst acc :: T) (fun k S1 => k = c a ∧ ∃ T1, S1 = S ++ .lst acc :: T1 ∧ (c a = true → wpE fe G1 (S ++ .lst acc :: T1) (fun x S2 => x = v a ∧ ∃ T2, S2 = S ++ .lst acc :: T2) fun _ _ _ => False)) fun _ _ _ => False)
    (hd : ∀ T, Q (.ref S.length) (S ++ .lst ((xs.filter c).map v) :: T)) : kLc t tt fe own G Q X r S := by
  refine lc_inv (fun ds acc S' => ∃ ys : List α, (∃ T, S' = S ++ .lst acc :: T) ∧ ds = ys.map g ∧ acc ++ (ys.filter c).map v = (xs.filter c).map v ∧ (∀ a ∈ ys, a ∈ xs) ∧ acc.length + ys.length ≤ xs.length) ⟨xs, ⟨[], rfl⟩, hr, rfl, fun _ h => h, by simp⟩ ?_ ?_ ?_
  · intro ds acc S' h
    obtain ⟨ys, ⟨T, h1⟩, _⟩ := h
    rw [h1]
    exact hok acc T
  · intro acc S' h
    obtain ⟨ys, ⟨T, h1⟩, h0, h2, _, _⟩ := h
    have e : ys = [] := List.map_eq_nil_iff.mp h0.symm
    rw [e, List.filter_nil, List.map_nil, List.append_nil] at h2
    rw [h1, h2]
    exact hd T
  · intro d ds acc S' h
    obtain ⟨ys, ⟨T, h1⟩, h0, h2, h3, h4⟩ := h
    cases ys with
    | nil => cases h0
    | cons a ys =>
      rw [List.map_cons] at h0
      injection h0 with e1 e2
      rw [e1]
      obtain ⟨G1, g1, g2⟩ := hs a (h3 a (List.mem_cons_self ..)) acc T
      rw [h1]
      refine ⟨G1, g1, wpR_mono g2 fun k S1 q => ?_⟩
      obtain ⟨q2, T1, q1, q3⟩ := q
      rw [List.length_cons] at h4
      refine ⟨fun hk => ?_, fun hk => ?_⟩
      · rw [q1]
        rw [List.filter_cons_of_neg (by rw [← q2, hk]; exact Bool.false_ne_true)] at h2
        exact ⟨ys, ⟨T1, rfl⟩, e2, h2, fun e he => h3 e (List.mem_cons_of_mem _ he), by omega⟩
      · have hc : c a = true := q2.symm.trans hk
        rw [q1]
        refine wpR_mono (q3 hc) fun x S2 z => ?_
        obtain ⟨z1, T2, z2⟩ := z
        rw [List.filter_cons_of_pos hc, List.map_cons] at h2
        rw [z1, z2]
        refine ⟨get_app0, by omega, ys, ⟨T2, by rw [set_app0]; rfl⟩, e2, ?_, fun e he => h3 e (List.mem_cons_of_mem _ he), by rw [List.length_append, List.length_singleton]; omega⟩
        rw [List.append_assoc]
        exact h2
theorem rngD_map {n : Nat} : rngD 0 1 n = (List.range n).map fun k : Nat => D.int (k : Int) := by
  refine List.ext_getElem? fun i => ?_
  by_cases h : i < n
  · rw [rngD_get h, List.getElem?_map, List.getElem?_range h]
    show some (D.int (0 + (i : Int) * 1)) = some (D.int i)
    rw [Int.zero_add, Int.mul_one]
  · rw [List.getElem?_eq_none (by rw [rngD_len]; omega), List.getElem?_eq_none (by rw [List.length_map, List.length_range]; omega)]
theorem r_sortedR {n : Nat} {xs : List Int} (h : S[n]? = some (.lst (xs.map D.int))) (q : Q (.ref S.length) (S ++ [.lst ((isort xs).map D.int)])) : wpR (bSorted [.ref n] S) Q X := by
  unfold bSorted D.litems
  simp only [h, Option.bind_some, intsD_map]
  exact q
theorem find_str {names : List Str} (nd : names.Nodup) {j : Nat} {x : Str} (hj : names[j]? = some x) : (names.map D.str).findIdx? (fun z => eqF z (.str x)) = some j := by
  obtain ⟨hl, e⟩ := List.getElem?_eq_some_iff.mp hj
  rw [List.findIdx?_eq_some_iff_getElem]
  refine ⟨by rw [List.length_map]; exact hl, ?_, fun m hm => ?_⟩
  · rw [List.getElem_map, e]
    exact decide_eq_true rfl
  · rw [List.getElem_map]
    have hml : m < names.length := by omega
    have : names[m] ≠ x := by
      intro c
      rw [← e] at c
      exact absurd ((List.getElem_inj nd).mp c) (by omega)
    show ¬ (decide (names[m] = x) = true)
    simpa using this
theorem flat_strs {names : List Str} : (names.map D.str).all D.flat = true := by
  rw [List.all_map]
  exact List.all_eq_true.mpr fun _ _ => rfl
theorem r_indexR {n j : Nat} {names : List Str} {x : Str} (h : S[n]? = some (.lst (names.map D.str))) (nd : names.Nodup) (hj : names[j]? = some x) (q : Q (.int j) S) : wpR (bIndex (.ref n) [.str x] S) Q X := by
  unfold bIndex D.litems
  have e : ((D.str x).flat && (names.map D.str).all D.flat) = true := by rw [flat_strs]; rfl
  simp only [h, e, if_true, find_str nd hj]
  exact q
end
end Mir

namespace Mir
open PySem L2 PyProof.Rows
section
variable {X : Cx} {W : WX} {a b c e o : Expr} {fa fb fe fo : ME} {fl fh : MO} {pos p p2 : Pos} {lo hi : Option Expr}
/-! ### o[i:j] = e, of another list -/
def gSlc (to : TE) (tl th : TO) : TG := fun v σ H Q => to σ H fun x H1 => tl σ H1 fun l H2 => th σ H2 fun u H3 => ∃ (q r : Addr) (xs ys : List V) (i j : Int), x = .ref q ∧ v = .ref r ∧ l = some i ∧ u = some j ∧
  H3 q = some (.lst xs) ∧ H3 r = some (.lst ys) ∧ q ≠ r ∧ 0 ≤ i ∧ i ≤ j ∧ j ≤ xs.length ∧ xs.length + ys.length ≤ sizeLine ∧ Q σ (upd H3 q (.lst (xs.take i.toNat ++ ys ++ xs.drop j.toNat)))
theorem IsPart.rel {v : Value} {i : Int} (h : IsPart v (some i)) : RelV (.int i) v := by
  cases h with
  | int i t => exact ⟨t, rfl⟩
theorem pg_slc {to : TE} {tl th : TO} (ho : PE X o to) (hl : PO X lo tl) (hh : PO X hi th)
    (hA : ∀ v, assign (.Subscript o (.Slice lo hi none p2) pos) X.env v = (do
      let ov ← holding [v] (eval o X.env)
      let iv ← holding [v, ov] (eval (.Slice lo hi none p2) X.env)
      standAt pos
      holding [v, ov, iv] (setItem ov iv v)
      release [iv, v, ov] []) := by intro _; rfl) : PG X (.Subscript o (.Slice lo hi none p2) pos) (gSlc to tl th) := by
  refine ⟨fun pins s σ H v u Q I r h => ?_⟩
  rw [hA]
  refine wpAny_bind (wpAny_holding (thn (ho.run pins s σ H _ I h) fun ov s1 ⟨x, H1, I1, r1, q1⟩ => ?_))
  refine wpAny_bind (wpAny_holding (wpAny_Slice (thn (hl.run pins s1 σ H1 _ I1 q1) fun vl s2 ⟨l, H2, I2, pl, q2⟩ => thn (hh.run pins s2 σ H2 _ I2 q2) fun vu s3 ⟨w, H3, I3, pu, q3⟩ => ?_)))
  rw [evalPart_none]
  refine wpAny_pure ?_
  obtain ⟨q, r', xs, ys, i, j, rfl, rfl, rfl, rfl, hq, hr, hne, h0, h1, h2, h3, k⟩ := q3
  have I4 : Inv X pins σ H3 { s3 with heap := s3.heap.push { cls := .type "slice", data := .fields #[vl, vu, .none] } } := I3.kept (t' := s3.toks) fun b ob q => Heap.get?_push_of_some _ q
  cases r1
  cases r
  refine wpAny_bind (wpAny_standAt (wpAny_bind (wpAny_holding ?_)))
  refine set_slice I4 hq hr hne (Heap.IsSliceOf.new ..) (IsPart.rel pl) (IsPart.rel pu) h0 h1 h2 h3 fun s' I' => ?_
  exact wpAny_release ⟨σ, _, I', k⟩
/-- what it comes to -/
def putSl (S : ST) (o : D) (lo hi : Option Int) (v : D) : Option ST := match o, v, lo, hi with
  | .ref n, .ref m, some i, some j => match S[n]?, S[m]? with
    | some (.lst xs), some (.lst ys) => if n ≠ m ∧ 0 ≤ i ∧ i ≤ j ∧ j ≤ xs.length ∧ xs.length + ys.length ≤ SZ then some (S.set n (.lst (xs.take i.toNat ++ ys ++ xs.drop j.toNat))) else none
    | _, _ => none
  | _, _, _, _ => none
def sSlc (fo : ME) (fl fh : MO) (fe : ME) : MS := fun G S => (fe G S).s G fun v S1 => (fo G S1).s G fun o S2 => (fl G S2).s G fun l S3 => (fh G S3).s G fun h S4 => match putSl S4 o l h v with | some S5 => .nx G S5 | none => .bad
theorem ds_slc (ho : DE X W o fo) (hl : DO X W lo fl) (hh : DO X W hi fh) (he : DE X W e fe)
    (hA : ∀ v, assign (.Subscript o (.Slice lo hi none p2) p) X.env v = (do
      let ov ← holding [v] (eval o X.env)
      let iv ← holding [v, ov] (eval (.Slice lo hi none p2) X.env)
      standAt p
      holding [v, ov, iv] (setItem ov iv v)
      release [iv, v, ov] []) := by intro _; rfl)
    (hs : swapsWithSole [.Subscript o (.Slice lo hi none p2) p] e pos.line X.env = pure false := by rfl) (hw : swappedStores [.Subscript o (.Slice lo hi none p2) p] e X.env = pure none := by rfl)
    (h1 : (assignEach [.Subscript o (.Slice lo hi none p2) p] X.env).map (·.2) = [assign (.Subscript o (.Slice lo hi none p2) p) X.env] := by rfl) :
    DS X W (.Assign [.Subscript o (.Slice lo hi none p2) p] e pos) (sSlc fo fl fh fe) := PS.weak (ps_asg he (pg_slc ho hl hh hA) hs hw h1) fun D σ H h => by
  refine tG_mono (tS_bind (f := fe) (k := fun v G S1 => (fo G S1).s G fun o S2 => (fl G S2).s G fun l S3 => (fh G S3).s G fun h S4 => match putSl S4 o l h v with | some S5 => .nx G S5 | none => .bad) (rel := rV X) h) fun v H1 q => ?_
  obtain ⟨ρ, G, S, d, g, s, r, out⟩ := q
  refine ⟨ρ, G, S, g, s, OutG.mono (outS_bind (rel := rV X) g out) (.refl _ _) fun x H2 q2 => ?_⟩
  obtain ⟨ρ2, S2, e2, x2, s2, r2, o2⟩ := q2
  refine ⟨ρ2, G, S2, g.mono x2, s2, OutG.mono (outS_bind (rel := fun _ _ a b => b = a) (g.mono x2) o2) (.refl _ _) fun l H3 q3 => ?_⟩
  obtain ⟨ρ3, S3, e3, x3, s3, r3, o3⟩ := q3
  subst r3
  have g3 := (g.mono x2).mono x3
  refine ⟨ρ3, G, S3, g3, s3, OutG.mono (outS_bind (rel := fun _ _ a b => b = a) g3 o3) (.refl _ _) fun u H4 q4 => ?_⟩
  obtain ⟨ρ4, S4, e4, x4, s4, r4, o4⟩ := q4
  subst r4
  have g4 := g3.mono x4
  split at o4
  · rename_i S5 hp
    unfold putSl at hp
    split at hp
    · rename_i n m i j
      split at hp
      · rename_i xs ys h1 h2
        split at hp
        · rename_i c
          cases hp
          obtain ⟨c0, c1, c2, c3, c4⟩ := c
          have rv : VR X.K ρ4 H4 (.ref m) v := VR.mono (x2.trans (x3.trans x4)) r
          have rx : VR X.K ρ4 H4 (.ref n) x := VR.mono (x3.trans x4) r2
          obtain ⟨q, e1, p1, vs, w1, v1⟩ := s4.ref rx h1
          obtain ⟨t, e2, p2, ws, w2, v2⟩ := s4.ref rv h2
          have hm : Mut (H4 q) := by rw [w1]; exact True.intro
          refine ⟨q, t, vs, ws, i, j, e1, e2, rfl, rfl, w1, w2, fun z => ?_, c1, c2, by rw [← v1.length]; exact c3, by rw [sizeLine_eq, ← v1.length, ← v2.length]; exact c4, ?_⟩
          · subst z
            have hn := (List.getElem?_eq_some_iff.mp p1)
            have hm' := (List.getElem?_eq_some_iff.mp p2)
            obtain ⟨l1, e1⟩ := hn
            obtain ⟨l2, e2⟩ := hm'
            exact c0 ((List.getElem_inj s4.nd).mp (e1.trans e2.symm))
          · have s5 := s4.write (ho := .lst (vs.take i.toNat ++ ws ++ vs.drop j.toNat)) (o := .lst (xs.take i.toNat ++ ys ++ xs.drop j.toNat)) p1 hm ⟨_, upd_same, (((v1.take _).append v2).append (v1.drop _)).mono (.write hm)⟩
            exact outS_nx (g4.mono (.write hm)) s5 (OutS.mono (r := RS.nx G _) o4 (.write hm))
        · cases hp
      · cases hp
    · cases hp
  · exact o4.elim
end
/-! ### its word -/
section
variable {G : GE} {S : ST} {K : Kt} {X : XQ}
def kSc4 (v o : D) (l : Option Int) (K : Kt) (G : GE) : Option Int → ST → Prop := fun h S => match putSl S o l h v with | some S5 => K.nx G S5 | none => False
def kSc3 (v o : D) (fh : MO) (K : Kt) (G : GE) : Option Int → ST → Prop := fun l S => wpE fh G S (kSc4 v o l K G) (kx K G)
def kSc2 (v : D) (fl fh : MO) (K : Kt) (G : GE) : D → ST → Prop := fun o S => wpE fl G S (kSc3 v o fh K G) (kx K G)
def kSc1 (fo : ME) (fl fh : MO) (K : Kt) (G : GE) : D → ST → Prop := fun v S => wpE fo G S (kSc2 v fl fh K G) (kx K G)
theorem wp_sSlc {fo fe : ME} {fl fh : MO} : wpS (sSlc fo fl fh fe) G S K = wpE fe G S (kSc1 fo fl fh K G) (kx K G) := by
  unfold wpS sSlc; rw [run_s]
  unfold wpE kSc1
  congr 1
  funext v S
  rw [run_s]
  unfold wpE kSc2
  congr 1
  funext o S
  rw [run_s]
  unfold wpE kSc3
  congr 1
  funext l S
  rw [run_s]
  unfold wpE kSc4
  congr 1
  funext h S
  cases putSl S o l h v <;> rfl
theorem kSc1_eq {fo : ME} {fl fh : MO} {v : D} : kSc1 fo fl fh K G v S = wpE fo G S (kSc2 v fl fh K G) (kx K G) := rfl
theorem kSc2_eq {fl fh : MO} {v o : D} : kSc2 v fl fh K G o S = wpE fl G S (kSc3 v o fh K G) (kx K G) := rfl
theorem kSc3_eq {fh : MO} {v o : D} {l : Option Int} : kSc3 v o fh K G l S = wpE fh G S (kSc4 v o l K G) (kx K G) := rfl
theorem kSc4_ref {n m : Nat} {i j : Int} : kSc4 (.ref m) (.ref n) (some i) K G (some j) S = kLsO S[n]? (fun xs => kLsO S[m]? (fun ys => (n ≠ m ∧ 0 ≤ i ∧ i ≤ j ∧ j ≤ xs.length ∧ xs.length + ys.length ≤ SZ) ∧ K.nx G (S.set n (.lst (xs.take i.toNat ++ ys ++ xs.drop j.toNat))))) := by
  unfold kSc4 putSl kLsO
  dsimp only
  cases S[n]? with
  | none => rfl
  | some o1 =>
    cases S[m]? with
    | none => cases o1 <;> rfl
    | some o2 =>
      cases o1 <;> cases o2 <;> first | rfl | skip
      rename_i xs ys
      dsimp only
      by_cases c : n ≠ m ∧ 0 ≤ i ∧ i ≤ j ∧ j ≤ (xs.length : Int) ∧ xs.length + ys.length ≤ SZ
      · rw [if_pos c]
        simp only [eq_iff_iff]
        exact ⟨fun z => ⟨c, z⟩, fun z => z.2⟩
      · rw [if_neg c]
        simp only [eq_iff_iff, false_iff]
        exact fun z => c z.1
end
/-! ### range as a value -/
def rgB (a b : Int) : Bool := lim62 a && (lim62 b && decide ((b - a).toNat ≤ SZ))
def mTupR : D → D → C D := fun a b S => match a, b with | .int i, .int j => if rgB i j = true then .ok (.tup (rngD i 1 (j - i).toNat)) S else .bad | _, _ => .bad
def mLstR : D → D → C D := fun a b S => match a, b with | .int i, .int j => if rgB i j = true then allocO (.lst (rngD i 1 (j - i).toNat)) S else .bad | _, _ => .bad
theorem rgB_ok {a b : Int} (h : rgB a b = true) : RgOk a b := by
  simp only [rgB, lim62, Bool.and_eq_true, decide_eq_true_eq] at h
  unfold SZ at h
  exact ⟨by omega, by omega, by omega, by omega, by omega⟩
theorem rng_vals {K : PySem.W.Frag} {ρ : List Addr} {H : Hp} {a b : Int} : VRs K ρ H (rngD a 1 (b - a).toNat) (rgV a b) := by
  have e1 : rngD a 1 (b - a).toNat = ((List.range (b - a).toNat).map fun i : Nat => a + (i : Int)).map D.int := by
    unfold rngD
    rw [List.map_map]
    refine List.map_congr_left fun i _ => ?_
    show D.int (a + (i : Int) * 1) = D.int (a + (i : Int))
    rw [Int.mul_one]
  have e2 : rgV a b = ((List.range (b - a).toNat).map fun i : Nat => a + (i : Int)).map V.int := by
    unfold rgV
    rw [List.map_map]
    rfl
  rw [e1, e2]
  exact .of_ints _
section
variable {X : Cx} {W : WX} {a b : Expr} {fa fb : ME} {pos p p1 p2 : Pos}
theorem de_tupR2 (hc : X.calm = true) (hg : Gl X "tuple") (hm : X.mg "tuple" = none) (hg2 : Gl X "range") (hm2 : X.mg "range" = none) (ha : DE X W a fa) (hb : DE X W b fb)
    (na : starEach [a, b] X.env = (false, eval a X.env) :: starEach [b] X.env := by rfl) (nb : starEach [b] X.env = (false, eval b X.env) :: starEach [] X.env := by rfl) (hp : (backTo p1 (starEach [b] X.env)).any (·.1) = false := by rfl)
    (ne : starEach [.Call (.Name "range" p2) [a, b] [] p1] X.env = (false, eval (.Call (.Name "range" p2) [a, b] [] p1) X.env) :: starEach [] X.env := by rfl) :
    DE X W (.Call (.Name "tuple" p) [.Call (.Name "range" p2) [a, b] [] p1] [] pos) (e2 mTupR fa fb) :=
  PE.weak (pe_tupRg hc hg hm (prg_2 hg2 hm2 ha hb na nb hp) ne) fun σ H Q h => two (r := fun x y H Q => ∃ i j, x = .int i ∧ y = .int j ∧ (RgOk i j ∧ ∀ q, H q = none → Q (.ref q) (upd H q (.tup (rgV i j))))) (fun ρ S H σ d e x y Q s r1 r2 o => by
    unfold mTupR at o
    split at o
    · split at o
      · rename_i i j c
        exact ⟨i, j, VR_int.mp r1, VR_int.mp r2, rgB_ok c, new_tup s o rng_vals⟩
      · exact o.elim
    · exact o.elim) h
theorem de_tupR1 (hc : X.calm = true) (hg : Gl X "tuple") (hm : X.mg "tuple" = none) (hg2 : Gl X "range") (hm2 : X.mg "range" = none) (ha : DE X W a fa)
    (na : starEach [a] X.env = (false, eval a X.env) :: starEach [] X.env := by rfl) (ne : starEach [.Call (.Name "range" p2) [a] [] p1] X.env = (false, eval (.Call (.Name "range" p2) [a] [] p1) X.env) :: starEach [] X.env := by rfl) :
    DE X W (.Call (.Name "tuple" p) [.Call (.Name "range" p2) [a] [] p1] [] pos) (e1 (mTupR (.int 0)) fa) :=
  PE.weak (pe_tupRg hc hg hm (prg_1 hg2 hm2 ha na) ne) fun σ H Q h => one (r := fun x H Q => ∃ j, x = .int j ∧ (RgOk 0 j ∧ ∀ q, H q = none → Q (.ref q) (upd H q (.tup (rgV 0 j))))) (fun ρ S H σ d x Q s r1 o => by
    unfold mTupR at o
    split at o
    · rename_i i j k
      cases k
      split at o
      · rename_i c
        exact ⟨_, VR_int.mp r1, rgB_ok c, new_tup s o rng_vals⟩
      · exact o.elim
    · exact o.elim) h
theorem de_lstR2 (hc : X.calm = true) (hg : Gl X "list") (hm : X.mg "list" = none) (hg2 : Gl X "range") (hm2 : X.mg "range" = none) (ha : DE X W a fa) (hb : DE X W b fb)
    (na : starEach [a, b] X.env = (false, eval a X.env) :: starEach [b] X.env := by rfl) (nb : starEach [b] X.env = (false, eval b X.env) :: starEach [] X.env := by rfl) (hp : (backTo p1 (starEach [b] X.env)).any (·.1) = false := by rfl)
    (ne : starEach [.Call (.Name "range" p2) [a, b] [] p1] X.env = (false, eval (.Call (.Name "range" p2) [a, b] [] p1) X.env) :: starEach [] X.env := by rfl) :
    DE X W (.Call (.Name "list" p) [.Call (.Name "range" p2) [a, b] [] p1] [] pos) (e2 mLstR fa fb) :=
  PE.weak (pe_listRg hc hg hm (prg_2 hg2 hm2 ha hb na nb hp) ne) fun σ H Q h => two (r := fun x y H Q => ∃ i j, x = .int i ∧ y = .int j ∧ (RgOk i j ∧ ∀ q, H q = none → Q (.ref q) (upd H q (.lst (rgV i j))))) (fun ρ S H σ d e x y Q s r1 r2 o => by
    unfold mLstR at o
    split at o
    · split at o
      · rename_i i j c
        exact ⟨i, j, VR_int.mp r1, VR_int.mp r2, rgB_ok c, alloc_lst s o rng_vals⟩
      · exact o.elim
    · exact o.elim) h
theorem de_lstR1 (hc : X.calm = true) (hg : Gl X "list") (hm : X.mg "list" = none) (hg2 : Gl X "range") (hm2 : X.mg "range" = none) (ha : DE X W a fa)
    (na : starEach [a] X.env = (false, eval a X.env) :: starEach [] X.env := by rfl) (ne : starEach [.Call (.Name "range" p2) [a] [] p1] X.env = (false, eval (.Call (.Name "range" p2) [a] [] p1) X.env) :: starEach [] X.env := by rfl) :
    DE X W (.Call (.Name "list" p) [.Call (.Name "range" p2) [a] [] p1] [] pos) (e1 (mLstR (.int 0)) fa) :=
  PE.weak (pe_listRg hc hg hm (prg_1 hg2 hm2 ha na) ne) fun σ H Q h => one (r := fun x H Q => ∃ j, x = .int j ∧ (RgOk 0 j ∧ ∀ q, H q = none → Q (.ref q) (upd H q (.lst (rgV 0 j))))) (fun ρ S H σ d x Q s r1 o => by
    unfold mLstR at o
    split at o
    · rename_i i j k
      cases k
      split at o
      · rename_i c
        exact ⟨_, VR_int.mp r1, rgB_ok c, alloc_lst s o rng_vals⟩
      · exact o.elim
    · exact o.elim) h
variable {Q : D → ST → Prop} {XX : XQ} {S : ST} {i j : Int}
theorem r_tupR2 : wpR (mTupR (.int i) (.int j) S) Q XX = (rgB i j = true ∧ Q (.tup (rngD i 1 (j - i).toNat)) S) := wp_ite
theorem r_lstR2 : wpR (mLstR (.int i) (.int j) S) Q XX = (rgB i j = true ∧ Q (.ref S.length) (S ++ [.lst (rngD i 1 (j - i).toNat)])) := wp_ite
theorem rgB_of (h0 : -4611686018427387904 ≤ i) (h1 : i < 4611686018427387904) (h2 : -4611686018427387904 ≤ j) (h3 : j < 4611686018427387904) (h4 : (j - i).toNat ≤ SZ) : rgB i j = true := by
  unfold rgB
  rw [lim62_of h0 h1, lim62_of h2 h3, decide_eq_true h4]
  rfl
end
end Mir

namespace Mir
open PySem L2 PyProof.Rows
/-! ### layouts: a place of the store for each tag -/
structure Lay {τ : Type} (F : List Nat) (S : ST) (A : τ → Nat) (c : τ → Option O) : Prop where
  at_ : ∀ t o, c t = some o → S[A t]? = some o
  inj : ∀ t u o o', c t = some o → c u = some o' → A t = A u → t = u
  av : ∀ t o, c t = some o → A t ∉ F
section
variable {τ : Type} {F : List Nat} {S : ST} {A : τ → Nat} {c : τ → Option O}
theorem Lay.get (L : Lay F S A c) {t : τ} {o : O} (h : c t = some o) : S[A t]? = some o := L.at_ t o h
theorem Lay.ne (L : Lay F S A c) {t u : τ} {o o' : O} (h : c t = some o) (h' : c u = some o') (hn : t ≠ u) : A t ≠ A u := fun e => hn (L.inj t u o o' h h' e)
theorem Lay.app (L : Lay F S A c) (T : ST) : Lay F (S ++ T) A c :=
  ⟨fun t o h => by rw [List.getElem?_append_left (lt_of_get (L.at_ t o h))]; exact L.at_ t o h, L.inj, L.av⟩
theorem Lay.set (L : Lay F S A c) {t : τ} {o o0 : O} {c' : τ → Option O} (h : c t = some o0) (h' : c' t = some o) (hc : ∀ u, u ≠ t → c' u = c u) : Lay F (S.set (A t) o) A c' := by
  have hs : ∀ u x, c' u = some x → ∃ y, c u = some y := fun u x e => by
    by_cases z : u = t
    · subst z; exact ⟨o0, h⟩
    · rw [hc u z] at e; exact ⟨x, e⟩
  refine ⟨fun u x e => ?_, fun u v x y e1 e2 e3 => ?_, fun u x e => ?_⟩
  · by_cases z : u = t
    · subst z
      rw [h'] at e
      cases e
      exact set_same (lt_of_get (L.at_ u o0 h))
    · rw [hc u z] at e
      rw [set_get' (fun q => z (L.inj t u o0 x h e q).symm)]
      exact L.at_ u x e
  · obtain ⟨x', e1⟩ := hs u x e1
    obtain ⟨y', e2⟩ := hs v y e2
    exact L.inj u v x' y' e1 e2 e3
  · obtain ⟨x', e1⟩ := hs u x e
    exact L.av u x' e1
/-- all places but the forbidden ones stand as before -/
theorem Lay.fr (L : Lay F S A c) {S' : ST} (h : ∀ i, i ∉ F → i < S.length → S'[i]? = S[i]?) : Lay F S' A c :=
  ⟨fun t o e => by rw [h _ (L.av t o e) (lt_of_get (L.at_ t o e))]; exact L.at_ t o e, L.inj, L.av⟩
/-- other places than those of the layout were changed -/
theorem Lay.keep (L : Lay F S A c) {S' : ST} (h : ∀ t o, c t = some o → S'[A t]? = S[A t]?) : Lay F S' A c :=
  ⟨fun t o e => by rw [h t o e]; exact L.at_ t o e, L.inj, L.av⟩
theorem Lay.lt (L : Lay F S A c) {t : τ} {o : O} (h : c t = some o) : A t < S.length := lt_of_get (L.at_ t o h)
/-- new places: c' differs from c where A does, and those are fresh -/
theorem Lay.renew (L : Lay F S A c) {S' : ST} {A' : τ → Nat} {c' : τ → Option O} (N : τ → Prop) (hl : ∀ i ∈ F, i < S.length)
    (hold : ∀ t o, ¬ N t → c' t = some o → A' t = A t ∧ S'[A t]? = some o ∧ ∃ o0, c t = some o0)
    (hnew : ∀ t o, N t → c' t = some o → S.length ≤ A' t ∧ S'[A' t]? = some o) (hni : ∀ t u o o', N t → N u → c' t = some o → c' u = some o' → A' t = A' u → t = u) : Lay F S' A' c' := by
  classical
  refine ⟨fun t o e => ?_, fun t u o o' e1 e2 e3 => ?_, fun t o e => ?_⟩
  · by_cases z : N t
    · exact (hnew t o z e).2
    · rw [(hold t o z e).1]; exact (hold t o z e).2.1
  · by_cases z : N t
    · by_cases y : N u
      · exact hni t u o o' z y e1 e2 e3
      · obtain ⟨h1, _, o0, h3⟩ := hold u o' y e2
        have := L.lt h3
        have := (hnew t o z e1).1
        omega
    · obtain ⟨h1, _, o0, h3⟩ := hold t o z e1
      by_cases y : N u
      · have := L.lt h3
        have := (hnew u o' y e2).1
        omega
      · obtain ⟨g1, _, o1, g3⟩ := hold u o' y e2
        exact L.inj t u o0 o1 h3 g3 (by rw [← h1, ← g1]; exact e3)
  · by_cases z : N t
    · have := (hnew t o z e).1
      intro h
      have := hl _ h
      omega
    · obtain ⟨h1, _, o0, h3⟩ := hold t o z e
      rw [h1]
      exact L.av t o0 h3
end
theorem Frm.lay {τ : Type} {F L : List Nat} {S S' : ST} {A : τ → Nat} {c : τ → Option O} (f : Frm L S S') (l : Lay F S A c) (h : ∀ t o, c t = some o → A t ∉ L) : Lay F S' A c :=
  l.keep fun t o e => f.eq _ (h t o e) (l.lt e)
theorem set_app_lt {α : Type} {S T : List α} {n : Nat} {o : α} (h : n < S.length) : (S ++ T).set n o = S.set n o ++ T := List.set_append_left _ _ h
theorem get_appE0 {α : Type} {S T : List α} {n : Nat} (h : S.length = n) : (S ++ T)[n]? = T[0]? := by subst h; exact get_app0
theorem get_appE {α : Type} {S T : List α} {n k : Nat} (h : S.length = n) : (S ++ T)[n + k]? = T[k]? := by subst h; exact get_app
theorem set_appE0 {α : Type} {S T : List α} {n : Nat} {o : α} (h : S.length = n) : (S ++ T).set n o = S ++ T.set 0 o := by subst h; exact set_app0
theorem set_appE {α : Type} {S T : List α} {n k : Nat} {o : α} (h : S.length = n) : (S ++ T).set (n + k) o = S ++ T.set k o := by subst h; exact set_app
/-- only more at the end -/
def Ex (S S1 : ST) : Prop := ∃ T, S1 = S ++ T
theorem Ex.refl (S : ST) : Ex S S := ⟨[], by simp⟩
theorem Ex.app {S S1 : ST} (e : Ex S S1) (T : ST) : Ex S (S1 ++ T) := by obtain ⟨U, rfl⟩ := e; exact ⟨U ++ T, by simp⟩
theorem Ex.trans {S S1 S2 : ST} (e : Ex S S1) (f : Ex S1 S2) : Ex S S2 := by obtain ⟨U, rfl⟩ := f; exact e.app U
theorem Ex.get {S S1 : ST} (e : Ex S S1) {i : Nat} {o : O} (h : S[i]? = some o) : S1[i]? = some o := by obtain ⟨U, rfl⟩ := e; rw [List.getElem?_append_left (lt_of_get h)]; exact h
theorem Ex.fr {S S1 : ST} (e : Ex S S1) (iw : Nat) : Frm [] S S1 := by obtain ⟨U, rfl⟩ := e; exact .app _ _ _
theorem Ex.le {S S1 : ST} (e : Ex S S1) : S.length ≤ S1.length := by obtain ⟨U, rfl⟩ := e; simp
theorem Ex.use {S S1 : ST} (e : Ex S S1) {P : ST → Prop} (k : ∀ T, P (S ++ T)) : P S1 := by obtain ⟨U, rfl⟩ := e; exact k U
theorem Ex.lay {τ : Type} {F : List Nat} {S S1 : ST} {A : τ → Nat} {c : τ → Option O} (e : Ex S S1) (l : Lay F S A c) : Lay F S1 A c := by obtain ⟨U, rfl⟩ := e; exact l.app U
open Classical in
theorem Lay.put {τ : Type} {F : List Nat} {S : ST} {A : τ → Nat} {c : τ → Option O} (L : Lay F S A c) {t : τ} {o o0 : O} (h : c t = some o0) : Lay F (S.set (A t) o) A (fun u => if u = t then some o else c u) :=
  L.set h (by rw [if_pos rfl]) fun u hu => by rw [if_neg hu]
theorem Lay.eqc {τ : Type} {F : List Nat} {S : ST} {A : τ → Nat} {c c' : τ → Option O} (L : Lay F S A c) (h : ∀ t, c' t = c t) : Lay F S A c' := by
  have : c' = c := funext h
  rw [this]; exact L
end Mir

namespace Mir
open PySem L2 PyProof.Rows
section
variable {X : Cx} {W : WX}
/-! ### max, min, all, any of a list; sum of a list or tuple -/
def maxI (m : Int) : List Int → Int
  | [] => m
  | x :: r => maxI (if m < x then x else m) r
def minI (m : Int) : List Int → Int
  | [] => m
  | x :: r => minI (if x < m then x else m) r
theorem maxI_mem : ∀ (r : List Int) (m : Int), maxI m r = m ∨ maxI m r ∈ r
  | [], m => .inl rfl
  | x :: r, m => by
    rcases maxI_mem r (if m < x then x else m) with h | h
    · show maxI (if m < x then x else m) r = m ∨ _
      by_cases c : m < x
      · exact .inr (by show maxI (if m < x then x else m) r ∈ _; rw [h, if_pos c]; exact List.mem_cons_self ..)
      · exact .inl (by rw [h, if_neg c])
    · exact .inr (List.mem_cons_of_mem _ h)
theorem maxI_ge : ∀ (r : List Int) (m : Int), m ≤ maxI m r ∧ ∀ y ∈ r, y ≤ maxI m r
  | [], m => ⟨Int.le_refl _, fun y h => absurd h List.not_mem_nil⟩
  | x :: r, m => by
    obtain ⟨h1, h2⟩ := maxI_ge r (if m < x then x else m)
    have e : maxI m (x :: r) = maxI (if m < x then x else m) r := rfl
    rw [e]
    generalize hz : (if m < x then x else m) = z at h1 h2 ⊢
    have h3 : m ≤ z ∧ x ≤ z := by rw [← hz]; split <;> omega
    refine ⟨by omega, fun y hy => ?_⟩
    rcases List.mem_cons.mp hy with c | c
    · rw [c]; omega
    · exact h2 y c
theorem minI_mem : ∀ (r : List Int) (m : Int), minI m r = m ∨ minI m r ∈ r
  | [], m => .inl rfl
  | x :: r, m => by
    rcases minI_mem r (if x < m then x else m) with h | h
    · show minI (if x < m then x else m) r = m ∨ _
      by_cases c : x < m
      · exact .inr (by show minI (if x < m then x else m) r ∈ _; rw [h, if_pos c]; exact List.mem_cons_self ..)
      · exact .inl (by rw [h, if_neg c])
    · exact .inr (List.mem_cons_of_mem _ h)
theorem minI_le : ∀ (r : List Int) (m : Int), minI m r ≤ m ∧ ∀ y ∈ r, minI m r ≤ y
  | [], m => ⟨Int.le_refl _, fun y h => absurd h List.not_mem_nil⟩
  | x :: r, m => by
    obtain ⟨h1, h2⟩ := minI_le r (if x < m then x else m)
    have e : minI m (x :: r) = minI (if x < m then x else m) r := rfl
    rw [e]
    generalize hz : (if x < m then x else m) = z at h1 h2 ⊢
    have h3 : z ≤ m ∧ z ≤ x := by rw [← hz]; split <;> omega
    refine ⟨by omega, fun y hy => ?_⟩
    rcases List.mem_cons.mp hy with c | c
    · rw [c]; omega
    · exact h2 y c
def bMax1 : List D → C D := fun ds S => match ds with | [d] => (match (d.litems S).bind intsD with | some (x :: r) => .ok (.int (maxI x r)) S | _ => .bad) | _ => .bad
theorem bi_max1 (hc : X.calm = true) : Bi X W (.builtin "max") bMax1 := by
  refine ⟨_, cr_max hc, fun ρ S H σ ds xs Q s r o => ?_⟩
  unfold bMax1 at o
  split at o
  · obtain ⟨v, rfl, r1⟩ := r.one
    split at o
    · rename_i x ns hn
      obtain ⟨es, h1, h2⟩ := Option.bind_eq_some_iff.mp hn
      obtain ⟨p, vs, rfl, q, v1⟩ := litems_ok s r1 h1
      rw [intsD_eq h2] at v1
      rw [v1.ints] at q
      refine ⟨p, x :: ns, rfl, q, Nat.zero_lt_succ _, fun m hm hm2 => ?_⟩
      have e : m = maxI x ns := by
        obtain ⟨g1, g2⟩ := maxI_ge ns x
        have g3 : maxI x ns ≤ m := hm2 _ (by
          rcases maxI_mem ns x with c | c
          · rw [c]; exact List.mem_cons_self ..
          · exact List.mem_cons_of_mem _ c)
        rcases List.mem_cons.mp hm with c | c
        · omega
        · have := g2 m c; omega
      rw [e]
      exact o ρ H _ (.refl _ _) s (VR_int.mpr rfl)
    · exact o.elim
  · exact o.elim
def bMin1 : List D → C D := fun ds S => match ds with | [d] => (match (d.litems S).bind intsD with | some (x :: r) => .ok (.int (minI x r)) S | _ => .bad) | _ => .bad
theorem bi_min1 (hc : X.calm = true) : Bi X W (.builtin "min") bMin1 := by
  refine ⟨_, cr_min hc, fun ρ S H σ ds xs Q s r o => ?_⟩
  unfold bMin1 at o
  split at o
  · obtain ⟨v, rfl, r1⟩ := r.one
    split at o
    · rename_i x ns hn
      obtain ⟨es, h1, h2⟩ := Option.bind_eq_some_iff.mp hn
      obtain ⟨p, vs, rfl, q, v1⟩ := litems_ok s r1 h1
      rw [intsD_eq h2] at v1
      rw [v1.ints] at q
      refine ⟨p, x :: ns, rfl, q, Nat.zero_lt_succ _, fun m hm hm2 => ?_⟩
      have e : m = minI x ns := by
        obtain ⟨g1, g2⟩ := minI_le ns x
        have g3 : m ≤ minI x ns := hm2 _ (by
          rcases minI_mem ns x with c | c
          · rw [c]; exact List.mem_cons_self ..
          · exact List.mem_cons_of_mem _ c)
        rcases List.mem_cons.mp hm with c | c
        · omega
        · have := g2 m c; omega
      rw [e]
      exact o ρ H _ (.refl _ _) s (VR_int.mpr rfl)
    · exact o.elim
  · exact o.elim
def blsD : List D → Option (List Bool)
  | [] => some []
  | .bl b :: r => (blsD r).map (b :: ·)
  | _ :: _ => none
theorem VRs.bls {K : PySem.W.Frag} {ρ : List Addr} {H : Hp} : ∀ {ds : List D} {bs : List Bool} {vs : List V}, blsD ds = some bs → VRs K ρ H ds vs → vs = bs.map V.bl
  | [], bs, vs, h, r => by cases h; rw [r.nil_l]; rfl
  | d :: ds, bs, vs, h, r => by
    obtain ⟨v, t, rfl, h1, h2⟩ := r.cons_l
    cases d <;> first | (cases h; done) | skip
    rename_i b
    unfold blsD at h
    obtain ⟨ms, e1, rfl⟩ := Option.map_eq_some_iff.mp h
    rw [VR_bl.mp h1, VRs.bls e1 h2]; rfl
def bAll : List D → C D := fun ds S => match ds with | [d] => (match (d.litems S).bind blsD with | some bs => .ok (.bl (bs.all id)) S | none => .bad) | _ => .bad
def bAny : List D → C D := fun ds S => match ds with | [d] => (match (d.litems S).bind blsD with | some bs => .ok (.bl (bs.any id)) S | none => .bad) | _ => .bad
theorem bi_all (hc : X.calm = true) : Bi X W (.builtin "all") bAll := by
  refine ⟨_, cr_all hc, fun ρ S H σ ds xs Q s r o => ?_⟩
  unfold bAll at o
  split at o
  · obtain ⟨v, rfl, r1⟩ := r.one
    split at o
    · rename_i bs hn
      obtain ⟨es, h1, h2⟩ := Option.bind_eq_some_iff.mp hn
      obtain ⟨p, vs, rfl, q, v1⟩ := litems_ok s r1 h1
      rw [v1.bls h2] at q
      exact ⟨p, bs, rfl, q, o ρ H _ (.refl _ _) s (VR_bl.mpr rfl)⟩
    · exact o.elim
  · exact o.elim
theorem bi_any (hc : X.calm = true) : Bi X W (.builtin "any") bAny := by
  refine ⟨_, cr_any hc, fun ρ S H σ ds xs Q s r o => ?_⟩
  unfold bAny at o
  split at o
  · obtain ⟨v, rfl, r1⟩ := r.one
    split at o
    · rename_i bs hn
      obtain ⟨es, h1, h2⟩ := Option.bind_eq_some_iff.mp hn
      obtain ⟨p, vs, rfl, q, v1⟩ := litems_ok s r1 h1
      rw [v1.bls h2] at q
      exact ⟨p, bs, rfl, q, o ρ H _ (.refl _ _) s (VR_bl.mpr rfl)⟩
    · exact o.elim
  · exact o.elim
def rSumT (K : PySem.W.Frag) : List V → Hp → VK → Prop := fun vs H Q => ∃ (a : Addr) (ns : List Int), vs = [V.ref a] ∧ SqT K H a (ns.map V.int) ∧ Q (.int ns.sum) H
theorem cr_sumT (hc : X.calm = true) : CallR X (.builtin "sum") (rSumT X.K) := by
  intro pins s σ H vs us Q I r h
  obtain ⟨a, ns, rfl, hs, q⟩ := h
  obtain ⟨its, rv, ht, _⟩ := I.tuple hs
  rw [Vals.ref1 r]
  have hi := rv.ints
  obtain ⟨zs, e⟩ := hi.allInts.items
  have hn : (zs.toList.map Prod.fst) = ns := by
    rw [← nums_intItems, ← e]; exact hi.numsOf
  rw [e] at ht
  refine PySem.W.ktm_sumG (I.ok.hd hc) ht fun h' tk t' hk => ?_
  have e2 : preSum (numAt zs) zs.size = ns.sum := by rw [preSum_eq, hn, List.take_of_length_le (by rw [← hn]; simp)]
  rw [e2]
  exact ⟨.int _, H, I.kept hk, ⟨_, rfl⟩, q⟩
def bSumA : List D → C D := fun ds S => match ds with | [d] => (match (d.items S).bind intsD with | some ns => .ok (.int ns.sum) S | none => .bad) | _ => .bad
theorem bi_sumA (hc : X.calm = true) : Bi X W (.builtin "sum") bSumA := by
  refine ⟨_, (cr_sum hc).or (cr_sumT hc), fun ρ S H σ ds xs Q s r o => ?_⟩
  unfold bSumA at o
  split at o
  · obtain ⟨v, rfl, r1⟩ := r.one
    split at o
    · rename_i ns hn
      obtain ⟨es, h1, h2⟩ := Option.bind_eq_some_iff.mp hn
      obtain ⟨p, vs, rfl, q, v1⟩ := items_ok s r1 h1
      rw [intsD_eq h2] at v1
      rw [v1.ints] at q
      rcases q with q | q
      · exact .inl ⟨p, ns, rfl, q, o ρ H _ (.refl _ _) s (VR_int.mpr rfl)⟩
      · exact .inr ⟨p, ns, rfl, q, o ρ H _ (.refl _ _) s (VR_int.mpr rfl)⟩
    · exact o.elim
  · exact o.elim
end
/-! ### tuples of texts of the module -/
/-- a module's tuple of texts -/
def ConT (K : PySem.W.Frag) (mg : Str → Option Value) (x : Str) (ys : List Str) : Prop :=
  ∃ (a : Addr) (o : Obj) (its : Array Value) (n : Nat), mg x = some (.ref a) ∧ K.lookup a = some o ∧ o.cls = .type "tuple" ∧ o.dict = none ∧ o.data = .seq its n ∧ its.size ≤ sizeLine ∧ Vals (ys.map V.str) its.toList
theorem ConT.at {K : PySem.W.Frag} {mg : Str → Option Value} {x : Str} {ys : List Str} (h : ConT K mg x ys) : ConAt K mg x (.tup (ys.map D.str)) := by
  obtain ⟨a, o, its, n, h1, h2, h3, h4, h5, h6, h7⟩ := h
  refine ⟨.ref a, _, h1, rfl, fun ρ H => VR_tup.mpr ⟨a, ys.map V.str, rfl, .inr ⟨o, its, n, h2, h3, h5, h6, h7⟩, ?_⟩⟩
  clear h7 h1
  induction ys with
  | nil => exact .nil
  | cons y ys ih => exact .cons (VR_str.mpr rfl) ih
theorem conT_mk {K : PySem.W.Frag} {mg : Str → Option Value} {x : Str} {ys : List Str} {a : Addr} {its : List Value} {n : Nat} {sl : Array (Option Value)} (h1 : mg x = some (.ref a)) (h2 : K.lookup a = some ⟨.type "tuple", none, .seq its.toArray n, sl⟩)
    (h3 : its.length ≤ 1000) (h4 : Vals (ys.map V.str) its) : ConT K mg x ys :=
  ⟨a, _, its.toArray, n, h1, h2, rfl, rfl, rfl, by rw [List.size_toArray, sizeLine_eq]; omega, h4⟩
section
variable {X : Cx} {W : WX} {e : Expr} {fe : ME} {x : Str} {ys : List Str} {p apos cpos : Pos}
def mCix (ys : List Str) : D → C D := fun d S => match d with | .str z => (match ys.findIdx? fun y => decide (y = z) with | some j => .ok (.int (j : Nat)) S | none => .bad) | _ => .bad
theorem de_cix (h : ConT X.K X.mg x ys) (hg : Gl X x) (ha : DE X W e fe) (hdb : (x == ("__debug__" : Str)) = false := by decide)
    (hbase : attributeBase (.Name x p) "index" X.env (eval (.Name x p) X.env) = eval (.Name x p) X.env := by rfl)
    (hfew : ((backTo cpos (starEach [e] X.env)).all (fun x => !x.1) && (backToKw cpos (keywordEach [] X.env)).all (fun x => x.1.isSome)
      && decide ([e].length + ([] : List Keyword).length + (if ([] : List Keyword).isEmpty then 0 else 1) < 30)) = true := by rfl)
    (hline : (apos.endLine == cpos.line) = true := by rfl) (hs : starEach [e] X.env = (false, eval e X.env) :: starEach [] X.env := by rfl) (hplain : (backTo cpos (starEach [] X.env)).any (·.1) = false := by rfl) :
    DE X W (.Call (.Attribute (.Name x p) "index" apos) [e] [] cpos) (e1 (mCix ys) fe) := by
  obtain ⟨a, o, its, n, h1, h2, h3, h4, h5, h6, h7⟩ := h
  refine PE.weak (pe_bm PySem.F.plainAttrs_tuple PySem.F.slot_tuple_index PySem.F.type_tuple_index mt_tup_index (pe_glob (v := .ref a) hg h1 rfl hdb) (pa_cons ha pa_nil hs) hbase hfew hline hs hplain) fun σ H Q h => ?_
  refine ⟨.inr (.inl ⟨rfl, o, h2, h3, h4⟩), ?_⟩
  refine tG_mono (tG_bind (f := fe) (g := fun d G S1 => mCix ys d S1) h) fun v H1 q => ?_
  obtain ⟨ρ, G, S, d, g, s, r1, o'⟩ := q
  unfold mCix at o'
  split at o'
  · rename_i z
    split at o'
    · rename_i j hj
      obtain ⟨hl, c1, c2⟩ := List.findIdx?_eq_some_iff_getElem.mp hj
      have r2 : v = .str z := VR_str.mp r1
      subst r2
      refine ⟨a, ys, z, j, rfl, rfl, .inr ⟨o, its, n, h2, h3, h5, h6, h7⟩, ?_, fun m hm z' => ?_, o' ρ H1 _ (.refl _ _) s (VR_int.mpr rfl)⟩
      · rw [List.getElem?_eq_getElem hl, of_decide_eq_true c1]
      · have hml : m < ys.length := by omega
        rw [List.getElem?_eq_getElem hml] at z'
        exact c2 m hm (decide_eq_true (Option.some.inj z'))
    · exact o'.elim
  · exact o'.elim
end
section
variable {Q : D → ST → Prop} {XX : XQ} {S : ST} {ys : List Str} {z : Str}
theorem r_cix : wpR (mCix ys (.str z) S) Q XX = (match ys.findIdx? fun y => decide (y = z) with | some j => Q (.int (j : Nat)) S | none => False) := by
  unfold mCix
  dsimp only
  split <;> simp_all [wpR]
theorem r_sumT {ns : List Int} : wpR (bSumA [.tup (ns.map D.int)] S) Q XX = Q (.int ns.sum) S := by
  unfold bSumA D.items
  simp only [Option.bind_some, intsD_map]
  rfl
theorem r_sumR {n : Nat} {ns : List Int} (h : S[n]? = some (.lst (ns.map D.int))) (q : Q (.int ns.sum) S) : wpR (bSumA [.ref n] S) Q XX := by
  unfold bSumA D.items
  simp only [h, Option.bind_some, intsD_map]
  exact q
theorem r_max1R {n : Nat} {x : Int} {ns : List Int} (h : S[n]? = some (.lst ((x :: ns).map D.int))) (q : Q (.int (maxI x ns)) S) : wpR (bMax1 [.ref n] S) Q XX := by
  unfold bMax1 D.litems
  simp only [h, Option.bind_some, intsD_map]
  exact q
end
/-! ### a, b, c = x, y, z -/
def sPar3 (i j l : Nat) (f : MA) : MS := fun G S => (f G S).s G fun ds S1 => match ds with | [d, e, g] => .nx (((G.set i (some d)).set j (some e)).set l (some g)) S1 | _ => .bad
section
variable {X : Cx} {W : WX}
theorem ds_par3 {i j l : Nat} {x y z : Str} {a b c : Expr} {ga : MA} {px py pz pt pos : Pos} {kt k2 pt2} (hc : X.calm = true) (hN : X.N.Nodup) (hi : X.N[i]? = some x) (hj : X.N[j]? = some y) (hl : X.N[l]? = some z) (hij : i ≠ j) (hil : i ≠ l) (hjl : j ≠ l)
    (hx : X.env.scope.names.lookup x = some .local) (hy : X.env.scope.names.lookup y = some .local) (hz : X.env.scope.names.lookup z = some .local) (ha : DA X W [a, b, c] ga)
    (hw : swappedStores [.Tuple [.Name x px, .Name y py, .Name z pz] kt pt] (.Tuple [a, b, c] k2 pt2) X.env = pure (some [x, y, z]) := by rfl)
    (hs : swapsWithSole [.Tuple [.Name x px, .Name y py, .Name z pz] kt pt] (.Tuple [a, b, c] k2 pt2) pos.line X.env = pure false := by rfl) :
    DS X W (.Assign [.Tuple [.Name x px, .Name y py, .Name z pz] kt pt] (.Tuple [a, b, c] k2 pt2) pos) (sPar3 i j l ga) := PS.weak (ps_par3 hc hN hi hj hl hij hil hjl hx hy hz ha hw hs) fun D σ H h => by
  refine tG_mono (tS_bind (f := ga) (k := fun ds G S1 => match ds with | [d, e, g] => .nx (((G.set i (some d)).set j (some e)).set l (some g)) S1 | _ => .bad) (rel := rVs X) h) fun v H1 q => ?_
  obtain ⟨ρ, G, S, d, g, s, r, o⟩ := q
  split at o
  · obtain ⟨u, t, rfl, r1, r2⟩ := VRs.cons_l r
    obtain ⟨v, w, rfl, r3, r4⟩ := VRs.two r2
    exact ⟨u, v, w, rfl, outS_nx (((g.set i r1).set j r3).set l r4) s o⟩
  · exact o.elim
end
section
variable {G : GE} {S : ST} {K : Kt}
def kPar3 (i j l : Nat) (K : Kt) (G : GE) : List D → ST → Prop := fun ds S => match ds with | [d, e, g] => K.nx (((G.set i (some d)).set j (some e)).set l (some g)) S | _ => False
theorem wp_sPar3 {i j l : Nat} {f : MA} : wpS (sPar3 i j l f) G S K = wpE f G S (kPar3 i j l K G) (kx K G) := by
  unfold wpS sPar3; rw [run_s]
  unfold wpE kPar3
  congr 1
  funext ds S
  split
  · rfl
  · rename_i h
    first
    | rfl
    | (split
       · exact (h _ _ _ rfl).elim
       · rfl)
theorem kPar3_eq {i j l : Nat} {d e g : D} : kPar3 i j l K G [d, e, g] S = K.nx (((G.set i (some d)).set j (some e)).set l (some g)) S := rfl
end
/-! ### range(i, j, c) -/
def rgcB (i j c : Int) : Bool := decide (c ≠ 0) && (decide (c.natAbs < 1073741824) && Builtin.Range.small i j c)
def iRgC (f : MA) : MI := fun G S => (f G S).bind fun ds S1 => match ds with | [.int i, .int j, .int c] => if rgcB i j c = true then .ok ⟨rngD i c (Builtin.Range.rangeSize i j c).toNat, none⟩ S1 else .bad | _ => .bad
theorem rsize_nn (i j c : Int) (h : c ≠ 0) : 0 ≤ Builtin.Range.rangeSize i j c := by
  unfold Builtin.Range.rangeSize
  split
  · split
    · have := Int.ediv_nonneg (a := j - i - 1) (b := c) (by omega) (by omega)
      omega
    · omega
  · split
    · have := Int.ediv_nonneg (a := i - j - 1) (b := -c) (by omega) (by omega)
      omega
    · omega
section
variable {X : Cx} {W : WX} {tg a b c : Expr} {ga : MA} {p pos : Pos}
theorem di_rangeC (hg : Gl X "range") (hm : X.mg "range" = none) (ha : DA X W [a, b, c] ga) (hs : starEach [a, b, c] X.env = (false, eval a X.env) :: starEach [b, c] X.env := by rfl) (hpl : (backTo pos (starEach [b, c] X.env)).any (·.1) = false := by rfl) :
    DI X W tg (.Call (.Name "range" p) [a, b, c] [] pos) (iRgC ga) := by
  refine PI.weak (pi_range3 hg hm ha hs hpl) fun σ H Rk h => ?_
  refine tG_mono (tG_bind (f := ga) (g := fun ds G S1 => match ds with | [.int i, .int j, .int c] => if rgcB i j c = true then R.ok (Src.mk (rngD i c (Builtin.Range.rangeSize i j c).toNat) none) S1 else .bad | _ => .bad) h) fun x H1 q => ?_
  obtain ⟨ρ, G, S, ds, g, s, r, o⟩ := q
  split at o
  · rename_i i j cc
    split at o
    · rename_i k
      obtain ⟨u, r', rfl, r1, r2⟩ := VRs.cons_l r
      obtain ⟨v, w, rfl, r2, r3⟩ := VRs.two r2
      rw [VR_int] at r1 r2 r3; subst r1 r2 r3
      simp only [rgcB, Bool.and_eq_true, decide_eq_true_eq] at k
      obtain ⟨k1, k2, k3⟩ := k
      have := rsize_nn i j cc k1
      exact ⟨i, j, cc, (Builtin.Range.rangeSize i j cc).toNat, rfl, ⟨k1, k2, k3, by omega⟩, o ρ H1 _ (.refl _ _) s (src_rng walk_rangeC)⟩
    · exact o.elim
  · exact o.elim
end
section
variable {G : GE} {S : ST} {XX : XQ}
def kRgC (Q : Src → ST → Prop) : List D → ST → Prop := fun ds S => match ds with | [.int i, .int j, .int c] => rgcB i j c = true ∧ Q ⟨rngD i c (Builtin.Range.rangeSize i j c).toNat, none⟩ S | _ => False
theorem wp_iRgC {f : MA} {Q : Src → ST → Prop} : wpE (iRgC f) G S Q XX = wpE f G S (kRgC Q) XX := by
  unfold wpE iRgC
  rw [wp_bind]
  congr 1
  funext ds S
  unfold kRgC
  split
  · rw [wp_ite]; rfl
  · rename_i h
    first
    | rfl
    | (split
       · exact (h _ _ _ rfl).elim
       · rfl)
theorem kRgC_eq {Q : Src → ST → Prop} {i j c : Int} : kRgC Q [.int i, .int j, .int c] S = (rgcB i j c = true ∧ Q ⟨rngD i c (Builtin.Range.rangeSize i j c).toNat, none⟩ S) := rfl
end
end Mir

namespace Mir
open PySem L2 PyProof.Rows
/-! ### steps of a layout -/
structure Stp {τ : Type} (S S' : ST) (A A' : τ → Nat) (c c' : τ → Option O) : Prop where
  le : S.length ≤ S'.length
  fr : ∀ i, i < S.length → (∀ t o, c t = some o → A t ≠ i) → S'[i]? = S[i]?
  own : ∀ t o, c' t = some o → ((∃ o', c t = some o') ∧ A' t = A t) ∨ S.length ≤ A' t
/-- a place of the store that is none of the layout's -/
def Out {τ : Type} (S : ST) (A : τ → Nat) (c : τ → Option O) (i : Nat) : Prop := i < S.length ∧ ∀ t o, c t = some o → A t ≠ i
section
variable {τ : Type} {S S1 S2 : ST} {A A1 A2 : τ → Nat} {c c1 c2 : τ → Option O}
theorem Stp.refl (S : ST) (A : τ → Nat) (c : τ → Option O) : Stp S S A A c c := ⟨Nat.le_refl _, fun _ _ _ => rfl, fun t o h => .inl ⟨⟨o, h⟩, rfl⟩⟩
theorem Stp.out (h : Stp S S1 A A1 c c1) {i : Nat} (o : Out S A c i) : Out S1 A1 c1 i := ⟨Nat.lt_of_lt_of_le o.1 h.le, fun t x e z => by
  rcases h.own t x e with ⟨⟨y, ey⟩, ea⟩ | l
  · exact o.2 t y ey (by rw [← ea]; exact z)
  · have := o.1; omega⟩
theorem Stp.keep (h : Stp S S1 A A1 c c1) {i : Nat} (o : Out S A c i) : S1[i]? = S[i]? := h.fr i o.1 o.2
theorem Stp.trans (h : Stp S S1 A A1 c c1) (k : Stp S1 S2 A1 A2 c1 c2) : Stp S S2 A A2 c c2 := by
  refine ⟨Nat.le_trans h.le k.le, fun i hi ho => ?_, fun t o e => ?_⟩
  · have o : Out S A c i := ⟨hi, ho⟩
    rw [k.keep (h.out o), h.keep o]
  · rcases k.own t o e with ⟨⟨y, ey⟩, ea⟩ | l
    · rcases h.own t y ey with ⟨z, ez⟩ | l2
      · exact .inl ⟨z, ea.trans ez⟩
      · exact .inr (by rw [ea]; exact l2)
    · exact .inr (Nat.le_trans h.le l)
theorem Stp.ex (e : Ex S S1) (A : τ → Nat) (c : τ → Option O) : Stp S S1 A A c c := by
  obtain ⟨T, rfl⟩ := e
  exact ⟨by simp, fun i hi _ => List.getElem?_append_left hi, fun t o h => .inl ⟨⟨o, h⟩, rfl⟩⟩
theorem Lay.set1 (L : Lay [] S A c) {t : τ} {o o0 : O} {c' : τ → Option O} (h : c t = some o0) (h' : c' t = some o) (hc : ∀ u, u ≠ t → c' u = c u) : Lay [] (S.set (A t) o) A c' ∧ Stp S (S.set (A t) o) A A c c' := by
  refine ⟨L.set h h' hc, by simp, fun i hi ho => set_get' (ho t o0 h), fun u x e => .inl ⟨?_, rfl⟩⟩
  by_cases z : u = t
  · subst z; exact ⟨o0, h⟩
  · rw [hc u z] at e; exact ⟨x, e⟩
theorem Lay.eqs (h : Lay [] S1 A c1 ∧ Stp S S1 A A c c1) (e : ∀ t, c2 t = c1 t) : Lay [] S1 A c2 ∧ Stp S S1 A A c c2 := by
  have : c2 = c1 := funext e
  rw [this]; exact h
theorem Lay.thenSet (h : Lay [] S1 A c1 ∧ Stp S S1 A A c c1) {t : τ} {o o0 : O} {c' : τ → Option O} (h0 : c1 t = some o0) (h' : c' t = some o) (hc : ∀ u, u ≠ t → c' u = c1 u) : Lay [] (S1.set (A t) o) A c' ∧ Stp S (S1.set (A t) o) A A c c' := by
  have := h.1.set1 h0 h' hc
  exact ⟨this.1, h.2.trans this.2⟩
theorem Lay.thenEx (h : Lay [] S1 A c1 ∧ Stp S S1 A A c c1) (e : Ex S1 S2) : Lay [] S2 A c1 ∧ Stp S S2 A A c c1 := ⟨e.lay h.1, h.2.trans (.ex e _ _)⟩
theorem Lay.frm1 (L : Lay [] S A c) {t : τ} {o o0 : O} {c' : τ → Option O} (h : c t = some o0) (h' : c' t = some o) (hc : ∀ u, u ≠ t → c' u = c u) (f : Frm [A t] S S1) (g : S1[A t]? = some o) : Lay [] S1 A c' ∧ Stp S S1 A A c c' := by
  have hs : ∀ u x, c' u = some x → ∃ y, c u = some y := fun u x e => by
    by_cases z : u = t
    · subst z; exact ⟨o0, h⟩
    · rw [hc u z] at e; exact ⟨x, e⟩
  refine ⟨⟨fun u x e => ?_, fun u v x y e1 e2 e3 => ?_, fun _ _ _ => List.not_mem_nil⟩, f.le, fun i hi ho => f.eq i (fun z => ho t o0 h (List.mem_singleton.mp z).symm) hi, fun u x e => .inl ⟨hs u x e, rfl⟩⟩
  · by_cases z : u = t
    · subst z; rw [h'] at e; cases e; exact g
    · rw [hc u z] at e
      exact f.get (fun q => L.ne e h z (List.mem_singleton.mp q)) (L.get e)
  · obtain ⟨x', e1⟩ := hs u x e1
    obtain ⟨y', e2⟩ := hs v y e2
    exact L.inj u v x' y' e1 e2 e3
/-- the object at d is changed and some tags have new places -/
theorem Lay.fresh (L : Lay [] S A c) {d : τ} {od od0 : O} {A' : τ → Nat} {c' : τ → Option O} (N : τ → Prop) (hd : c d = some od0) (hd' : c' d = some od) (hdN : ¬ N d) (hA : ∀ t, ¬ N t → A' t = A t)
    (hc : ∀ t, ¬ N t → t ≠ d → c' t = c t) (f : Frm [A d] S S1) (gd : S1[A d]? = some od) (hnew : ∀ t o, N t → c' t = some o → S.length ≤ A' t ∧ S1[A' t]? = some o)
    (hni : ∀ t u o o', N t → N u → c' t = some o → c' u = some o' → A' t = A' u → t = u) : Lay [] S1 A' c' ∧ Stp S S1 A A' c c' := by
  refine ⟨L.renew N (fun i h => absurd h List.not_mem_nil) ?_ hnew hni, f.le, fun i hi ho => f.eq i (fun z => ho d od0 hd (List.mem_singleton.mp z).symm) hi, fun t o e => ?_⟩
  · intro t o hN e
    refine ⟨hA t hN, ?_, ?_⟩
    · by_cases z : t = d
      · subst z
        rw [hd'] at e; cases e
        exact gd
      · rw [hc t hN z] at e
        exact f.get (fun q => L.ne e hd z (List.mem_singleton.mp q)) (L.get e)
    · by_cases z : t = d
      · subst z; exact ⟨od0, hd⟩
      · rw [hc t hN z] at e; exact ⟨o, e⟩
  · by_cases z : N t
    · exact .inr (hnew t o z e).1
    · refine .inl ⟨?_, hA t z⟩
      by_cases y : t = d
      · subst y; exact ⟨od0, hd⟩
      · rw [hc t z y] at e; exact ⟨o, e⟩
theorem Lay.thenFrm (h : Lay [] S1 A1 c1 ∧ Stp S S1 A A1 c c1) {t : τ} {o o0 : O} {c' : τ → Option O} (h0 : c1 t = some o0) (h' : c' t = some o) (hc : ∀ u, u ≠ t → c' u = c1 u) (f : Frm [A1 t] S1 S2) (g : S2[A1 t]? = some o) : Lay [] S2 A1 c' ∧ Stp S S2 A A1 c c' := by
  have := h.1.frm1 h0 h' hc f g
  exact ⟨this.1, h.2.trans this.2⟩
end
theorem mem_two {c d e : Str} : (c ∈ [d, e]) = (c = d ∨ c = e) := by simp
theorem mem_three {c d e f : Str} : (c ∈ [d, e, f]) = (c = d ∨ c = e ∨ c = f) := by simp
/-- a word that the elaborator does not look into -/
@[irreducible] def Hold (P : Prop) : Prop := P
theorem hold_eq {P : Prop} : Hold P = P := by unfold Hold; rfl
theorem atI_4 {α : Type} {x0 x1 x2 x3 x4 : α} {xs : List α} : atI (x0 :: x1 :: x2 :: x3 :: x4 :: xs) 4 = some x4 := by
  rw [atI_pos (by omega) (by simp only [List.length_cons]; omega)]; rfl
theorem atI_5 {α : Type} {x0 x1 x2 x3 x4 x5 : α} {xs : List α} : atI (x0 :: x1 :: x2 :: x3 :: x4 :: x5 :: xs) 5 = some x5 := by
  rw [atI_pos (by omega) (by simp only [List.length_cons]; omega)]; rfl
theorem atI_6 {α : Type} {x0 x1 x2 x3 x4 x5 x6 : α} {xs : List α} : atI (x0 :: x1 :: x2 :: x3 :: x4 :: x5 :: x6 :: xs) 6 = some x6 := by
  rw [atI_pos (by omega) (by simp only [List.length_cons]; omega)]; rfl
theorem atI_7 {α : Type} {x0 x1 x2 x3 x4 x5 x6 x7 : α} {xs : List α} : atI (x0 :: x1 :: x2 :: x3 :: x4 :: x5 :: x6 :: x7 :: xs) 7 = some x7 := by
  rw [atI_pos (by omega) (by simp only [List.length_cons]; omega)]; rfl
end Mir

namespace Mir
open PySem L2 PyProof.Rows
/-! ### tuple * int -/
def mMulT : D → D → C D := fun a b S => match a, b with
  | .tup ds, .int k => if ds ≠ [] ∧ 2 ≤ k ∧ k ≤ 1000 ∧ ds.length ≤ 1000 then .ok (.tup (List.replicate k.toNat ds).flatten) S else .bad
  | _, _ => .bad
section
variable {X : Cx} {W : WX}
theorem op2_mulT : Op2 X W (binaryOp .Mult) mMulT := by
  refine ⟨_, op_repT, fun ρ S H σ d e x y Q s r1 r2 o => ?_⟩
  unfold mMulT at o
  split at o
  · split at o
    · rename_i ds k c
      obtain ⟨a, vs, e1, q1, v1⟩ := VR_tup.mp r1
      refine ⟨a, k, vs, e1, VR_int.mp r2, q1, fun z => c.1 ?_, c.2.1, c.2.2.1, by rw [← v1.length]; exact c.2.2.2, new_tup s o (v1.rep _)⟩
      have := v1.length
      rw [z] at this
      exact List.length_eq_zero_iff.mp (by simpa using this)
    · exact o.elim
  · exact o.elim
end
section
variable {S : ST} {Q : D → ST → Prop} {X : XQ}
theorem r_mulT {ds : List D} {k : Int} : wpR (mMulT (.tup ds) (.int k) S) Q X = ((ds ≠ [] ∧ 2 ≤ k ∧ k ≤ 1000 ∧ ds.length ≤ 1000) ∧ Q (.tup (List.replicate k.toNat ds).flatten) S) := by
  unfold mMulT
  exact wp_ite
end
end Mir

namespace Pf
open PySem L2 PyProof.Rows Mir
def top (i : Nat) : Stmt := PySem.Challenge.pw_nowhisper_k77_callers_and_listeners.main.body.getD i (.Pass ⟨0, 0, 0, 0⟩)
def cD_FIRST : D := .int 3
def cD_LOADED : D := .int 2
def cD_PAGE : D := .int 16
def cD_SECOND : D := .int 4
/-! ### the mirror -/
@[irreducible] noncomputable def b__law_next : MS :=
 (sSeq (sPutAug mIAdd (eV 0) (eC (.str "at")) (eC (.int 1)))
 (sSeq (sIf (tb (e2 mGt (e2 mIx (eV 0) (eC (.str "at"))) (eCall bLen (aCons (e2 mIx (eV 0) (eC (.str "draws"))) aNil))))
 (sRet (eC (.int 0)))
 sNil)
 (sRet (e2 mMod (eCall bInt (aCons (e2 mIx (e2 mIx (eV 0) (eC (.str "draws"))) (e2 mSub (e2 mIx (eV 0) (eC (.str "at"))) (eC (.int 1)))) aNil)) (eV 1)))))
@[irreducible] noncomputable def m__law_next : Fn := mkFn 2 0 b__law_next
theorem mLen__law_next : ∀ ds S, ds.length ≠ 2 → m__law_next ds S = .bad := fun ds S h => by unfold m__law_next; exact mkFn_len ds S h
@[irreducible] noncomputable def b__law_number : MS :=
 (sSeq (sSet 1 (eLst (aCons (eC (.str "end")) (aCons (eC (.str "set")) (aCons (eC (.str "high")) (aCons (eC (.str "op")) (aCons (eC (.str "load")) (aCons (eC (.str "store")) (aCons (eC (.str "go")) (aCons (eC (.str "unless")) (aCons (eC (.str "call")) (aCons (eC (.str "back")) (aCons (eC (.str "send")) (aCons (eC (.str "ask")) (aCons (eC (.str "take")) (aCons (eC (.str "time")) (aCons (eC (.str "rest")) aNil)))))))))))))))))
 (sRet (eBm "list" bIndex (eV 1) (aCons (eV 0) aNil))))
@[irreducible] noncomputable def m__law_number : Fn := mkFn 1 1 b__law_number
theorem mLen__law_number : ∀ ds S, ds.length ≠ 1 → m__law_number ds S = .bad := fun ds S h => by unfold m__law_number; exact mkFn_len ds S h
@[irreducible] noncomputable def b__law_signs : MS :=
 (sRet (eTup (aCons (eC (.str "+")) (aCons (eC (.str "-")) (aCons (eC (.str "*")) (aCons (eC (.str "/")) (aCons (eC (.str "@")) (aCons (eC (.str "&")) (aCons (eC (.str "|")) (aCons (eC (.str "^")) (aCons (eC (.str "==")) (aCons (eC (.str "<")) (aCons (eC (.str "<<")) (aCons (eC (.str ">>")) aNil))))))))))))))
@[irreducible] noncomputable def m__law_signs : Fn := mkFn 0 0 b__law_signs
theorem mLen__law_signs : ∀ ds S, ds.length ≠ 0 → m__law_signs ds S = .bad := fun ds S h => by unfold m__law_signs; exact mkFn_len ds S h
@[irreducible] noncomputable def b__law_code_word : MS :=
 (sSeq (sSet 1 (e2 mIx (eV 0) (eC (.int 0))))
 (sSeq (sSet 2 (e2 mMul (eFn 1 m__law_number (aCons (eV 1) aNil)) (eC (.int 134217728))))
 (sSeq (sIf (tb (e2 mEq (eV 1) (eC (.str "end"))))
 (sRet (e2 mAdd (eV 2) (eCall bInt (aCons (e2 mEq (e2 mIx (eV 0) (eC (.int 1))) (eC (.str "bound"))) aNil))))
 sNil)
 (sSeq (sIf (tb (e2 mEq (eV 1) (eC (.str "op"))))
 (sSeq (sSet 3 (eBm "list" bIndex (eCall bList (aCons (eFn 0 m__law_signs aNil) aNil)) (aCons (e2 mIx (eV 0) (eC (.int 1))) aNil)))
 (sRet (e2 mAdd (e2 mAdd (e2 mAdd (e2 mAdd (eV 2) (e2 mMul (e2 mIx (eV 0) (eC (.int 2))) (eC (.int 16777216)))) (e2 mMul (e2 mIx (eV 0) (eC (.int 3))) (eC (.int 2097152)))) (e2 mMul (eV 3) (eC (.int 131072)))) (e2 mIx (eV 0) (eC (.int 4))))))
 sNil)
 (sSeq (sIf (tb (e2 mIn (eV 1) (eTup (aCons (eC (.str "load")) (aCons (eC (.str "store")) aNil)))))
 (sRet (e2 mAdd (e2 mAdd (e2 mAdd (eV 2) (e2 mMul (e2 mIx (eV 0) (eC (.int 1))) (eC (.int 16777216)))) (e2 mMul (e2 mIx (eV 0) (eC (.int 2))) (eC (.int 2097152)))) (e2 mIx (eV 0) (eC (.int 3)))))
 sNil)
 (sSeq (sIf (tb (e2 mEq (eV 1) (eC (.str "send"))))
 (sRet (e2 mAdd (e2 mAdd (eV 2) (e2 mMul (e2 mIx (eV 0) (eC (.int 2))) (eC (.int 16777216)))) (e2 mIx (eV 0) (eC (.int 1)))))
 sNil)
 (sSeq (sIf (tb (e2 mIn (eV 1) (eTup (aCons (eC (.str "set")) (aCons (eC (.str "high")) (aCons (eC (.str "unless")) (aCons (eC (.str "call")) (aCons (eC (.str "ask")) (aCons (eC (.str "take")) aNil)))))))))
 (sRet (e2 mAdd (e2 mAdd (eV 2) (e2 mMul (e2 mIx (eV 0) (eC (.int 1))) (eC (.int 16777216)))) (e2 mIx (eV 0) (eC (.int 2)))))
 sNil)
 (sSeq (sIf (tb (e2 mIn (eV 1) (eTup (aCons (eC (.str "back")) (aCons (eC (.str "time")) aNil)))))
 (sRet (e2 mAdd (eV 2) (e2 mMul (e2 mIx (eV 0) (eC (.int 1))) (eC (.int 16777216)))))
 sNil)
 (sRet (eIf (tb (e2 mEq (eV 1) (eC (.str "go")))) (e2 mAdd (eV 2) (e2 mIx (eV 0) (eC (.int 1)))) (eV 2)))))))))))
@[irreducible] noncomputable def m__law_code_word : Fn := mkFn 1 3 b__law_code_word
theorem mLen__law_code_word : ∀ ds S, ds.length ≠ 1 → m__law_code_word ds S = .bad := fun ds S h => by unfold m__law_code_word; exact mkFn_len ds S h
@[irreducible] noncomputable def b__law_machine : MS :=
 (sSeq (sSetT (.tp [2, 3, 4]) (eV 0))
 (sSeq (sSet 5 (e2 mMul (e2 mFDiv (e2 mAdd (eCall bLen (aCons (eV 2) aNil)) (eC (.int 15))) (eC (.int 16))) (eC (.int 16))))
 (sSeq (sSet 6 (e2 mAdd (e2 mAdd (eLc (iSeq (eV 2)) (.nm 7) tYesM (eFn 1 m__law_code_word (aCons (eV 7) aNil)) [7]) (e2 mMul (eLst (aCons (eC (.int 0)) aNil)) (e2 mSub (eV 5) (eCall bLen (aCons (eV 2) aNil))))) (eCall bList (aCons (eV 4) aNil))))
 (sSeq (sSet 6 (e2 mAdd (eV 6) (e2 mMul (eLst (aCons (eC (.int 0)) aNil)) (e2 mSub (e2 mMul (e2 mFDiv (e2 mAdd (eCall bLen (aCons (eV 6) aNil)) (eC (.int 15))) (eC (.int 16))) (eC (.int 16))) (eCall bLen (aCons (eV 6) aNil))))))
 (sRet (eDict [((eC (.str "code")), (eV 2)), ((eC (.str "memory")), (eV 6)), ((eC (.str "base")), (eV 5)), ((eC (.str "regs")), (e2 mMul (eLst (aCons (eC (.int 0)) aNil)) (eC (.int 8)))), ((eC (.str "at")), (eC (.int 0))), ((eC (.str "answers")), (eV 1)), ((eC (.str "given")), (eC (.int 0))), ((eC (.str "deeds")), (eLst aNil)), ((eC (.str "word")), (eC (.str ""))), ((eC (.str "done")), (eC (.int 0))), ((eC (.str "met")), (eLst aNil))]))))))
@[irreducible] noncomputable def m__law_machine : Fn := mkFn 2 6 b__law_machine
theorem mLen__law_machine : ∀ ds S, ds.length ≠ 2 → m__law_machine ds S = .bad := fun ds S h => by unfold m__law_machine; exact mkFn_len ds S h
@[irreducible] noncomputable def b__law_operate : MS :=
 (sSeq (sIf (tb (e2 mEq (eV 0) (eC (.str "+"))))
 (sRet (e2 mMod (eCall bInt (aCons (e2 mAdd (eV 1) (eV 2)) aNil)) (eC (.int 4294967296))))
 sNil)
 (sSeq (sIf (tb (e2 mEq (eV 0) (eC (.str "-"))))
 (sRet (e2 mMod (eCall bInt (aCons (e2 mSub (eV 1) (eV 2)) aNil)) (eC (.int 4294967296))))
 sNil)
 (sSeq (sIf (tb (e2 mEq (eV 0) (eC (.str "*"))))
 (sRet (e2 mMod (eCall bInt (aCons (e2 mMul (eV 1) (eV 2)) aNil)) (eC (.int 4294967296))))
 sNil)
 (sSeq (sIf (tb (e2 mEq (eV 0) (eC (.str "/"))))
 (sRet (eIf (tb (e2 mEq (eV 2) (eC (.int 0)))) (eC (.int 0)) (e2 mFDiv (eV 1) (eV 2))))
 sNil)
 (sSeq (sIf (tb (e2 mEq (eV 0) (eC (.str "&"))))
 (sRet (e2 mAnd (eV 1) (eV 2)))
 sNil)
 (sSeq (sIf (tb (e2 mEq (eV 0) (eC (.str "|"))))
 (sRet (e2 mOr (eV 1) (eV 2)))
 sNil)
 (sSeq (sIf (tb (e2 mEq (eV 0) (eC (.str "^"))))
 (sRet (e2 mXor (eV 1) (eV 2)))
 sNil)
 (sSeq (sIf (tb (e2 mEq (eV 0) (eC (.str "=="))))
 (sRet (eCall bInt (aCons (e2 mEq (eV 1) (eV 2)) aNil)))
 sNil)
 (sSeq (sIf (tb (e2 mEq (eV 0) (eC (.str "<"))))
 (sRet (eCall bInt (aCons (e2 mLt (eV 1) (eV 2)) aNil)))
 sNil)
 (sSeq (sIf (tb (e2 mEq (eV 0) (eC (.str "<<"))))
 (sRet (eIf (tb (e2 mGt (eV 2) (eC (.int 31)))) (eC (.int 0)) (e2 mMod (eCall bInt (aCons (e2 mShl (eV 1) (eV 2)) aNil)) (eC (.int 4294967296)))))
 sNil)
 (sSeq (sIf (tb (e2 mEq (eV 0) (eC (.str ">>"))))
 (sRet (eIf (tb (e2 mGt (eV 2) (eC (.int 31)))) (eC (.int 0)) (e2 mShr (eV 1) (eV 2))))
 sNil)
 (sRet (eIf (tb (e2 mEq (eV 2) (eC (.int 0)))) (eV 1) (e2 mMod (eCall bInt (aCons (eV 1) aNil)) (eV 2)))))))))))))))
@[irreducible] noncomputable def m__law_operate : Fn := mkFn 3 0 b__law_operate
theorem mLen__law_operate : ∀ ds S, ds.length ≠ 3 → m__law_operate ds S = .bad := fun ds S h => by unfold m__law_operate; exact mkFn_len ds S h
@[irreducible] noncomputable def b__law_met : MS :=
 (sSeq (sPar 2 3 (aCons (e2 mIx (eV 0) (eC (.str "regs"))) (aCons (e2 mIx (eV 0) (eC (.str "memory"))) aNil)))
 (sSeq (sSet 4 (e2 mMod (eCall bInt (aCons (e2 mAdd (e2 mIx (eV 2) (e2 mIx (eV 1) (eC (.int 2)))) (e2 mIx (eV 1) (eC (.int 3)))) aNil)) (eC (.int 4294967296))))
 (sSeq (sExpr (eBm "list" bAppend (e2 mIx (eV 0) (eC (.str "met"))) (aCons (eTup (aCons (e2 mSub (e2 mIx (eV 0) (eC (.str "at"))) (eC (.int 1))) (aCons (eV 4) aNil))) aNil)))
 (sIf (Mir.tOr (tb (e2 mGe (eV 4) (eCall bLen (aCons (eV 3) aNil)))) (Mir.tAnd (tb (e2 mEq (e2 mIx (eV 1) (eC (.int 0))) (eC (.str "store")))) (tb (e2 mLt (eV 4) (e2 mIx (eV 0) (eC (.str "base")))))))
 (sPut (eV 0) (eC (.str "word")) (eC (.str "fault")))
 (sIf (tb (e2 mEq (e2 mIx (eV 1) (eC (.int 0))) (eC (.str "load"))))
 (sPut (eV 2) (e2 mIx (eV 1) (eC (.int 1))) (e2 mIx (eV 3) (eV 4)))
 (sPut (eV 3) (eV 4) (e2 mIx (eV 2) (e2 mIx (eV 1) (eC (.int 1))))))))))
@[irreducible] noncomputable def m__law_met : Fn := mkFn 2 3 b__law_met
theorem mLen__law_met : ∀ ds S, ds.length ≠ 2 → m__law_met ds S = .bad := fun ds S h => by unfold m__law_met; exact mkFn_len ds S h
@[irreducible] noncomputable def b__law_told : MS :=
 (sSeq (sSet 2 (e2 mIx (eV 0) (eC (.str "regs"))))
 (sIf (tb (e2 mEq (e2 mIx (eV 1) (eC (.int 0))) (eC (.str "send"))))
 (sExpr (eBm "list" bAppend (e2 mIx (eV 0) (eC (.str "deeds"))) (aCons (eTup (aCons (eC (.str "send")) (aCons (e2 mIx (eV 1) (eC (.int 1))) (aCons (e2 mIx (eV 2) (e2 mIx (eV 1) (eC (.int 2)))) aNil)))) aNil)))
 (sIf (tb (e2 mEq (e2 mIx (eV 1) (eC (.int 0))) (eC (.str "rest"))))
 (sExpr (eBm "list" bAppend (e2 mIx (eV 0) (eC (.str "deeds"))) (aCons (eTup (aCons (eC (.str "rest")) aNil)) aNil)))
 (sIf (tb (e2 mEq (e2 mIx (eV 0) (eC (.str "given"))) (eCall bLen (aCons (e2 mIx (eV 0) (eC (.str "answers"))) aNil))))
 (sPut (eV 0) (eC (.str "word")) (eC (.str "open")))
 (sSeq (sSet 3 (e2 mIx (e2 mIx (eV 0) (eC (.str "answers"))) (e2 mIx (eV 0) (eC (.str "given")))))
 (sSeq (sPutAug mIAdd (eV 0) (eC (.str "given")) (eC (.int 1)))
 (sSeq (sPut (eV 2) (e2 mIx (eV 1) (eC (.int 1))) (eV 3))
 (sExpr (eBm "list" bAppend (e2 mIx (eV 0) (eC (.str "deeds"))) (aCons (eIf (tb (e2 mEq (e2 mIx (eV 1) (eC (.int 0))) (eC (.str "time")))) (eTup (aCons (eC (.str "time")) (aCons (eV 3) aNil))) (eTup (aCons (e2 mIx (eV 1) (eC (.int 0))) (aCons (e2 mIx (eV 1) (eC (.int 2))) (aCons (eV 3) aNil))))) aNil))))))))))
@[irreducible] noncomputable def m__law_told : Fn := mkFn 2 2 b__law_told
theorem mLen__law_told : ∀ ds S, ds.length ≠ 2 → m__law_told ds S = .bad := fun ds S h => by unfold m__law_told; exact mkFn_len ds S h
@[irreducible] noncomputable def b__law_instruction : MS :=
 (sSeq (sPar 2 3 (aCons (e2 mIx (eV 1) (eC (.int 0))) (aCons (e2 mIx (eV 0) (eC (.str "regs"))) aNil)))
 (sSeq (sPutAug mIAdd (eV 0) (eC (.str "at")) (eC (.int 1)))
 (sSeq (sIf (tb (e2 mEq (eV 2) (eC (.str "set"))))
 (sPut (eV 3) (e2 mIx (eV 1) (eC (.int 1))) (e2 mIx (eV 1) (eC (.int 2))))
 (sIf (tb (e2 mEq (eV 2) (eC (.str "high"))))
 (sPut (eV 3) (e2 mIx (eV 1) (eC (.int 1))) (e2 mAdd (e2 mMul (e2 mIx (eV 1) (eC (.int 2))) (eC (.int 65536))) (e2 mMod (eCall bInt (aCons (e2 mIx (eV 3) (e2 mIx (eV 1) (eC (.int 1)))) aNil)) (eC (.int 65536)))))
 (sIf (tb (e2 mEq (eV 2) (eC (.str "op"))))
 (sPut (eV 3) (e2 mIx (eV 1) (eC (.int 2))) (eFn 3 m__law_operate (aCons (e2 mIx (eV 1) (eC (.int 1))) (aCons (e2 mIx (eV 3) (e2 mIx (eV 1) (eC (.int 3)))) (aCons (e2 mIx (eV 3) (e2 mIx (eV 1) (eC (.int 4)))) aNil)))))
 (sIf (tb (e2 mIn (eV 2) (eTup (aCons (eC (.str "load")) (aCons (eC (.str "store")) aNil)))))
 (sExpr (eFn 2 m__law_met (aCons (eV 0) (aCons (eV 1) aNil))))
 (sIf (tb (e2 mEq (eV 2) (eC (.str "go"))))
 (sPut (eV 0) (eC (.str "at")) (e2 mIx (eV 1) (eC (.int 1))))
 (sIf (tb (e2 mEq (eV 2) (eC (.str "unless"))))
 (sIf (tb (e2 mEq (e2 mIx (eV 3) (e2 mIx (eV 1) (eC (.int 1)))) (eC (.int 0))))
 (sPut (eV 0) (eC (.str "at")) (e2 mIx (eV 1) (eC (.int 2))))
 sNil)
 (sIf (tb (e2 mEq (eV 2) (eC (.str "call"))))
 (sSeq (sPut (eV 3) (e2 mIx (eV 1) (eC (.int 1))) (e2 mIx (eV 0) (eC (.str "at"))))
 (sPut (eV 0) (eC (.str "at")) (e2 mIx (eV 1) (eC (.int 2)))))
 (sIf (tb (e2 mEq (eV 2) (eC (.str "back"))))
 (sPut (eV 0) (eC (.str "at")) (e2 mIx (eV 3) (e2 mIx (eV 1) (eC (.int 1)))))
 (sIf (tb (e2 mEq (eV 2) (eC (.str "end"))))
 (sPut (eV 0) (eC (.str "word")) (e2 mIx (eV 1) (eC (.int 1))))
 (sExpr (eFn 2 m__law_told (aCons (eV 0) (aCons (eV 1) aNil)))))))))))))
 (sPut (eV 3) (eC (.int 0)) (eC (.int 0))))))
@[irreducible] noncomputable def m__law_instruction : Fn := mkFn 2 2 b__law_instruction
theorem mLen__law_instruction : ∀ ds S, ds.length ≠ 2 → m__law_instruction ds S = .bad := fun ds S h => by unfold m__law_instruction; exact mkFn_len ds S h
@[irreducible] noncomputable def b__law_code_ran : MS :=
 (sSeq (sSet 3 (eFn 2 m__law_machine (aCons (eV 0) (aCons (eV 1) aNil))))
 (sSeq (sFor (iRg1 (aCons (eV 2) aNil)) (.nm 4)
 (sSeq (sIf (Mir.tAnd (tb (e2 mEq (e2 mIx (eV 3) (eC (.str "word"))) (eC (.str "")))) (tb (e2 mGe (e2 mIx (eV 3) (eC (.str "at"))) (eCall bLen (aCons (e2 mIx (eV 0) (eC (.int 0))) aNil)))))
 (sPut (eV 3) (eC (.str "word")) (eC (.str "fault")))
 sNil)
 (sSeq (sIf (tb (e2 mNe (e2 mIx (eV 3) (eC (.str "word"))) (eC (.str ""))))
 sBreak
 sNil)
 (sSeq (sExpr (eBm "list" bAppend (e2 mIx (eV 3) (eC (.str "met"))) (aCons (eTup (aCons (e2 mIx (eV 3) (eC (.str "at"))) (aCons (e1 mNeg (eC (.int 1))) aNil))) aNil)))
 (sSeq (sExpr (eFn 2 m__law_instruction (aCons (eV 3) (aCons (e2 mIx (e2 mIx (eV 0) (eC (.int 0))) (e2 mIx (eV 3) (eC (.str "at")))) aNil))))
 (sPutAug mIAdd (eV 3) (eC (.str "done")) (eC (.int 1))))))))
 (sSeq (sIf (tb (e2 mEq (e2 mIx (eV 3) (eC (.str "word"))) (eC (.str ""))))
 (sPut (eV 3) (eC (.str "word")) (eC (.str "steps")))
 sNil)
 (sRet (eV 3)))))
@[irreducible] noncomputable def m__law_code_ran : Fn := mkFn 3 2 b__law_code_ran
theorem mLen__law_code_ran : ∀ ds S, ds.length ≠ 3 → m__law_code_ran ds S = .bad := fun ds S h => by unfold m__law_code_ran; exact mkFn_len ds S h
@[irreducible] noncomputable def b__law_draws : MS :=
 (sSeq (sSet 2 (eLst aNil))
 (sSeq (sSet 3 (eC (.int 7)))
 (sSeq (sFor (iRg1 (aCons (eCall bLen (aCons (eV 0) aNil)) aNil)) (.nm 4)
 (sSeq (sSet 5 (eCall bAbs (aCons (eCall bInt (aCons (e2 mIx (eV 0) (eV 4)) aNil)) aNil)))
 (sSeq (sSet 3 (e2 mMod (eCall bInt (aCons (e2 mAdd (e2 mAdd (e2 mMul (eV 3) (eC (.int 48271))) (e2 mMod (eV 5) (eC (.int 1000003)))) (eV 4)) aNil)) (eC (.int 65537))))
 (sSeq (sSet 6 (eC (.int 0)))
 (sSeq (sIf (tb (e2 mGe (eV 5) (e2 mPow (eC (.int 10)) (eC (.int 18)))))
 (sSet 6 (eV 5))
 (sSeq (sExpr (eBm "list" bAppend (eV 2) (aCons (e2 mMod (eCall bInt (aCons (eV 5) aNil)) (eC (.int 997))) aNil)))
 (sExpr (eBm "list" bAppend (eV 2) (aCons (e2 mMod (e2 mMod (eCall bInt (aCons (e2 mAdd (e2 mMul (eV 3) (eC (.int 69621))) (eC (.int 5))) aNil)) (eC (.int 65521))) (eC (.int 997))) aNil)))))
 (sFor (iRg1 (aCons (eC (.int 60)) aNil)) (.nm 7)
 (sIf (tb (e2 mGt (eV 6) (eC (.int 0))))
 (sSeq (sExpr (eBm "list" bAppend (eV 2) (aCons (e2 mMod (eCall bInt (aCons (eV 6) aNil)) (eC (.int 997))) aNil)))
 (sSet 6 (e2 mFDiv (eV 6) (eC (.int 997)))))
 sNil)))))))
 (sSeq (sFor (iRg1 (aCons (eV 1) aNil)) (.nm 4)
 (sSeq (sSet 3 (e2 mMod (eCall bInt (aCons (e2 mAdd (e2 mAdd (e2 mMul (eV 3) (eC (.int 16807))) (eV 4)) (eC (.int 1))) aNil)) (eC (.int 65537))))
 (sExpr (eBm "list" bAppend (eV 2) (aCons (e2 mMod (eCall bInt (aCons (eV 3) aNil)) (eC (.int 997))) aNil)))))
 (sRet (eSl (eV 2) oNone (oSome (eV 1))))))))
@[irreducible] noncomputable def m__law_draws : Fn := mkFn 2 6 b__law_draws
theorem mLen__law_draws : ∀ ds S, ds.length ≠ 2 → m__law_draws ds S = .bad := fun ds S h => by unfold m__law_draws; exact mkFn_len ds S h
@[irreducible] noncomputable def b__law_is_number : MS :=
 (sRet (eAnd (eCall bIsi (aCons (eV 0) (aCons (eC (.opq (.ty "int"))) aNil))) (eAnd (eNot (eCall bIsi (aCons (eV 0) (aCons (eC (.opq (.ty "bool"))) aNil)))) (eChain mLe mLt (eC (.int 0)) (eV 0) (eV 1)))))
@[irreducible] noncomputable def m__law_is_number : Fn := mkFn 2 0 b__law_is_number
theorem mLen__law_is_number : ∀ ds S, ds.length ≠ 2 → m__law_is_number ds S = .bad := fun ds S h => by unfold m__law_is_number; exact mkFn_len ds S h
@[irreducible] noncomputable def b__law_is_instruction : MS :=
 (sSeq (sIf (Mir.tOr (Mir.tNot (tTru (eCall bIsi (aCons (eV 0) (aCons (eC (.opq (.ty "tuple"))) aNil))))) (Mir.tOr (tb (e2 mEq (eCall bLen (aCons (eV 0) aNil)) (eC (.int 0)))) (Mir.tNot (tTru (eCall bIsi (aCons (e2 mIx (eV 0) (eC (.int 0))) (aCons (eC (.opq (.ty "str"))) aNil)))))))
 (sRet (eC (.bl false)))
 sNil)
 (sSeq (sSet 1 (eSl (eV 0) (oSome (eC (.int 1))) oNone))
 (sSeq (sIf (tb (e2 mEq (e2 mIx (eV 0) (eC (.int 0))) (eC (.str "op"))))
 (sSeq (sIf (Mir.tOr (tb (e2 mNe (eCall bLen (aCons (eV 0) aNil)) (eC (.int 5)))) (Mir.tOr (Mir.tNot (tTru (eCall bIsi (aCons (e2 mIx (eV 0) (eC (.int 1))) (aCons (eC (.opq (.ty "str"))) aNil))))) (tb (e2 mNotIn (e2 mIx (eV 0) (eC (.int 1))) (eFn 0 m__law_signs aNil)))))
 (sRet (eC (.bl false)))
 sNil)
 (sSet 1 (eSl (eV 0) (oSome (eC (.int 2))) oNone)))
 sNil)
 (sSeq (sIf (tb (e2 mEq (e2 mIx (eV 0) (eC (.int 0))) (eC (.str "end"))))
 (sRet (eAnd (e2 mEq (eCall bLen (aCons (eV 0) aNil)) (eC (.int 2))) (eAnd (eCall bIsi (aCons (e2 mIx (eV 0) (eC (.int 1))) (aCons (eC (.opq (.ty "str"))) aNil))) (e2 mIn (e2 mIx (eV 0) (eC (.int 1))) (eTup (aCons (eC (.str "done")) (aCons (eC (.str "bound")) aNil)))))))
 sNil)
 (sSeq (sSet 2 (eDict [((eC (.str "set")), (eC (.str "rn"))), ((eC (.str "high")), (eC (.str "rn"))), ((eC (.str "op")), (eC (.str "rrr"))), ((eC (.str "load")), (eC (.str "rrn"))), ((eC (.str "store")), (eC (.str "rrn"))), ((eC (.str "go")), (eC (.str "n"))), ((eC (.str "unless")), (eC (.str "rn"))), ((eC (.str "call")), (eC (.str "rn"))), ((eC (.str "back")), (eC (.str "r"))), ((eC (.str "send")), (eC (.str "rr"))), ((eC (.str "ask")), (eC (.str "rr"))), ((eC (.str "take")), (eC (.str "rr"))), ((eC (.str "time")), (eC (.str "r"))), ((eC (.str "rest")), (eC (.str "")))]))
 (sSeq (sIf (Mir.tOr (tb (e2 mNotIn (e2 mIx (eV 0) (eC (.int 0))) (eV 2))) (tb (e2 mNe (eCall bLen (aCons (eV 1) aNil)) (eCall bLen (aCons (e2 mIx (eV 2) (e2 mIx (eV 0) (eC (.int 0)))) aNil)))))
 (sRet (eC (.bl false)))
 sNil)
 (sSeq (sSet 3 (eLc (iSeq (e2 mIx (eV 2) (e2 mIx (eV 0) (eC (.int 0))))) (.nm 4) tYesM (eIf (tb (e2 mEq (eV 4) (eC (.str "r")))) (eC (.int 8)) (eC (.int 65536))) [4]))
 (sRet (e2 mEq (eLc (iRg1 (aCons (eCall bLen (aCons (eV 1) aNil)) aNil)) (.nm 5) (Mir.tNot (tTru (eFn 2 m__law_is_number (aCons (e2 mIx (eV 1) (eV 5)) (aCons (e2 mIx (eV 3) (eV 5)) aNil))))) (eV 5) [5]) (eLst aNil))))))))))
@[irreducible] noncomputable def m__law_is_instruction : Fn := mkFn 1 5 b__law_is_instruction
theorem mLen__law_is_instruction : ∀ ds S, ds.length ≠ 1 → m__law_is_instruction ds S = .bad := fun ds S h => by unfold m__law_is_instruction; exact mkFn_len ds S h
@[irreducible] noncomputable def b__law_is_guest : MS :=
 (sSeq (sIf (Mir.tOr (Mir.tNot (tTru (eCall bIsi (aCons (eV 0) (aCons (eC (.opq (.ty "tuple"))) aNil))))) (Mir.tOr (tb (e2 mNe (eCall bLen (aCons (eV 0) aNil)) (eC (.int 3)))) (Mir.tOr (Mir.tNot (tTru (eCall bIsi (aCons (e2 mIx (eV 0) (eC (.int 0))) (aCons (eC (.opq (.ty "tuple"))) aNil))))) (Mir.tNot (tTru (eCall bIsi (aCons (e2 mIx (eV 0) (eC (.int 2))) (aCons (eC (.opq (.ty "tuple"))) aNil))))))))
 (sRet (eC (.bl false)))
 sNil)
 (sSeq (sIf (Mir.tOr (Mir.tNot (tb (eChain mLe mLe (eC (.int 1)) (eCall bLen (aCons (e2 mIx (eV 0) (eC (.int 0))) aNil)) (eC (.int 30000))))) (Mir.tOr (Mir.tNot (tTru (eFn 2 m__law_is_number (aCons (e2 mIx (eV 0) (eC (.int 1))) (aCons (eC (.int 1001)) aNil))))) (tb (e2 mNe (eCall bLen (aCons (e2 mIx (eV 0) (eC (.int 2))) aNil)) (e2 mIx (eV 0) (eC (.int 1)))))))
 (sRet (eC (.bl false)))
 sNil)
 (sSeq (sIf (tb (e2 mNe (eLc (iSeq (e2 mIx (eV 0) (eC (.int 2)))) (.nm 1) (Mir.tNot (tTru (eFn 2 m__law_is_number (aCons (eV 1) (aCons (eC (.int 4294967296)) aNil))))) (eV 1) [1]) (eLst aNil)))
 (sRet (eC (.bl false)))
 sNil)
 (sRet (e2 mEq (eLc (iSeq (e2 mIx (eV 0) (eC (.int 0)))) (.nm 2) (Mir.tNot (tTru (eFn 1 m__law_is_instruction (aCons (eV 2) aNil)))) (eV 2) [2]) (eLst aNil))))))
@[irreducible] noncomputable def m__law_is_guest : Fn := mkFn 1 2 b__law_is_guest
theorem mLen__law_is_guest : ∀ ds S, ds.length ≠ 1 → m__law_is_guest ds S = .bad := fun ds S h => by unfold m__law_is_guest; exact mkFn_len ds S h
@[irreducible] noncomputable def b__law_deeds : MS :=
 (sSeq (sSet 2 (eLst aNil))
 (sSeq (sFor (iSeq (e2 mIx (eV 1) (eC (.str "met")))) (.tp [3, 4])
 (sSeq (sSet 5 (e2 mIx (e2 mIx (e2 mIx (eV 0) (eC (.int 0))) (eV 3)) (eC (.int 0))))
 (sIf (tb (e2 mGe (eV 4) (eC (.int 0))))
 (sExpr (eBm "list" bAppend (eV 2) (aCons (eTup (aCons (eV 5) (aCons (eV 4) aNil))) aNil)))
 (sIf (tb (e2 mNotIn (eV 5) (eTup (aCons (eC (.str "load")) (aCons (eC (.str "store")) (aCons (eC (.str "set")) (aCons (eC (.str "high")) (aCons (eC (.str "op")) (aCons (eC (.str "go")) (aCons (eC (.str "unless")) (aCons (eC (.str "call")) (aCons (eC (.str "back")) (aCons (eC (.str "end")) aNil)))))))))))))
 (sExpr (eBm "list" bAppend (eV 2) (aCons (eTup (aCons (eV 5) aNil)) aNil)))
 sNil))))
 (sRet (eV 2))))
@[irreducible] noncomputable def m__law_deeds : Fn := mkFn 2 4 b__law_deeds
theorem mLen__law_deeds : ∀ ds S, ds.length ≠ 2 → m__law_deeds ds S = .bad := fun ds S h => by unfold m__law_deeds; exact mkFn_len ds S h
@[irreducible] noncomputable def b__law_is_caller : MS :=
 (sSeq (sIf (Mir.tOr (Mir.tNot (tTru (eFn 1 m__law_is_guest (aCons (eV 0) aNil)))) (Mir.tOr (tb (e2 mNe (e2 mIx (eV 0) (eC (.int 1))) (e2 mAdd (e2 mMul (eV 1) (eV 2)) (eC (.int 1))))) (tb (e2 mNe (e2 mIx (eV 0) (eC (.int 2))) (e2 mMulT (eTup (aCons (eC (.int 0)) aNil)) (e2 mIx (eV 0) (eC (.int 1))))))))
 (sRet (eC (.bl false)))
 sNil)
 (sSeq (sSet 3 (eFn 3 m__law_code_ran (aCons (eV 0) (aCons (eTup aNil) (aCons (e2 mMul (eC (.int 2)) (e2 mAdd (e2 mMul (eC (.int 8)) (eV 1)) (eC (.int 8)))) aNil)))))
 (sSeq (sSet 4 (e2 mMul (e2 mFDiv (e2 mAdd (eCall bLen (aCons (e2 mIx (eV 0) (eC (.int 0))) aNil)) (eC (.int 15))) (eC (.int 16))) (eC (.int 16))))
 (sSeq (sSet 5 (e2 mAdd (eLc (iRg1 (aCons (eV 1) aNil)) (.nm 6) tYesM (eTup (aCons (eC (.str "load")) (aCons (e2 mAdd (eV 4) (e2 mMul (eV 6) (eV 2))) aNil))) [6]) (eLst (aCons (eTup (aCons (eC (.str "rest")) aNil)) aNil))))
 (sRet (e2 mEq (eSl (eFn 2 m__law_deeds (aCons (eV 0) (aCons (eV 3) aNil))) oNone (oSome (e2 mAdd (e2 mMul (eC (.int 2)) (eV 1)) (eC (.int 2))))) (e2 mAdd (eV 5) (eV 5))))))))
@[irreducible] noncomputable def m__law_is_caller : Fn := mkFn 3 4 b__law_is_caller
theorem mLen__law_is_caller : ∀ ds S, ds.length ≠ 3 → m__law_is_caller ds S = .bad := fun ds S h => by unfold m__law_is_caller; exact mkFn_len ds S h
@[irreducible] noncomputable def b__law_pick : MS :=
 (sRet (e2 mIx (eV 1) (eFn 2 m__law_next (aCons (eV 0) (aCons (eCall bLen (aCons (eV 1) aNil)) aNil)))))
@[irreducible] noncomputable def m__law_pick : Fn := mkFn 2 0 b__law_pick
theorem mLen__law_pick : ∀ ds S, ds.length ≠ 2 → m__law_pick ds S = .bad := fun ds S h => by unfold m__law_pick; exact mkFn_len ds S h
@[irreducible] noncomputable def b__law_word : MS :=
 (sSeq (sSet 1 (eFn 2 m__law_next (aCons (eV 0) (aCons (eC (.int 8)) aNil))))
 (sSeq (sIf (tb (e2 mLt (eV 1) (eC (.int 3))))
 (sRet (eFn 2 m__law_next (aCons (eV 0) (aCons (eC (.int 6)) aNil))))
 sNil)
 (sSeq (sIf (tb (e2 mEq (eV 1) (eC (.int 3))))
 (sRet (eFn 2 m__law_pick (aCons (eV 0) (aCons (eLst (aCons (eC (.int 31)) (aCons (eC (.int 32)) (aCons (eC (.int 33)) (aCons (eC (.int 65535)) (aCons (eC (.int 65536)) (aCons (eC (.int 2147483647)) (aCons (eC (.int 2147483648)) (aCons (eC (.int 4294967295)) aNil))))))))) aNil))))
 sNil)
 (sSeq (sIf (tb (e2 mEq (eV 1) (eC (.int 4))))
 (sRet (e2 mSub (eC (.int 4294967295)) (eFn 2 m__law_next (aCons (eV 0) (aCons (eC (.int 4)) aNil)))))
 sNil)
 (sSeq (sIf (tb (e2 mEq (eV 1) (eC (.int 5))))
 (sRet (eFn 2 m__law_next (aCons (eV 0) (aCons (eC (.int 997)) aNil))))
 sNil)
 (sSeq (sSet 2 (e2 mAdd (e2 mMul (eFn 2 m__law_next (aCons (eV 0) (aCons (eC (.int 997)) aNil))) (eC (.int 994009))) (e2 mMul (eFn 2 m__law_next (aCons (eV 0) (aCons (eC (.int 997)) aNil))) (eC (.int 997)))))
 (sRet (e2 mMod (eCall bInt (aCons (e2 mAdd (e2 mMul (eV 2) (eC (.int 7))) (eFn 2 m__law_next (aCons (eV 0) (aCons (eC (.int 997)) aNil)))) aNil)) (eC (.int 4294967296))))))))))
@[irreducible] noncomputable def m__law_word : Fn := mkFn 1 2 b__law_word
theorem mLen__law_word : ∀ ds S, ds.length ≠ 1 → m__law_word ds S = .bad := fun ds S h => by unfold m__law_word; exact mkFn_len ds S h
@[irreducible] noncomputable def b__law_is_listener : MS :=
 (sSeq (sIf (Mir.tOr (Mir.tNot (tTru (eFn 1 m__law_is_guest (aCons (eV 1) aNil)))) (Mir.tOr (tb (e2 mLt (e2 mIx (eV 1) (eC (.int 1))) (e2 mAdd (eV 2) (e2 mMul (eC (.int 16)) (eV 3))))) (tb (e2 mNe (e2 mIx (eV 1) (eC (.int 2))) (e2 mMulT (eTup (aCons (eC (.int 0)) aNil)) (e2 mIx (eV 1) (eC (.int 1))))))))
 (sRet (eC (.bl false)))
 sNil)
 (sSeq (sSet 4 (eTup (aCons (eFn 1 m__law_word (aCons (eV 0) aNil)) (aCons (eFn 1 m__law_word (aCons (eV 0) aNil)) aNil))))
 (sSeq (sSet 5 (eFn 3 m__law_code_ran (aCons (eV 1) (aCons (eV 4) (aCons (eC (.int 40)) aNil)))))
 (sSeq (sSet 6 (eTup (aCons (eC (.str "load")) (aCons (e2 mAdd (e2 mMul (e2 mFDiv (e2 mAdd (eCall bLen (aCons (e2 mIx (eV 1) (eC (.int 0))) aNil)) (eC (.int 15))) (eC (.int 16))) (eC (.int 16))) (eV 2)) aNil))))
 (sSeq (sIf (Mir.tOr (tb (e2 mNe (eFn 2 m__law_deeds (aCons (eV 1) (aCons (eV 5) aNil))) (eLst (aCons (eV 6) (aCons (eTup (aCons (eC (.str "rest")) aNil)) (aCons (eTup (aCons (eC (.str "time")) aNil)) (aCons (eV 6) (aCons (eTup (aCons (eC (.str "time")) aNil)) (aCons (eTup (aCons (eC (.str "rest")) aNil)) aNil))))))))) (tb (e2 mNotIn (e2 mIx (eV 5) (eC (.str "word"))) (eTup (aCons (eC (.str "done")) (aCons (eC (.str "bound")) aNil))))))
 (sRet (eC (.bl false)))
 sNil)
 (sSeq (sIf (tb (e2 mNe (e2 mIx (eV 5) (eC (.str "deeds"))) (eLst (aCons (eTup (aCons (eC (.str "rest")) aNil)) (aCons (eTup (aCons (eC (.str "time")) (aCons (e2 mIx (eV 4) (eC (.int 0))) aNil))) (aCons (eTup (aCons (eC (.str "time")) (aCons (e2 mIx (eV 4) (eC (.int 1))) aNil))) (aCons (eTup (aCons (eC (.str "rest")) aNil)) aNil)))))))
 (sRet (eC (.bl false)))
 sNil)
 (sSeq (sFor (iRg1 (aCons (eC (.int 40)) aNil)) (.nm 7)
 (sSeq (sSet 5 (eFn 3 m__law_code_ran (aCons (eV 1) (aCons (eV 4) (aCons (eV 7) aNil)))))
 (sIf (tb (e2 mEq (eCall bLen (aCons (e2 mIx (eV 5) (eC (.str "deeds"))) aNil)) (eC (.int 4))))
 (sRet (e2 mEq (e2 mIx (e2 mIx (eV 5) (eC (.str "regs"))) (eC (.int 1))) (e2 mMod (eCall bInt (aCons (e2 mSub (e2 mIx (eV 4) (eC (.int 1))) (e2 mIx (eV 4) (eC (.int 0)))) aNil)) (eC (.int 4294967296)))))
 sNil)))
 (sRet (eC (.bl false))))))))))
@[irreducible] noncomputable def m__law_is_listener : Fn := mkFn 4 4 b__law_is_listener
theorem mLen__law_is_listener : ∀ ds S, ds.length ≠ 4 → m__law_is_listener ds S = .bad := fun ds S h => by unfold m__law_is_listener; exact mkFn_len ds S h
@[irreducible] noncomputable def b_idle : MS :=
 (sRet (eTup (aCons (eTup (aCons (eTup (aCons (eC (.str "end")) (aCons (eC (.str "done")) aNil))) aNil)) (aCons (eC (.int 0)) (aCons (eTup aNil) aNil)))))
@[irreducible] noncomputable def m_idle : Fn := mkFn 0 0 b_idle
theorem mLen_idle : ∀ ds S, ds.length ≠ 0 → m_idle ds S = .bad := fun ds S h => by unfold m_idle; exact mkFn_len ds S h
@[irreducible] noncomputable def b_data_base : MS :=
 (sRet (e2 mMul (e2 mFDiv (e2 mSub (e2 mAdd (eV 0) (eC cD_PAGE)) (eC (.int 1))) (eC cD_PAGE)) (eC cD_PAGE)))
@[irreducible] noncomputable def m_data_base : Fn := mkFn 1 0 b_data_base
theorem mLen_data_base : ∀ ds S, ds.length ≠ 1 → m_data_base ds S = .bad := fun ds S h => by unfold m_data_base; exact mkFn_len ds S h
@[irreducible] noncomputable def b_caller : MS :=
 (sSeq (sSet 2 (eFn 1 m_data_base (aCons (e2 mAdd (eV 0) (eC (.int 2))) aNil)))
 (sSeq (sSet 3 (eLc (iRg1 (aCons (eV 0) aNil)) (.nm 5) tYesM (eTup (aCons (eC (.str "load")) (aCons (eC cD_LOADED) (aCons (eC (.int 0)) (aCons (e2 mAdd (eV 2) (e2 mMul (eV 5) (eV 1))) aNil))))) [5]))
 (sSeq (sSet 3 (e2 mAdd (eV 3) (eLst (aCons (eTup (aCons (eC (.str "rest")) aNil)) (aCons (eTup (aCons (eC (.str "go")) (aCons (eC (.int 0)) aNil))) aNil)))))
 (sSeq (sSet 4 (e2 mAdd (e2 mMul (eV 0) (eV 1)) (eC (.int 1))))
 (sRet (eTup (aCons (eCall bTuple (aCons (eV 3) aNil)) (aCons (eV 4) (aCons (e2 mMulT (eTup (aCons (eC (.int 0)) aNil)) (eV 4)) aNil)))))))))
@[irreducible] noncomputable def m_caller : Fn := mkFn 2 4 b_caller
theorem mLen_caller : ∀ ds S, ds.length ≠ 2 → m_caller ds S = .bad := fun ds S h => by unfold m_caller; exact mkFn_len ds S h
@[irreducible] noncomputable def b_listener : MS :=
 (sSeq (sSet 2 (eFn 1 m_data_base (aCons (eC (.int 8)) aNil)))
 (sSeq (sSet 3 (eTup (aCons (eTup (aCons (eC (.str "load")) (aCons (eC cD_LOADED) (aCons (eC (.int 0)) (aCons (e2 mAdd (eV 2) (eV 0)) aNil))))) (aCons (eTup (aCons (eC (.str "rest")) aNil)) (aCons (eTup (aCons (eC (.str "time")) (aCons (eC cD_FIRST) aNil))) (aCons (eTup (aCons (eC (.str "load")) (aCons (eC cD_LOADED) (aCons (eC (.int 0)) (aCons (e2 mAdd (eV 2) (eV 0)) aNil))))) (aCons (eTup (aCons (eC (.str "time")) (aCons (eC cD_SECOND) aNil))) (aCons (eTup (aCons (eC (.str "op")) (aCons (eC (.str "-")) (aCons (eC (.int 1)) (aCons (eC cD_SECOND) (aCons (eC cD_FIRST) aNil)))))) (aCons (eTup (aCons (eC (.str "rest")) aNil)) (aCons (eTup (aCons (eC (.str "end")) (aCons (eC (.str "done")) aNil))) aNil))))))))))
 (sSeq (sSet 4 (e2 mAdd (e2 mAdd (eV 0) (e2 mMul (eC cD_PAGE) (eV 1))) (eC (.int 1))))
 (sRet (eTup (aCons (eV 3) (aCons (eV 4) (aCons (e2 mMulT (eTup (aCons (eC (.int 0)) aNil)) (eV 4)) aNil))))))))
@[irreducible] noncomputable def m_listener : Fn := mkFn 2 3 b_listener
theorem mLen_listener : ∀ ds S, ds.length ≠ 2 → m_listener ds S = .bad := fun ds S h => by unfold m_listener; exact mkFn_len ds S h
@[irreducible] noncomputable def b_law : MS :=
 (sSeq (sSet 1 (eDict [((eC (.str "draws")), (eFn 2 m__law_draws (aCons (eV 0) (aCons (eC (.int 200)) aNil)))), ((eC (.str "at")), (eC (.int 0)))]))
 (sSeq (sSet 2 (e2 mAdd (eC (.int 1)) (eFn 2 m__law_next (aCons (eV 1) (aCons (eC (.int 40)) aNil)))))
 (sSeq (sSet 3 (e2 mAdd (eC (.int 1)) (eFn 2 m__law_next (aCons (eV 1) (aCons (eCall bMin2 (aCons (eC (.int 40)) (aCons (e2 mFDiv (eC (.int 999)) (eV 2)) aNil))) aNil)))))
 (sSeq (sIf (Mir.tNot (tTru (eFn 3 m__law_is_caller (aCons (eFn 2 m_caller (aCons (eV 2) (aCons (eV 3) aNil))) (aCons (eV 2) (aCons (eV 3) aNil))))))
 (sRet (eC (.bl false)))
 sNil)
 (sSeq (sSet 2 (e2 mAdd (eC (.int 1)) (eFn 2 m__law_next (aCons (eV 1) (aCons (eC (.int 30)) aNil)))))
 (sSeq (sSet 4 (eFn 2 m__law_next (aCons (eV 1) (aCons (e2 mAdd (eC (.int 1)) (eCall bMin2 (aCons (eC (.int 500)) (aCons (e2 mSub (eC (.int 900)) (e2 mMul (eC (.int 16)) (eV 2))) aNil)))) aNil))))
 (sSeq (sIf (Mir.tNot (tTru (eFn 4 m__law_is_listener (aCons (eV 1) (aCons (eFn 2 m_listener (aCons (eV 4) (aCons (eV 2) aNil))) (aCons (eV 4) (aCons (eV 2) aNil)))))))
 (sRet (eC (.bl false)))
 sNil)
 (sSeq (sSet 5 (eFn 3 m__law_code_ran (aCons (eFn 0 m_idle aNil) (aCons (eTup aNil) (aCons (eC (.int 1)) aNil)))))
 (sRet (eAnd (eFn 1 m__law_is_guest (aCons (eFn 0 m_idle aNil) aNil)) (eAnd (e2 mIn (e2 mIx (eV 5) (eC (.str "word"))) (eTup (aCons (eC (.str "done")) (aCons (eC (.str "bound")) aNil)))) (e2 mEq (e2 mIx (eV 5) (eC (.str "deeds"))) (eLst aNil)))))))))))))
@[irreducible] noncomputable def m_law : Fn := mkFn 1 5 b_law
theorem mLen_law : ∀ ds S, ds.length ≠ 1 → m_law ds S = .bad := fun ds S h => by unfold m_law; exact mkFn_len ds S h
end Pf

namespace Pf
open PySem L2 PyProof.Rows Mir
structure Zs (K : PySem.W.Frag) (mg : Str → Option Value) : Prop where
  z_len : mg "len" = none
  z_int : mg "int" = none
  z_list : mg "list" = none
  z_range : mg "range" = none
  z_abs : mg "abs" = none
  z_bool : mg "bool" = none
  z_isinstance : mg "isinstance" = none
  z_str : mg "str" = none
  z_tuple : mg "tuple" = none
  c_PAGE : ConAt K mg "PAGE" cD_PAGE
  c_LOADED : ConAt K mg "LOADED" cD_LOADED
  c_FIRST : ConAt K mg "FIRST" cD_FIRST
  c_SECOND : ConAt K mg "SECOND" cD_SECOND
  z_min : mg "min" = none
section
variable {P : Program} {w : World} {K : PySem.W.Frag} {mg : Str → Option Value} {base : Heap}
theorem sc__law_next : FnScope ["w", "many"] ["w", "many"] (defScope (top 11)) := ⟨rfl, rfl, rfl, by decide +kernel, rfl, by decide +kernel, by decide +kernel⟩
theorem ok__law_next (Z : Zs K mg) (Dx : DefAt K mg "_law_next" "_law_next" (top 11) ["w", "many"]) : Okd P w K mg base CX0 1 "_law_next" 2 m__law_next := by
  unfold m__law_next b__law_next
  exact okd0 (N := ["w", "many"]) (l := 0) Dx sc__law_next rfl rfl fun f cdv A outer s H E hr =>
 (dss_cons (ds_putAug (hu65 hr) (de_v 0) de_str de_int op2_iadd)
 (dss_cons (ds_if (dt_cmp op2_gt (de_ix (hu65 hr) (de_v 0) de_str) (de_callB bi_len (by rfl) Z.z_len bb_len (da_cons (de_ix (hu65 hr) (de_v 0) de_str) da_nil)))
 (dss_one (ds_ret de_int))
 dss_nil)
 (dss_one (ds_ret (de_bin op2_mod (de_callTy bi_int (by rfl) Z.z_int bb_int (da_cons (de_ix (hu65 hr) (de_ix (hu65 hr) (de_v 0) de_str) (de_bin op2_sub (de_ix (hu65 hr) (de_v 0) de_str) de_int)) da_nil)) (de_v 1))))))
theorem sc__law_number : FnScope ["kind", "kinds"] ["kind"] (defScope (top 16)) := ⟨rfl, rfl, rfl, by decide +kernel, rfl, by decide +kernel, by decide +kernel⟩
theorem ok__law_number (Z : Zs K mg) (Dx : DefAt K mg "_law_number" "_law_number" (top 16) ["kind"]) : Okd P w K mg base CX0 1 "_law_number" 1 m__law_number := by
  unfold m__law_number b__law_number
  exact okd0 (N := ["kind", "kinds"]) (l := 0) Dx sc__law_number rfl rfl fun f cdv A outer s H E hr =>
 (dss_cons (ds_set (i := 1) sc__law_number.nd rfl (by first | exact Or.inl rfl | exact Or.inr rfl) (de_lst (da_cons de_str (da_cons de_str (da_cons de_str (da_cons de_str (da_cons de_str (da_cons de_str (da_cons de_str (da_cons de_str (da_cons de_str (da_cons de_str (da_cons de_str (da_cons de_str (da_cons de_str (da_cons de_str (da_cons de_str da_nil)))))))))))))))))
 (dss_one (ds_ret (de_bm bm_index PySem.F.plainAttrs_list PySem.F.slot_list_index PySem.F.type_list_index (de_v 1) (da_cons (de_v 0) da_nil)))))
theorem sc__law_signs : FnScope [] [] (defScope (top 14)) := ⟨rfl, rfl, rfl, by decide +kernel, rfl, by decide +kernel, by decide +kernel⟩
theorem ok__law_signs (Z : Zs K mg) (Dx : DefAt K mg "_law_signs" "_law_signs" (top 14) []) : Okd P w K mg base CX0 1 "_law_signs" 0 m__law_signs := by
  unfold m__law_signs b__law_signs
  exact okd0 (N := []) (l := 0) Dx sc__law_signs rfl rfl fun f cdv A outer s H E hr =>
 (dss_one (ds_ret (de_tup (da_cons de_str (da_cons de_str (da_cons de_str (da_cons de_str (da_cons de_str (da_cons de_str (da_cons de_str (da_cons de_str (da_cons de_str (da_cons de_str (da_cons de_str (da_cons de_str da_nil)))))))))))))))
theorem sc__law_code_word : FnScope ["row", "kind", "found", "place"] ["row"] (defScope (top 17)) := ⟨rfl, rfl, rfl, by decide +kernel, rfl, by decide +kernel, by decide +kernel⟩
theorem ok__law_code_word (Z : Zs K mg) (Dx : DefAt K mg "_law_code_word" "_law_code_word" (top 17) ["row"]) (h__law_number : Okd P w K mg base CX0 1 "_law_number" 1 m__law_number) (h__law_signs : Okd P w K mg base CX0 1 "_law_signs" 0 m__law_signs) : Okd P w K mg base CX0 2 "_law_code_word" 1 m__law_code_word := by
  unfold m__law_code_word b__law_code_word
  exact okd0 (N := ["row", "kind", "found", "place"]) (l := 1) Dx sc__law_code_word rfl rfl fun f cdv A outer s H E hr =>
 (dss_cons (ds_set (i := 1) sc__law_code_word.nd rfl (by first | exact Or.inl rfl | exact Or.inr rfl) (de_ix (hu65 hr) (de_v 0) de_int))
 (dss_cons (ds_set (i := 2) sc__law_code_word.nd rfl (by first | exact Or.inl rfl | exact Or.inr rfl) (de_bin op2_mul (de_fnE h__law_number (hr.mono (by decide)) (by rfl) hx0 (da_cons (de_v 1) da_nil)) de_int))
 (dss_cons (ds_if (dt_cmp (op2_eq (hu64 hr)) (de_v 1) de_str)
 (dss_one (ds_ret (de_bin op2_add (de_v 2) (de_callTy bi_int (by rfl) Z.z_int bb_int (da_cons (de_cmp (op2_eq (hu64 hr)) (de_ix (hu65 hr) (de_v 0) de_int) de_str) da_nil)))))
 dss_nil)
 (dss_cons (ds_if (dt_cmp (op2_eq (hu64 hr)) (de_v 1) de_str)
 (dss_cons (ds_set (i := 3) sc__law_code_word.nd rfl (by first | exact Or.inl rfl | exact Or.inr rfl) (de_bm bm_index PySem.F.plainAttrs_list PySem.F.slot_list_index PySem.F.type_list_index (de_callTy bi_list (by rfl) Z.z_list bb_list (da_cons (de_fn0E h__law_signs (hr.mono (by decide)) (by rfl) hx0) da_nil)) (da_cons (de_ix (hu65 hr) (de_v 0) de_int) da_nil)))
 (dss_one (ds_ret (de_bin op2_add (de_bin op2_add (de_bin op2_add (de_bin op2_add (de_v 2) (de_bin op2_mul (de_ix (hu65 hr) (de_v 0) de_int) de_int)) (de_bin op2_mul (de_ix (hu65 hr) (de_v 0) de_int) de_int)) (de_bin op2_mul (de_v 3) de_int)) (de_ix (hu65 hr) (de_v 0) de_int)))))
 dss_nil)
 (dss_cons (ds_if (dt_in (hu65 hr) (de_v 1) (de_tup (da_cons de_str (da_cons de_str da_nil))))
 (dss_one (ds_ret (de_bin op2_add (de_bin op2_add (de_bin op2_add (de_v 2) (de_bin op2_mul (de_ix (hu65 hr) (de_v 0) de_int) de_int)) (de_bin op2_mul (de_ix (hu65 hr) (de_v 0) de_int) de_int)) (de_ix (hu65 hr) (de_v 0) de_int))))
 dss_nil)
 (dss_cons (ds_if (dt_cmp (op2_eq (hu64 hr)) (de_v 1) de_str)
 (dss_one (ds_ret (de_bin op2_add (de_bin op2_add (de_v 2) (de_bin op2_mul (de_ix (hu65 hr) (de_v 0) de_int) de_int)) (de_ix (hu65 hr) (de_v 0) de_int))))
 dss_nil)
 (dss_cons (ds_if (dt_in (hu65 hr) (de_v 1) (de_tup (da_cons de_str (da_cons de_str (da_cons de_str (da_cons de_str (da_cons de_str (da_cons de_str da_nil))))))))
 (dss_one (ds_ret (de_bin op2_add (de_bin op2_add (de_v 2) (de_bin op2_mul (de_ix (hu65 hr) (de_v 0) de_int) de_int)) (de_ix (hu65 hr) (de_v 0) de_int))))
 dss_nil)
 (dss_cons (ds_if (dt_in (hu65 hr) (de_v 1) (de_tup (da_cons de_str (da_cons de_str da_nil))))
 (dss_one (ds_ret (de_bin op2_add (de_v 2) (de_bin op2_mul (de_ix (hu65 hr) (de_v 0) de_int) de_int))))
 dss_nil)
 (dss_one (ds_ret (de_ifExp (dt_cmp (op2_eq (hu64 hr)) (de_v 1) de_str) (de_bin op2_add (de_v 2) (de_ix (hu65 hr) (de_v 0) de_int)) (de_v 2))))))))))))
theorem sc__law_machine : FnScope ["guest", "answers", "code", "size", "first", "base", "memory", "row"] ["guest", "answers"] (defScope (top 18)) := ⟨rfl, rfl, rfl, by decide +kernel, rfl, by decide +kernel, by decide +kernel⟩
theorem ok__law_machine (Z : Zs K mg) (Dx : DefAt K mg "_law_machine" "_law_machine" (top 18) ["guest", "answers"]) (h__law_code_word : Okd P w K mg base CX0 2 "_law_code_word" 1 m__law_code_word) : Okd P w K mg base CX0 3 "_law_machine" 2 m__law_machine := by
  unfold m__law_machine b__law_machine
  exact okd0 (N := ["guest", "answers", "code", "size", "first", "base", "memory", "row"]) (l := 2) Dx sc__law_machine rfl rfl fun f cdv A outer s H E hr =>
 (dss_cons (ds_asg (de_v 0) (dg_tup rfl (dgs_cons (dg_name (i := 2) sc__law_machine.nd rfl (by first | exact Or.inl rfl | exact Or.inr rfl)) (dgs_cons (dg_name (i := 3) sc__law_machine.nd rfl (by first | exact Or.inl rfl | exact Or.inr rfl)) (dgs_cons (dg_name (i := 4) sc__law_machine.nd rfl (by first | exact Or.inl rfl | exact Or.inr rfl)) dgs_nil)))))
 (dss_cons (ds_set (i := 5) sc__law_machine.nd rfl (by first | exact Or.inl rfl | exact Or.inr rfl) (de_bin op2_mul (de_bin op2_fdiv (de_bin op2_add (de_callB bi_len (by rfl) Z.z_len bb_len (da_cons (de_v 2) da_nil)) de_int) de_int) de_int))
 (dss_cons (ds_set (i := 6) sc__law_machine.nd rfl (by first | exact Or.inl rfl | exact Or.inr rfl) (de_bin op2_add (de_bin op2_add (de_lc (own := [("row", 7)]) rfl sc__law_machine.nd (di_seq (de_v 2)) (blkOk_by (own := [("row", 7)]) (N := ["guest", "answers", "code", "size", "first", "base", "memory", "row"]) (sc := (defScope (top 18))) (by decide +kernel)) (fun _ _ _ _ _ => (dg_name (i := 7) sc__law_machine.nd rfl (by first | exact Or.inl rfl | exact Or.inr rfl))) (fun _ _ _ _ _ => dpt_nil) (fun _ _ _ _ _ => (de_fnE h__law_code_word (hr.mono (by decide)) (by rfl) hx0 (da_cons (de_v 7) da_nil)))) (de_bin op2_mul (de_lst (da_cons de_int da_nil)) (de_bin op2_sub (de_v 5) (de_callB bi_len (by rfl) Z.z_len bb_len (da_cons (de_v 2) da_nil))))) (de_callTy bi_list (by rfl) Z.z_list bb_list (da_cons (de_v 4) da_nil))))
 (dss_cons (ds_set (i := 6) sc__law_machine.nd rfl (by first | exact Or.inl rfl | exact Or.inr rfl) (de_bin op2_add (de_v 6) (de_bin op2_mul (de_lst (da_cons de_int da_nil)) (de_bin op2_sub (de_bin op2_mul (de_bin op2_fdiv (de_bin op2_add (de_callB bi_len (by rfl) Z.z_len bb_len (da_cons (de_v 6) da_nil)) de_int) de_int) de_int) (de_callB bi_len (by rfl) Z.z_len bb_len (da_cons (de_v 6) da_nil))))))
 (dss_one (ds_ret (de_dict (dps_cons de_str (de_v 2) (dps_cons de_str (de_v 6) (dps_cons de_str (de_v 5) (dps_cons de_str (de_bin op2_mul (de_lst (da_cons de_int da_nil)) de_int) (dps_cons de_str de_int (dps_cons de_str (de_v 1) (dps_cons de_str de_int (dps_cons de_str (de_lst da_nil) (dps_cons de_str de_str (dps_cons de_str de_int (dps_cons de_str (de_lst da_nil) dps_nil))))))))))))))))))
theorem sc__law_operate : FnScope ["sign", "a", "b"] ["sign", "a", "b"] (defScope (top 15)) := ⟨rfl, rfl, rfl, by decide +kernel, rfl, by decide +kernel, by decide +kernel⟩
theorem ok__law_operate (Z : Zs K mg) (Dx : DefAt K mg "_law_operate" "_law_operate" (top 15) ["sign", "a", "b"]) : Okd P w K mg base CX0 1 "_law_operate" 3 m__law_operate := by
  unfold m__law_operate b__law_operate
  exact okd0 (N := ["sign", "a", "b"]) (l := 0) Dx sc__law_operate rfl rfl fun f cdv A outer s H E hr =>
 (dss_cons (ds_if (dt_cmp (op2_eq (hu64 hr)) (de_v 0) de_str)
 (dss_one (ds_ret (de_bin op2_mod (de_callTy bi_int (by rfl) Z.z_int bb_int (da_cons (de_bin op2_add (de_v 1) (de_v 2)) da_nil)) de_int)))
 dss_nil)
 (dss_cons (ds_if (dt_cmp (op2_eq (hu64 hr)) (de_v 0) de_str)
 (dss_one (ds_ret (de_bin op2_mod (de_callTy bi_int (by rfl) Z.z_int bb_int (da_cons (de_bin op2_sub (de_v 1) (de_v 2)) da_nil)) de_int)))
 dss_nil)
 (dss_cons (ds_if (dt_cmp (op2_eq (hu64 hr)) (de_v 0) de_str)
 (dss_one (ds_ret (de_bin op2_mod (de_callTy bi_int (by rfl) Z.z_int bb_int (da_cons (de_bin op2_mul (de_v 1) (de_v 2)) da_nil)) de_int)))
 dss_nil)
 (dss_cons (ds_if (dt_cmp (op2_eq (hu64 hr)) (de_v 0) de_str)
 (dss_one (ds_ret (de_ifExp (dt_cmp (op2_eq (hu64 hr)) (de_v 2) de_int) de_int (de_bin op2_fdiv (de_v 1) (de_v 2)))))
 dss_nil)
 (dss_cons (ds_if (dt_cmp (op2_eq (hu64 hr)) (de_v 0) de_str)
 (dss_one (ds_ret (de_bin op2_and (de_v 1) (de_v 2))))
 dss_nil)
 (dss_cons (ds_if (dt_cmp (op2_eq (hu64 hr)) (de_v 0) de_str)
 (dss_one (ds_ret (de_bin op2_or (de_v 1) (de_v 2))))
 dss_nil)
 (dss_cons (ds_if (dt_cmp (op2_eq (hu64 hr)) (de_v 0) de_str)
 (dss_one (ds_ret (de_bin op2_xor (de_v 1) (de_v 2))))
 dss_nil)
 (dss_cons (ds_if (dt_cmp (op2_eq (hu64 hr)) (de_v 0) de_str)
 (dss_one (ds_ret (de_callTy bi_int (by rfl) Z.z_int bb_int (da_cons (de_cmp (op2_eq (hu64 hr)) (de_v 1) (de_v 2)) da_nil))))
 dss_nil)
 (dss_cons (ds_if (dt_cmp (op2_eq (hu64 hr)) (de_v 0) de_str)
 (dss_one (ds_ret (de_callTy bi_int (by rfl) Z.z_int bb_int (da_cons (de_cmp op2_lt (de_v 1) (de_v 2)) da_nil))))
 dss_nil)
 (dss_cons (ds_if (dt_cmp (op2_eq (hu64 hr)) (de_v 0) de_str)
 (dss_one (ds_ret (de_ifExp (dt_cmp op2_gt (de_v 2) de_int) de_int (de_bin op2_mod (de_callTy bi_int (by rfl) Z.z_int bb_int (da_cons (de_bin op2_shl (de_v 1) (de_v 2)) da_nil)) de_int))))
 dss_nil)
 (dss_cons (ds_if (dt_cmp (op2_eq (hu64 hr)) (de_v 0) de_str)
 (dss_one (ds_ret (de_ifExp (dt_cmp op2_gt (de_v 2) de_int) de_int (de_bin op2_shr (de_v 1) (de_v 2)))))
 dss_nil)
 (dss_one (ds_ret (de_ifExp (dt_cmp (op2_eq (hu64 hr)) (de_v 2) de_int) (de_v 1) (de_bin op2_mod (de_callTy bi_int (by rfl) Z.z_int bb_int (da_cons (de_v 1) da_nil)) (de_v 2))))))))))))))))
theorem sc__law_met : FnScope ["m", "row", "regs", "memory", "place"] ["m", "row"] (defScope (top 19)) := ⟨rfl, rfl, rfl, by decide +kernel, rfl, by decide +kernel, by decide +kernel⟩
theorem ok__law_met (Z : Zs K mg) (Dx : DefAt K mg "_law_met" "_law_met" (top 19) ["m", "row"]) : Okd P w K mg base CX0 1 "_law_met" 2 m__law_met := by
  unfold m__law_met b__law_met
  exact okd0 (N := ["m", "row", "regs", "memory", "place"]) (l := 0) Dx sc__law_met rfl rfl fun f cdv A outer s H E hr =>
 (dss_cons (ds_par (i := 2) (j := 3) rfl sc__law_met.nd rfl rfl (by decide) rfl rfl (da_cons (de_ix (hu65 hr) (de_v 0) de_str) (da_cons (de_ix (hu65 hr) (de_v 0) de_str) da_nil)))
 (dss_cons (ds_set (i := 4) sc__law_met.nd rfl (by first | exact Or.inl rfl | exact Or.inr rfl) (de_bin op2_mod (de_callTy bi_int (by rfl) Z.z_int bb_int (da_cons (de_bin op2_add (de_ix (hu65 hr) (de_v 2) (de_ix (hu65 hr) (de_v 1) de_int)) (de_ix (hu65 hr) (de_v 1) de_int)) da_nil)) de_int))
 (dss_cons (ds_expr (de_bm bm_append PySem.F.plainAttrs_list PySem.F.slot_list_append PySem.F.type_list_append (de_ix (hu65 hr) (de_v 0) de_str) (da_cons (de_tup (da_cons (de_bin op2_sub (de_ix (hu65 hr) (de_v 0) de_str) de_int) (da_cons (de_v 4) da_nil))) da_nil)))
 (dss_one (ds_if (dt_w (dw_or (dt_cmp op2_ge (de_v 4) (de_callB bi_len (by rfl) Z.z_len bb_len (da_cons (de_v 3) da_nil))) (dw_or1 (dt_w (dw_and (dt_cmp (op2_eq (hu64 hr)) (de_ix (hu65 hr) (de_v 1) de_int) de_str) (dw_and1 (dt_cmp op2_lt (de_v 4) (de_ix (hu65 hr) (de_v 0) de_str))))))))
 (dss_one (ds_put (hu65 hr) (de_v 0) de_str de_str))
 (dss_one (ds_if (dt_cmp (op2_eq (hu64 hr)) (de_ix (hu65 hr) (de_v 1) de_int) de_str)
 (dss_one (ds_put (hu65 hr) (de_v 2) (de_ix (hu65 hr) (de_v 1) de_int) (de_ix (hu65 hr) (de_v 3) (de_v 4))))
 (dss_one (ds_put (hu65 hr) (de_v 3) (de_v 4) (de_ix (hu65 hr) (de_v 2) (de_ix (hu65 hr) (de_v 1) de_int)))))))))))
theorem sc__law_told : FnScope ["m", "row", "regs", "answer"] ["m", "row"] (defScope (top 20)) := ⟨rfl, rfl, rfl, by decide +kernel, rfl, by decide +kernel, by decide +kernel⟩
theorem ok__law_told (Z : Zs K mg) (Dx : DefAt K mg "_law_told" "_law_told" (top 20) ["m", "row"]) : Okd P w K mg base CX0 1 "_law_told" 2 m__law_told := by
  unfold m__law_told b__law_told
  exact okd0 (N := ["m", "row", "regs", "answer"]) (l := 0) Dx sc__law_told rfl rfl fun f cdv A outer s H E hr =>
 (dss_cons (ds_set (i := 2) sc__law_told.nd rfl (by first | exact Or.inl rfl | exact Or.inr rfl) (de_ix (hu65 hr) (de_v 0) de_str))
 (dss_one (ds_if (dt_cmp (op2_eq (hu64 hr)) (de_ix (hu65 hr) (de_v 1) de_int) de_str)
 (dss_one (ds_expr (de_bm bm_append PySem.F.plainAttrs_list PySem.F.slot_list_append PySem.F.type_list_append (de_ix (hu65 hr) (de_v 0) de_str) (da_cons (de_tup (da_cons de_str (da_cons (de_ix (hu65 hr) (de_v 1) de_int) (da_cons (de_ix (hu65 hr) (de_v 2) (de_ix (hu65 hr) (de_v 1) de_int)) da_nil)))) da_nil))))
 (dss_one (ds_if (dt_cmp (op2_eq (hu64 hr)) (de_ix (hu65 hr) (de_v 1) de_int) de_str)
 (dss_one (ds_expr (de_bm bm_append PySem.F.plainAttrs_list PySem.F.slot_list_append PySem.F.type_list_append (de_ix (hu65 hr) (de_v 0) de_str) (da_cons (de_tup (da_cons de_str da_nil)) da_nil))))
 (dss_one (ds_if (dt_cmp (op2_eq (hu64 hr)) (de_ix (hu65 hr) (de_v 0) de_str) (de_callB bi_len (by rfl) Z.z_len bb_len (da_cons (de_ix (hu65 hr) (de_v 0) de_str) da_nil)))
 (dss_one (ds_put (hu65 hr) (de_v 0) de_str de_str))
 (dss_cons (ds_set (i := 3) sc__law_told.nd rfl (by first | exact Or.inl rfl | exact Or.inr rfl) (de_ix (hu65 hr) (de_ix (hu65 hr) (de_v 0) de_str) (de_ix (hu65 hr) (de_v 0) de_str)))
 (dss_cons (ds_putAug (hu65 hr) (de_v 0) de_str de_int op2_iadd)
 (dss_cons (ds_put (hu65 hr) (de_v 2) (de_ix (hu65 hr) (de_v 1) de_int) (de_v 3))
 (dss_one (ds_expr (de_bm bm_append PySem.F.plainAttrs_list PySem.F.slot_list_append PySem.F.type_list_append (de_ix (hu65 hr) (de_v 0) de_str) (da_cons (de_ifExp (dt_cmp (op2_eq (hu64 hr)) (de_ix (hu65 hr) (de_v 1) de_int) de_str) (de_tup (da_cons de_str (da_cons (de_v 3) da_nil))) (de_tup (da_cons (de_ix (hu65 hr) (de_v 1) de_int) (da_cons (de_ix (hu65 hr) (de_v 1) de_int) (da_cons (de_v 3) da_nil))))) da_nil))))))))))))))
theorem sc__law_instruction : FnScope ["m", "row", "kind", "regs"] ["m", "row"] (defScope (top 21)) := ⟨rfl, rfl, rfl, by decide +kernel, rfl, by decide +kernel, by decide +kernel⟩
theorem ok__law_instruction (Z : Zs K mg) (Dx : DefAt K mg "_law_instruction" "_law_instruction" (top 21) ["m", "row"]) (h__law_operate : Okd P w K mg base CX0 1 "_law_operate" 3 m__law_operate) (h__law_met : Okd P w K mg base CX0 1 "_law_met" 2 m__law_met) (h__law_told : Okd P w K mg base CX0 1 "_law_told" 2 m__law_told) : Okd P w K mg base CX0 2 "_law_instruction" 2 m__law_instruction := by
  unfold m__law_instruction b__law_instruction
  exact okd0 (N := ["m", "row", "kind", "regs"]) (l := 1) Dx sc__law_instruction rfl rfl fun f cdv A outer s H E hr =>
 (dss_cons (ds_par (i := 2) (j := 3) rfl sc__law_instruction.nd rfl rfl (by decide) rfl rfl (da_cons (de_ix (hu65 hr) (de_v 1) de_int) (da_cons (de_ix (hu65 hr) (de_v 0) de_str) da_nil)))
 (dss_cons (ds_putAug (hu65 hr) (de_v 0) de_str de_int op2_iadd)
 (dss_cons (ds_if (dt_cmp (op2_eq (hu64 hr)) (de_v 2) de_str)
 (dss_one (ds_put (hu65 hr) (de_v 3) (de_ix (hu65 hr) (de_v 1) de_int) (de_ix (hu65 hr) (de_v 1) de_int)))
 (dss_one (ds_if (dt_cmp (op2_eq (hu64 hr)) (de_v 2) de_str)
 (dss_one (ds_put (hu65 hr) (de_v 3) (de_ix (hu65 hr) (de_v 1) de_int) (de_bin op2_add (de_bin op2_mul (de_ix (hu65 hr) (de_v 1) de_int) de_int) (de_bin op2_mod (de_callTy bi_int (by rfl) Z.z_int bb_int (da_cons (de_ix (hu65 hr) (de_v 3) (de_ix (hu65 hr) (de_v 1) de_int)) da_nil)) de_int))))
 (dss_one (ds_if (dt_cmp (op2_eq (hu64 hr)) (de_v 2) de_str)
 (dss_one (ds_put (hu65 hr) (de_v 3) (de_ix (hu65 hr) (de_v 1) de_int) (de_fnE h__law_operate (hr.mono (by decide)) (by rfl) hx0 (da_cons (de_ix (hu65 hr) (de_v 1) de_int) (da_cons (de_ix (hu65 hr) (de_v 3) (de_ix (hu65 hr) (de_v 1) de_int)) (da_cons (de_ix (hu65 hr) (de_v 3) (de_ix (hu65 hr) (de_v 1) de_int)) da_nil))))))
 (dss_one (ds_if (dt_in (hu65 hr) (de_v 2) (de_tup (da_cons de_str (da_cons de_str da_nil))))
 (dss_one (ds_expr (de_fnE h__law_met (hr.mono (by decide)) (by rfl) hx0 (da_cons (de_v 0) (da_cons (de_v 1) da_nil)))))
 (dss_one (ds_if (dt_cmp (op2_eq (hu64 hr)) (de_v 2) de_str)
 (dss_one (ds_put (hu65 hr) (de_v 0) de_str (de_ix (hu65 hr) (de_v 1) de_int)))
 (dss_one (ds_if (dt_cmp (op2_eq (hu64 hr)) (de_v 2) de_str)
 (dss_one (ds_if (dt_cmp (op2_eq (hu64 hr)) (de_ix (hu65 hr) (de_v 3) (de_ix (hu65 hr) (de_v 1) de_int)) de_int)
 (dss_one (ds_put (hu65 hr) (de_v 0) de_str (de_ix (hu65 hr) (de_v 1) de_int)))
 dss_nil))
 (dss_one (ds_if (dt_cmp (op2_eq (hu64 hr)) (de_v 2) de_str)
 (dss_cons (ds_put (hu65 hr) (de_v 3) (de_ix (hu65 hr) (de_v 1) de_int) (de_ix (hu65 hr) (de_v 0) de_str))
 (dss_one (ds_put (hu65 hr) (de_v 0) de_str (de_ix (hu65 hr) (de_v 1) de_int))))
 (dss_one (ds_if (dt_cmp (op2_eq (hu64 hr)) (de_v 2) de_str)
 (dss_one (ds_put (hu65 hr) (de_v 0) de_str (de_ix (hu65 hr) (de_v 3) (de_ix (hu65 hr) (de_v 1) de_int))))
 (dss_one (ds_if (dt_cmp (op2_eq (hu64 hr)) (de_v 2) de_str)
 (dss_one (ds_put (hu65 hr) (de_v 0) de_str (de_ix (hu65 hr) (de_v 1) de_int)))
 (dss_one (ds_expr (de_fnE h__law_told (hr.mono (by decide)) (by rfl) hx0 (da_cons (de_v 0) (da_cons (de_v 1) da_nil))))))))))))))))))))))
 (dss_one (ds_put (hu65 hr) (de_v 3) de_int de_int)))))
theorem sc__law_code_ran : FnScope ["guest", "answers", "steps", "m", "turn"] ["guest", "answers", "steps"] (defScope (top 22)) := ⟨rfl, rfl, rfl, by decide +kernel, rfl, by decide +kernel, by decide +kernel⟩
theorem ok__law_code_ran (Z : Zs K mg) (Dx : DefAt K mg "_law_code_ran" "_law_code_ran" (top 22) ["guest", "answers", "steps"]) (h__law_machine : Okd P w K mg base CX0 3 "_law_machine" 2 m__law_machine) (h__law_instruction : Okd P w K mg base CX0 2 "_law_instruction" 2 m__law_instruction) : Okd P w K mg base CX0 4 "_law_code_ran" 3 m__law_code_ran := by
  unfold m__law_code_ran b__law_code_ran
  exact okd0 (N := ["guest", "answers", "steps", "m", "turn"]) (l := 3) Dx sc__law_code_ran rfl rfl fun f cdv A outer s H E hr =>
 (dss_cons (ds_set (i := 3) sc__law_code_ran.nd rfl (by first | exact Or.inl rfl | exact Or.inr rfl) (de_fnE h__law_machine (hr.mono (by decide)) (by rfl) hx0 (da_cons (de_v 0) (da_cons (de_v 1) da_nil))))
 (dss_cons (ds_for PassesOwn.never rfl (di_range1 (by rfl) Z.z_range (da_cons (de_v 2) da_nil)) (dg_name (i := 4) sc__law_code_ran.nd rfl (by first | exact Or.inl rfl | exact Or.inr rfl))
 (dss_cons (ds_if (dt_w (dw_and (dt_cmp (op2_eq (hu64 hr)) (de_ix (hu65 hr) (de_v 3) de_str) de_str) (dw_and1 (dt_cmp op2_ge (de_ix (hu65 hr) (de_v 3) de_str) (de_callB bi_len (by rfl) Z.z_len bb_len (da_cons (de_ix (hu65 hr) (de_v 0) de_int) da_nil))))))
 (dss_one (ds_put (hu65 hr) (de_v 3) de_str de_str))
 dss_nil)
 (dss_cons (ds_if (dt_cmp (op2_ne (hu64 hr)) (de_ix (hu65 hr) (de_v 3) de_str) de_str)
 (dss_one ds_break)
 dss_nil)
 (dss_cons (ds_expr (de_bm bm_append PySem.F.plainAttrs_list PySem.F.slot_list_append PySem.F.type_list_append (de_ix (hu65 hr) (de_v 3) de_str) (da_cons (de_tup (da_cons (de_ix (hu65 hr) (de_v 3) de_str) (da_cons (de_un op1_neg de_int) da_nil))) da_nil)))
 (dss_cons (ds_expr (de_fnE h__law_instruction (hr.mono (by decide)) (by rfl) hx0 (da_cons (de_v 3) (da_cons (de_ix (hu65 hr) (de_ix (hu65 hr) (de_v 0) de_int) (de_ix (hu65 hr) (de_v 3) de_str)) da_nil))))
 (dss_one (ds_putAug (hu65 hr) (de_v 3) de_str de_int op2_iadd)))))))
 (dss_cons (ds_if (dt_cmp (op2_eq (hu64 hr)) (de_ix (hu65 hr) (de_v 3) de_str) de_str)
 (dss_one (ds_put (hu65 hr) (de_v 3) de_str de_str))
 dss_nil)
 (dss_one (ds_ret (de_v 3))))))
theorem sc__law_draws : FnScope ["script", "many", "draws", "mixed", "k", "cell", "rest", "turn"] ["script", "many"] (defScope (top 10)) := ⟨rfl, rfl, rfl, by decide +kernel, rfl, by decide +kernel, by decide +kernel⟩
theorem ok__law_draws (Z : Zs K mg) (Dx : DefAt K mg "_law_draws" "_law_draws" (top 10) ["script", "many"]) : Okd P w K mg base CX0 1 "_law_draws" 2 m__law_draws := by
  unfold m__law_draws b__law_draws
  exact okd0 (N := ["script", "many", "draws", "mixed", "k", "cell", "rest", "turn"]) (l := 0) Dx sc__law_draws rfl rfl fun f cdv A outer s H E hr =>
 (dss_cons (ds_set (i := 2) sc__law_draws.nd rfl (by first | exact Or.inl rfl | exact Or.inr rfl) (de_lst da_nil))
 (dss_cons (ds_set (i := 3) sc__law_draws.nd rfl (by first | exact Or.inl rfl | exact Or.inr rfl) de_int)
 (dss_cons (ds_for PassesOwn.never rfl (di_range1 (by rfl) Z.z_range (da_cons (de_callB bi_len (by rfl) Z.z_len bb_len (da_cons (de_v 0) da_nil)) da_nil)) (dg_name (i := 4) sc__law_draws.nd rfl (by first | exact Or.inl rfl | exact Or.inr rfl))
 (dss_cons (ds_set (i := 5) sc__law_draws.nd rfl (by first | exact Or.inl rfl | exact Or.inr rfl) (de_callB bi_abs (by rfl) Z.z_abs bb_abs (da_cons (de_callTy bi_int (by rfl) Z.z_int bb_int (da_cons (de_ix (hu65 hr) (de_v 0) (de_v 4)) da_nil)) da_nil)))
 (dss_cons (ds_set (i := 3) sc__law_draws.nd rfl (by first | exact Or.inl rfl | exact Or.inr rfl) (de_bin op2_mod (de_callTy bi_int (by rfl) Z.z_int bb_int (da_cons (de_bin op2_add (de_bin op2_add (de_bin op2_mul (de_v 3) de_int) (de_bin op2_mod (de_v 5) de_int)) (de_v 4)) da_nil)) de_int))
 (dss_cons (ds_set (i := 6) sc__law_draws.nd rfl (by first | exact Or.inl rfl | exact Or.inr rfl) de_int)
 (dss_cons (ds_if (dt_cmp op2_ge (de_v 5) (de_bin op2_pow de_int de_int))
 (dss_one (ds_set (i := 6) sc__law_draws.nd rfl (by first | exact Or.inl rfl | exact Or.inr rfl) (de_v 5)))
 (dss_cons (ds_expr (de_bm bm_append PySem.F.plainAttrs_list PySem.F.slot_list_append PySem.F.type_list_append (de_v 2) (da_cons (de_bin op2_mod (de_callTy bi_int (by rfl) Z.z_int bb_int (da_cons (de_v 5) da_nil)) de_int) da_nil)))
 (dss_one (ds_expr (de_bm bm_append PySem.F.plainAttrs_list PySem.F.slot_list_append PySem.F.type_list_append (de_v 2) (da_cons (de_bin op2_mod (de_bin op2_mod (de_callTy bi_int (by rfl) Z.z_int bb_int (da_cons (de_bin op2_add (de_bin op2_mul (de_v 3) de_int) de_int) da_nil)) de_int) de_int) da_nil))))))
 (dss_one (ds_for PassesOwn.never rfl (di_range1 (by rfl) Z.z_range (da_cons de_int da_nil)) (dg_name (i := 7) sc__law_draws.nd rfl (by first | exact Or.inl rfl | exact Or.inr rfl))
 (dss_one (ds_if (dt_cmp op2_gt (de_v 6) de_int)
 (dss_cons (ds_expr (de_bm bm_append PySem.F.plainAttrs_list PySem.F.slot_list_append PySem.F.type_list_append (de_v 2) (da_cons (de_bin op2_mod (de_callTy bi_int (by rfl) Z.z_int bb_int (da_cons (de_v 6) da_nil)) de_int) da_nil)))
 (dss_one (ds_set (i := 6) sc__law_draws.nd rfl (by first | exact Or.inl rfl | exact Or.inr rfl) (de_bin op2_fdiv (de_v 6) de_int))))
 dss_nil)))))))))
 (dss_cons (ds_for PassesOwn.never rfl (di_range1 (by rfl) Z.z_range (da_cons (de_v 1) da_nil)) (dg_name (i := 4) sc__law_draws.nd rfl (by first | exact Or.inl rfl | exact Or.inr rfl))
 (dss_cons (ds_set (i := 3) sc__law_draws.nd rfl (by first | exact Or.inl rfl | exact Or.inr rfl) (de_bin op2_mod (de_callTy bi_int (by rfl) Z.z_int bb_int (da_cons (de_bin op2_add (de_bin op2_add (de_bin op2_mul (de_v 3) de_int) (de_v 4)) de_int) da_nil)) de_int))
 (dss_one (ds_expr (de_bm bm_append PySem.F.plainAttrs_list PySem.F.slot_list_append PySem.F.type_list_append (de_v 2) (da_cons (de_bin op2_mod (de_callTy bi_int (by rfl) Z.z_int bb_int (da_cons (de_v 3) da_nil)) de_int) da_nil))))))
 (dss_one (ds_ret (de_slice (de_v 2) do_none (do_some (de_v 1)))))))))
theorem sc__law_is_number : FnScope ["thing", "most"] ["thing", "most"] (defScope (top 23)) := ⟨rfl, rfl, rfl, by decide +kernel, rfl, by decide +kernel, by decide +kernel⟩
theorem ok__law_is_number (Z : Zs K mg) (Dx : DefAt K mg "_law_is_number" "_law_is_number" (top 23) ["thing", "most"]) : Okd P w K mg base CX0 1 "_law_is_number" 2 m__law_is_number := by
  unfold m__law_is_number b__law_is_number
  exact okd0 (N := ["thing", "most"]) (l := 0) Dx sc__law_is_number rfl rfl fun f cdv A outer s H E hr =>
 (dss_one (ds_ret (de_and (de_callB bi_isi (by rfl) Z.z_isinstance bb_isinstance (da_cons (de_v 0) (da_cons (de_ty (by rfl) Z.z_int bb_int) da_nil))) (de_and (de_not (de_callB bi_isi (by rfl) Z.z_isinstance bb_isinstance (da_cons (de_v 0) (da_cons (de_ty (by rfl) Z.z_bool bb_bool) da_nil)))) (de_one (de_chain op2_le op2_lt de_int (de_v 0) (de_v 1)))))))
theorem sc__law_is_instruction : FnScope ["row", "rest", "shapes", "mosts", "letter", "k"] ["row"] (defScope (top 24)) := ⟨rfl, rfl, rfl, by decide +kernel, rfl, by decide +kernel, by decide +kernel⟩
theorem ok__law_is_instruction (Z : Zs K mg) (Dx : DefAt K mg "_law_is_instruction" "_law_is_instruction" (top 24) ["row"]) (h__law_signs : Okd P w K mg base CX0 1 "_law_signs" 0 m__law_signs) (h__law_is_number : Okd P w K mg base CX0 1 "_law_is_number" 2 m__law_is_number) : Okd P w K mg base CX0 2 "_law_is_instruction" 1 m__law_is_instruction := by
  unfold m__law_is_instruction b__law_is_instruction
  exact okd0 (N := ["row", "rest", "shapes", "mosts", "letter", "k"]) (l := 1) Dx sc__law_is_instruction rfl rfl fun f cdv A outer s H E hr =>
 (dss_cons (ds_if (dt_w (dw_or (dt_not (dt_tru (de_callB bi_isi (by rfl) Z.z_isinstance bb_isinstance (da_cons (de_v 0) (da_cons (de_ty (by rfl) Z.z_tuple bb_tuple) da_nil))))) (dw_or (dt_cmp (op2_eq (hu64 hr)) (de_callB bi_len (by rfl) Z.z_len bb_len (da_cons (de_v 0) da_nil)) de_int) (dw_or1 (dt_not (dt_tru (de_callB bi_isi (by rfl) Z.z_isinstance bb_isinstance (da_cons (de_ix (hu65 hr) (de_v 0) de_int) (da_cons (de_ty (by rfl) Z.z_str bb_str) da_nil)))))))))
 (dss_one (ds_ret de_bl))
 dss_nil)
 (dss_cons (ds_set (i := 1) sc__law_is_instruction.nd rfl (by first | exact Or.inl rfl | exact Or.inr rfl) (de_slice (de_v 0) (do_some de_int) do_none))
 (dss_cons (ds_if (dt_cmp (op2_eq (hu64 hr)) (de_ix (hu65 hr) (de_v 0) de_int) de_str)
 (dss_cons (ds_if (dt_w (dw_or (dt_cmp (op2_ne (hu64 hr)) (de_callB bi_len (by rfl) Z.z_len bb_len (da_cons (de_v 0) da_nil)) de_int) (dw_or (dt_not (dt_tru (de_callB bi_isi (by rfl) Z.z_isinstance bb_isinstance (da_cons (de_ix (hu65 hr) (de_v 0) de_int) (da_cons (de_ty (by rfl) Z.z_str bb_str) da_nil))))) (dw_or1 (dt_notIn (hu65 hr) (de_ix (hu65 hr) (de_v 0) de_int) (de_fn0E h__law_signs (hr.mono (by decide)) (by rfl) hx0))))))
 (dss_one (ds_ret de_bl))
 dss_nil)
 (dss_one (ds_set (i := 1) sc__law_is_instruction.nd rfl (by first | exact Or.inl rfl | exact Or.inr rfl) (de_slice (de_v 0) (do_some de_int) do_none))))
 dss_nil)
 (dss_cons (ds_if (dt_cmp (op2_eq (hu64 hr)) (de_ix (hu65 hr) (de_v 0) de_int) de_str)
 (dss_one (ds_ret (de_and (de_cmp (op2_eq (hu64 hr)) (de_callB bi_len (by rfl) Z.z_len bb_len (da_cons (de_v 0) da_nil)) de_int) (de_and (de_callB bi_isi (by rfl) Z.z_isinstance bb_isinstance (da_cons (de_ix (hu65 hr) (de_v 0) de_int) (da_cons (de_ty (by rfl) Z.z_str bb_str) da_nil))) (de_one (de_in (hu65 hr) (de_ix (hu65 hr) (de_v 0) de_int) (de_tup (da_cons de_str (da_cons de_str da_nil)))))))))
 dss_nil)
 (dss_cons (ds_set (i := 2) sc__law_is_instruction.nd rfl (by first | exact Or.inl rfl | exact Or.inr rfl) (de_dict (dps_cons de_str de_str (dps_cons de_str de_str (dps_cons de_str de_str (dps_cons de_str de_str (dps_cons de_str de_str (dps_cons de_str de_str (dps_cons de_str de_str (dps_cons de_str de_str (dps_cons de_str de_str (dps_cons de_str de_str (dps_cons de_str de_str (dps_cons de_str de_str (dps_cons de_str de_str (dps_cons de_str de_str dps_nil))))))))))))))))
 (dss_cons (ds_if (dt_w (dw_or (dt_notIn (hu65 hr) (de_ix (hu65 hr) (de_v 0) de_int) (de_v 2)) (dw_or1 (dt_cmp (op2_ne (hu64 hr)) (de_callB bi_len (by rfl) Z.z_len bb_len (da_cons (de_v 1) da_nil)) (de_callB bi_len (by rfl) Z.z_len bb_len (da_cons (de_ix (hu65 hr) (de_v 2) (de_ix (hu65 hr) (de_v 0) de_int)) da_nil))))))
 (dss_one (ds_ret de_bl))
 dss_nil)
 (dss_cons (ds_set (i := 3) sc__law_is_instruction.nd rfl (by first | exact Or.inl rfl | exact Or.inr rfl) (de_lc (own := [("letter", 4)]) rfl sc__law_is_instruction.nd (di_seq (de_ix (hu65 hr) (de_v 2) (de_ix (hu65 hr) (de_v 0) de_int))) (blkOk_by (own := [("letter", 4)]) (N := ["row", "rest", "shapes", "mosts", "letter", "k"]) (sc := (defScope (top 24))) (by decide +kernel)) (fun _ _ _ _ _ => (dg_name (i := 4) sc__law_is_instruction.nd rfl (by first | exact Or.inl rfl | exact Or.inr rfl))) (fun _ _ _ _ _ => dpt_nil) (fun _ _ _ _ _ => (de_ifExp (dt_cmp (op2_eq (hu64 hr)) (de_v 4) de_str) de_int de_int))))
 (dss_one (ds_ret (de_cmp (op2_eq (hu64 hr)) (de_lc (own := [("k", 5)]) rfl sc__law_is_instruction.nd (di_range1 (by rfl) Z.z_range (da_cons (de_callB bi_len (by rfl) Z.z_len bb_len (da_cons (de_v 1) da_nil)) da_nil)) (blkOk_by (own := [("k", 5)]) (N := ["row", "rest", "shapes", "mosts", "letter", "k"]) (sc := (defScope (top 24))) (by decide +kernel)) (fun _ _ _ _ _ => (dg_name (i := 5) sc__law_is_instruction.nd rfl (by first | exact Or.inl rfl | exact Or.inr rfl))) (fun _ _ _ _ _ => (dpt_one (dt_not (dt_tru (de_fnE h__law_is_number (hr.mono (by decide)) (by rfl) hx0 (da_cons (de_ix (hu65 hr) (de_v 1) (de_v 5)) (da_cons (de_ix (hu65 hr) (de_v 3) (de_v 5)) da_nil))))))) (fun _ _ _ _ _ => (de_v 5))) (de_lst da_nil)))))))))))
theorem sc__law_is_guest : FnScope ["thing", "word", "row"] ["thing"] (defScope (top 25)) := ⟨rfl, rfl, rfl, by decide +kernel, rfl, by decide +kernel, by decide +kernel⟩
theorem ok__law_is_guest (Z : Zs K mg) (Dx : DefAt K mg "_law_is_guest" "_law_is_guest" (top 25) ["thing"]) (h__law_is_number : Okd P w K mg base CX0 1 "_law_is_number" 2 m__law_is_number) (h__law_is_instruction : Okd P w K mg base CX0 2 "_law_is_instruction" 1 m__law_is_instruction) : Okd P w K mg base CX0 3 "_law_is_guest" 1 m__law_is_guest := by
  unfold m__law_is_guest b__law_is_guest
  exact okd0 (N := ["thing", "word", "row"]) (l := 2) Dx sc__law_is_guest rfl rfl fun f cdv A outer s H E hr =>
 (dss_cons (ds_if (dt_w (dw_or (dt_not (dt_tru (de_callB bi_isi (by rfl) Z.z_isinstance bb_isinstance (da_cons (de_v 0) (da_cons (de_ty (by rfl) Z.z_tuple bb_tuple) da_nil))))) (dw_or (dt_cmp (op2_ne (hu64 hr)) (de_callB bi_len (by rfl) Z.z_len bb_len (da_cons (de_v 0) da_nil)) de_int) (dw_or (dt_not (dt_tru (de_callB bi_isi (by rfl) Z.z_isinstance bb_isinstance (da_cons (de_ix (hu65 hr) (de_v 0) de_int) (da_cons (de_ty (by rfl) Z.z_tuple bb_tuple) da_nil))))) (dw_or1 (dt_not (dt_tru (de_callB bi_isi (by rfl) Z.z_isinstance bb_isinstance (da_cons (de_ix (hu65 hr) (de_v 0) de_int) (da_cons (de_ty (by rfl) Z.z_tuple bb_tuple) da_nil))))))))))
 (dss_one (ds_ret de_bl))
 dss_nil)
 (dss_cons (ds_if (dt_w (dw_or (dt_not (dt_chain op2_le op2_le de_int (de_callB bi_len (by rfl) Z.z_len bb_len (da_cons (de_ix (hu65 hr) (de_v 0) de_int) da_nil)) de_int)) (dw_or (dt_not (dt_tru (de_fnE h__law_is_number (hr.mono (by decide)) (by rfl) hx0 (da_cons (de_ix (hu65 hr) (de_v 0) de_int) (da_cons de_int da_nil))))) (dw_or1 (dt_cmp (op2_ne (hu64 hr)) (de_callB bi_len (by rfl) Z.z_len bb_len (da_cons (de_ix (hu65 hr) (de_v 0) de_int) da_nil)) (de_ix (hu65 hr) (de_v 0) de_int))))))
 (dss_one (ds_ret de_bl))
 dss_nil)
 (dss_cons (ds_if (dt_cmp (op2_ne (hu64 hr)) (de_lc (own := [("word", 1)]) rfl sc__law_is_guest.nd (di_seq (de_ix (hu65 hr) (de_v 0) de_int)) (blkOk_by (own := [("word", 1)]) (N := ["thing", "word", "row"]) (sc := (defScope (top 25))) (by decide +kernel)) (fun _ _ _ _ _ => (dg_name (i := 1) sc__law_is_guest.nd rfl (by first | exact Or.inl rfl | exact Or.inr rfl))) (fun _ _ _ _ _ => (dpt_one (dt_not (dt_tru (de_fnE h__law_is_number (hr.mono (by decide)) (by rfl) hx0 (da_cons (de_v 1) (da_cons de_int da_nil))))))) (fun _ _ _ _ _ => (de_v 1))) (de_lst da_nil))
 (dss_one (ds_ret de_bl))
 dss_nil)
 (dss_one (ds_ret (de_cmp (op2_eq (hu64 hr)) (de_lc (own := [("row", 2)]) rfl sc__law_is_guest.nd (di_seq (de_ix (hu65 hr) (de_v 0) de_int)) (blkOk_by (own := [("row", 2)]) (N := ["thing", "word", "row"]) (sc := (defScope (top 25))) (by decide +kernel)) (fun _ _ _ _ _ => (dg_name (i := 2) sc__law_is_guest.nd rfl (by first | exact Or.inl rfl | exact Or.inr rfl))) (fun _ _ _ _ _ => (dpt_one (dt_not (dt_tru (de_fnE h__law_is_instruction (hr.mono (by decide)) (by rfl) hx0 (da_cons (de_v 2) da_nil)))))) (fun _ _ _ _ _ => (de_v 2))) (de_lst da_nil)))))))
theorem sc__law_deeds : FnScope ["guest", "m", "found", "place", "address", "kind"] ["guest", "m"] (defScope (top 26)) := ⟨rfl, rfl, rfl, by decide +kernel, rfl, by decide +kernel, by decide +kernel⟩
theorem ok__law_deeds (Z : Zs K mg) (Dx : DefAt K mg "_law_deeds" "_law_deeds" (top 26) ["guest", "m"]) : Okd P w K mg base CX0 1 "_law_deeds" 2 m__law_deeds := by
  unfold m__law_deeds b__law_deeds
  exact okd0 (N := ["guest", "m", "found", "place", "address", "kind"]) (l := 0) Dx sc__law_deeds rfl rfl fun f cdv A outer s H E hr =>
 (dss_cons (ds_set (i := 2) sc__law_deeds.nd rfl (by first | exact Or.inl rfl | exact Or.inr rfl) (de_lst da_nil))
 (dss_cons (ds_for PassesOwn.never rfl (di_seq (de_ix (hu65 hr) (de_v 1) de_str)) (dg_tup rfl (dgs_cons (dg_name (i := 3) sc__law_deeds.nd rfl (by first | exact Or.inl rfl | exact Or.inr rfl)) (dgs_cons (dg_name (i := 4) sc__law_deeds.nd rfl (by first | exact Or.inl rfl | exact Or.inr rfl)) dgs_nil)))
 (dss_cons (ds_set (i := 5) sc__law_deeds.nd rfl (by first | exact Or.inl rfl | exact Or.inr rfl) (de_ix (hu65 hr) (de_ix (hu65 hr) (de_ix (hu65 hr) (de_v 0) de_int) (de_v 3)) de_int))
 (dss_one (ds_if (dt_cmp op2_ge (de_v 4) de_int)
 (dss_one (ds_expr (de_bm bm_append PySem.F.plainAttrs_list PySem.F.slot_list_append PySem.F.type_list_append (de_v 2) (da_cons (de_tup (da_cons (de_v 5) (da_cons (de_v 4) da_nil))) da_nil))))
 (dss_one (ds_if (dt_notIn (hu65 hr) (de_v 5) (de_tup (da_cons de_str (da_cons de_str (da_cons de_str (da_cons de_str (da_cons de_str (da_cons de_str (da_cons de_str (da_cons de_str (da_cons de_str (da_cons de_str da_nil))))))))))))
 (dss_one (ds_expr (de_bm bm_append PySem.F.plainAttrs_list PySem.F.slot_list_append PySem.F.type_list_append (de_v 2) (da_cons (de_tup (da_cons (de_v 5) da_nil)) da_nil))))
 dss_nil))))))
 (dss_one (ds_ret (de_v 2)))))
theorem sc__law_is_caller : FnScope ["guest", "many", "stride", "m", "base", "due", "k"] ["guest", "many", "stride"] (defScope (top 27)) := ⟨rfl, rfl, rfl, by decide +kernel, rfl, by decide +kernel, by decide +kernel⟩
theorem ok__law_is_caller (Z : Zs K mg) (Dx : DefAt K mg "_law_is_caller" "_law_is_caller" (top 27) ["guest", "many", "stride"]) (h__law_code_ran : Okd P w K mg base CX0 4 "_law_code_ran" 3 m__law_code_ran) (h__law_is_guest : Okd P w K mg base CX0 3 "_law_is_guest" 1 m__law_is_guest) (h__law_deeds : Okd P w K mg base CX0 1 "_law_deeds" 2 m__law_deeds) : Okd P w K mg base CX0 5 "_law_is_caller" 3 m__law_is_caller := by
  unfold m__law_is_caller b__law_is_caller
  exact okd0 (N := ["guest", "many", "stride", "m", "base", "due", "k"]) (l := 4) Dx sc__law_is_caller rfl rfl fun f cdv A outer s H E hr =>
 (dss_cons (ds_if (dt_w (dw_or (dt_not (dt_tru (de_fnE h__law_is_guest (hr.mono (by decide)) (by rfl) hx0 (da_cons (de_v 0) da_nil)))) (dw_or (dt_cmp (op2_ne (hu64 hr)) (de_ix (hu65 hr) (de_v 0) de_int) (de_bin op2_add (de_bin op2_mul (de_v 1) (de_v 2)) de_int)) (dw_or1 (dt_cmp (op2_ne (hu64 hr)) (de_ix (hu65 hr) (de_v 0) de_int) (de_bin op2_mulT (de_tup (da_cons de_int da_nil)) (de_ix (hu65 hr) (de_v 0) de_int)))))))
 (dss_one (ds_ret de_bl))
 dss_nil)
 (dss_cons (ds_set (i := 3) sc__law_is_caller.nd rfl (by first | exact Or.inl rfl | exact Or.inr rfl) (de_fnE h__law_code_ran (hr.mono (by decide)) (by rfl) hx0 (da_cons (de_v 0) (da_cons (de_tup da_nil) (da_cons (de_bin op2_mul de_int (de_bin op2_add (de_bin op2_mul de_int (de_v 1)) de_int)) da_nil)))))
 (dss_cons (ds_set (i := 4) sc__law_is_caller.nd rfl (by first | exact Or.inl rfl | exact Or.inr rfl) (de_bin op2_mul (de_bin op2_fdiv (de_bin op2_add (de_callB bi_len (by rfl) Z.z_len bb_len (da_cons (de_ix (hu65 hr) (de_v 0) de_int) da_nil)) de_int) de_int) de_int))
 (dss_cons (ds_set (i := 5) sc__law_is_caller.nd rfl (by first | exact Or.inl rfl | exact Or.inr rfl) (de_bin op2_add (de_lc (own := [("k", 6)]) rfl sc__law_is_caller.nd (di_range1 (by rfl) Z.z_range (da_cons (de_v 1) da_nil)) (blkOk_by (own := [("k", 6)]) (N := ["guest", "many", "stride", "m", "base", "due", "k"]) (sc := (defScope (top 27))) (by decide +kernel)) (fun _ _ _ _ _ => (dg_name (i := 6) sc__law_is_caller.nd rfl (by first | exact Or.inl rfl | exact Or.inr rfl))) (fun _ _ _ _ _ => dpt_nil) (fun _ _ _ _ _ => (de_tup (da_cons de_str (da_cons (de_bin op2_add (de_v 4) (de_bin op2_mul (de_v 6) (de_v 2))) da_nil))))) (de_lst (da_cons (de_tup (da_cons de_str da_nil)) da_nil))))
 (dss_one (ds_ret (de_cmp (op2_eq (hu64 hr)) (de_slice (de_fnE h__law_deeds (hr.mono (by decide)) (by rfl) hx0 (da_cons (de_v 0) (da_cons (de_v 3) da_nil))) do_none (do_some (de_bin op2_add (de_bin op2_mul de_int (de_v 1)) de_int))) (de_bin op2_add (de_v 5) (de_v 5)))))))))
theorem sc__law_pick : FnScope ["w", "rows"] ["w", "rows"] (defScope (top 12)) := ⟨rfl, rfl, rfl, by decide +kernel, rfl, by decide +kernel, by decide +kernel⟩
theorem ok__law_pick (Z : Zs K mg) (Dx : DefAt K mg "_law_pick" "_law_pick" (top 12) ["w", "rows"]) (h__law_next : Okd P w K mg base CX0 1 "_law_next" 2 m__law_next) : Okd P w K mg base CX0 2 "_law_pick" 2 m__law_pick := by
  unfold m__law_pick b__law_pick
  exact okd0 (N := ["w", "rows"]) (l := 1) Dx sc__law_pick rfl rfl fun f cdv A outer s H E hr =>
 (dss_one (ds_ret (de_ix (hu65 hr) (de_v 1) (de_fnE h__law_next (hr.mono (by decide)) (by rfl) hx0 (da_cons (de_v 0) (da_cons (de_callB bi_len (by rfl) Z.z_len bb_len (da_cons (de_v 1) da_nil)) da_nil))))))
theorem sc__law_word : FnScope ["w", "turn", "high"] ["w"] (defScope (top 13)) := ⟨rfl, rfl, rfl, by decide +kernel, rfl, by decide +kernel, by decide +kernel⟩
theorem ok__law_word (Z : Zs K mg) (Dx : DefAt K mg "_law_word" "_law_word" (top 13) ["w"]) (h__law_next : Okd P w K mg base CX0 1 "_law_next" 2 m__law_next) (h__law_pick : Okd P w K mg base CX0 2 "_law_pick" 2 m__law_pick) : Okd P w K mg base CX0 3 "_law_word" 1 m__law_word := by
  unfold m__law_word b__law_word
  exact okd0 (N := ["w", "turn", "high"]) (l := 2) Dx sc__law_word rfl rfl fun f cdv A outer s H E hr =>
 (dss_cons (ds_set (i := 1) sc__law_word.nd rfl (by first | exact Or.inl rfl | exact Or.inr rfl) (de_fnE h__law_next (hr.mono (by decide)) (by rfl) hx0 (da_cons (de_v 0) (da_cons de_int da_nil))))
 (dss_cons (ds_if (dt_cmp op2_lt (de_v 1) de_int)
 (dss_one (ds_ret (de_fnE h__law_next (hr.mono (by decide)) (by rfl) hx0 (da_cons (de_v 0) (da_cons de_int da_nil)))))
 dss_nil)
 (dss_cons (ds_if (dt_cmp (op2_eq (hu64 hr)) (de_v 1) de_int)
 (dss_one (ds_ret (de_fnE h__law_pick (hr.mono (by decide)) (by rfl) hx0 (da_cons (de_v 0) (da_cons (de_lst (da_cons de_int (da_cons de_int (da_cons de_int (da_cons de_int (da_cons de_int (da_cons de_int (da_cons de_int (da_cons de_int da_nil))))))))) da_nil)))))
 dss_nil)
 (dss_cons (ds_if (dt_cmp (op2_eq (hu64 hr)) (de_v 1) de_int)
 (dss_one (ds_ret (de_bin op2_sub de_int (de_fnE h__law_next (hr.mono (by decide)) (by rfl) hx0 (da_cons (de_v 0) (da_cons de_int da_nil))))))
 dss_nil)
 (dss_cons (ds_if (dt_cmp (op2_eq (hu64 hr)) (de_v 1) de_int)
 (dss_one (ds_ret (de_fnE h__law_next (hr.mono (by decide)) (by rfl) hx0 (da_cons (de_v 0) (da_cons de_int da_nil)))))
 dss_nil)
 (dss_cons (ds_set (i := 2) sc__law_word.nd rfl (by first | exact Or.inl rfl | exact Or.inr rfl) (de_bin op2_add (de_bin op2_mul (de_fnE h__law_next (hr.mono (by decide)) (by rfl) hx0 (da_cons (de_v 0) (da_cons de_int da_nil))) de_int) (de_bin op2_mul (de_fnE h__law_next (hr.mono (by decide)) (by rfl) hx0 (da_cons (de_v 0) (da_cons de_int da_nil))) de_int)))
 (dss_one (ds_ret (de_bin op2_mod (de_callTy bi_int (by rfl) Z.z_int bb_int (da_cons (de_bin op2_add (de_bin op2_mul (de_v 2) de_int) (de_fnE h__law_next (hr.mono (by decide)) (by rfl) hx0 (da_cons (de_v 0) (da_cons de_int da_nil)))) da_nil)) de_int)))))))))
theorem sc__law_is_listener : FnScope ["w", "guest", "at", "many", "answers", "m", "load", "steps"] ["w", "guest", "at", "many"] (defScope (top 28)) := ⟨rfl, rfl, rfl, by decide +kernel, rfl, by decide +kernel, by decide +kernel⟩
theorem ok__law_is_listener (Z : Zs K mg) (Dx : DefAt K mg "_law_is_listener" "_law_is_listener" (top 28) ["w", "guest", "at", "many"]) (h__law_code_ran : Okd P w K mg base CX0 4 "_law_code_ran" 3 m__law_code_ran) (h__law_word : Okd P w K mg base CX0 3 "_law_word" 1 m__law_word) (h__law_is_guest : Okd P w K mg base CX0 3 "_law_is_guest" 1 m__law_is_guest) (h__law_deeds : Okd P w K mg base CX0 1 "_law_deeds" 2 m__law_deeds) : Okd P w K mg base CX0 5 "_law_is_listener" 4 m__law_is_listener := by
  unfold m__law_is_listener b__law_is_listener
  exact okd0 (N := ["w", "guest", "at", "many", "answers", "m", "load", "steps"]) (l := 4) Dx sc__law_is_listener rfl rfl fun f cdv A outer s H E hr =>
 (dss_cons (ds_if (dt_w (dw_or (dt_not (dt_tru (de_fnE h__law_is_guest (hr.mono (by decide)) (by rfl) hx0 (da_cons (de_v 1) da_nil)))) (dw_or (dt_cmp op2_lt (de_ix (hu65 hr) (de_v 1) de_int) (de_bin op2_add (de_v 2) (de_bin op2_mul de_int (de_v 3)))) (dw_or1 (dt_cmp (op2_ne (hu64 hr)) (de_ix (hu65 hr) (de_v 1) de_int) (de_bin op2_mulT (de_tup (da_cons de_int da_nil)) (de_ix (hu65 hr) (de_v 1) de_int)))))))
 (dss_one (ds_ret de_bl))
 dss_nil)
 (dss_cons (ds_set (i := 4) sc__law_is_listener.nd rfl (by first | exact Or.inl rfl | exact Or.inr rfl) (de_tup (da_cons (de_fnE h__law_word (hr.mono (by decide)) (by rfl) hx0 (da_cons (de_v 0) da_nil)) (da_cons (de_fnE h__law_word (hr.mono (by decide)) (by rfl) hx0 (da_cons (de_v 0) da_nil)) da_nil))))
 (dss_cons (ds_set (i := 5) sc__law_is_listener.nd rfl (by first | exact Or.inl rfl | exact Or.inr rfl) (de_fnE h__law_code_ran (hr.mono (by decide)) (by rfl) hx0 (da_cons (de_v 1) (da_cons (de_v 4) (da_cons de_int da_nil)))))
 (dss_cons (ds_set (i := 6) sc__law_is_listener.nd rfl (by first | exact Or.inl rfl | exact Or.inr rfl) (de_tup (da_cons de_str (da_cons (de_bin op2_add (de_bin op2_mul (de_bin op2_fdiv (de_bin op2_add (de_callB bi_len (by rfl) Z.z_len bb_len (da_cons (de_ix (hu65 hr) (de_v 1) de_int) da_nil)) de_int) de_int) de_int) (de_v 2)) da_nil))))
 (dss_cons (ds_if (dt_w (dw_or (dt_cmp (op2_ne (hu64 hr)) (de_fnE h__law_deeds (hr.mono (by decide)) (by rfl) hx0 (da_cons (de_v 1) (da_cons (de_v 5) da_nil))) (de_lst (da_cons (de_v 6) (da_cons (de_tup (da_cons de_str da_nil)) (da_cons (de_tup (da_cons de_str da_nil)) (da_cons (de_v 6) (da_cons (de_tup (da_cons de_str da_nil)) (da_cons (de_tup (da_cons de_str da_nil)) da_nil)))))))) (dw_or1 (dt_notIn (hu65 hr) (de_ix (hu65 hr) (de_v 5) de_str) (de_tup (da_cons de_str (da_cons de_str da_nil)))))))
 (dss_one (ds_ret de_bl))
 dss_nil)
 (dss_cons (ds_if (dt_cmp (op2_ne (hu64 hr)) (de_ix (hu65 hr) (de_v 5) de_str) (de_lst (da_cons (de_tup (da_cons de_str da_nil)) (da_cons (de_tup (da_cons de_str (da_cons (de_ix (hu65 hr) (de_v 4) de_int) da_nil))) (da_cons (de_tup (da_cons de_str (da_cons (de_ix (hu65 hr) (de_v 4) de_int) da_nil))) (da_cons (de_tup (da_cons de_str da_nil)) da_nil))))))
 (dss_one (ds_ret de_bl))
 dss_nil)
 (dss_cons (ds_for PassesOwn.never rfl (di_range1 (by rfl) Z.z_range (da_cons de_int da_nil)) (dg_name (i := 7) sc__law_is_listener.nd rfl (by first | exact Or.inl rfl | exact Or.inr rfl))
 (dss_cons (ds_set (i := 5) sc__law_is_listener.nd rfl (by first | exact Or.inl rfl | exact Or.inr rfl) (de_fnE h__law_code_ran (hr.mono (by decide)) (by rfl) hx0 (da_cons (de_v 1) (da_cons (de_v 4) (da_cons (de_v 7) da_nil)))))
 (dss_one (ds_if (dt_cmp (op2_eq (hu64 hr)) (de_callB bi_len (by rfl) Z.z_len bb_len (da_cons (de_ix (hu65 hr) (de_v 5) de_str) da_nil)) de_int)
 (dss_one (ds_ret (de_cmp (op2_eq (hu64 hr)) (de_ix (hu65 hr) (de_ix (hu65 hr) (de_v 5) de_str) de_int) (de_bin op2_mod (de_callTy bi_int (by rfl) Z.z_int bb_int (da_cons (de_bin op2_sub (de_ix (hu65 hr) (de_v 4) de_int) (de_ix (hu65 hr) (de_v 4) de_int)) da_nil)) de_int))))
 dss_nil))))
 (dss_one (ds_ret de_bl)))))))))
theorem sc_idle : FnScope [] [] (defScope (top 5)) := ⟨rfl, rfl, rfl, by decide +kernel, rfl, by decide +kernel, by decide +kernel⟩
theorem ok_idle (Z : Zs K mg) (Dx : DefAt K mg "idle" "idle" (top 5) []) : Okd P w K mg base CX0 1 "idle" 0 m_idle := by
  unfold m_idle b_idle
  exact okd0 (N := []) (l := 0) Dx sc_idle rfl rfl fun f cdv A outer s H E hr =>
 (dss_one (ds_ret (de_tup (da_cons (de_tup (da_cons (de_tup (da_cons de_str (da_cons de_str da_nil))) da_nil)) (da_cons de_int (da_cons (de_tup da_nil) da_nil))))))
theorem sc_data_base : FnScope ["many"] ["many"] (defScope (top 6)) := ⟨rfl, rfl, rfl, by decide +kernel, rfl, by decide +kernel, by decide +kernel⟩
theorem ok_data_base (Z : Zs K mg) (Dx : DefAt K mg "data_base" "data_base" (top 6) ["many"]) : Okd P w K mg base CX0 1 "data_base" 1 m_data_base := by
  unfold m_data_base b_data_base
  exact okd0 (N := ["many"]) (l := 0) Dx sc_data_base rfl rfl fun f cdv A outer s H E hr =>
 (dss_one (ds_ret (de_bin op2_mul (de_bin op2_fdiv (de_bin op2_sub (de_bin op2_add (de_v 0) (de_cg Z.c_PAGE (by rfl))) de_int) (de_cg Z.c_PAGE (by rfl))) (de_cg Z.c_PAGE (by rfl)))))
theorem sc_caller : FnScope ["many", "stride", "base", "code", "size", "k"] ["many", "stride"] (defScope (top 7)) := ⟨rfl, rfl, rfl, by decide +kernel, rfl, by decide +kernel, by decide +kernel⟩
theorem ok_caller (Z : Zs K mg) (Dx : DefAt K mg "caller" "caller" (top 7) ["many", "stride"]) (h_data_base : Okd P w K mg base CX0 1 "data_base" 1 m_data_base) : Okd P w K mg base CX0 2 "caller" 2 m_caller := by
  unfold m_caller b_caller
  exact okd0 (N := ["many", "stride", "base", "code", "size", "k"]) (l := 1) Dx sc_caller rfl rfl fun f cdv A outer s H E hr =>
 (dss_cons (ds_set (i := 2) sc_caller.nd rfl (by first | exact Or.inl rfl | exact Or.inr rfl) (de_fnE h_data_base (hr.mono (by decide)) (by rfl) hx0 (da_cons (de_bin op2_add (de_v 0) de_int) da_nil)))
 (dss_cons (ds_setLc (i := 3) (own := [("k", 5)]) rfl sc_caller.nd rfl rfl (sw_true rfl rfl rfl (by decide +kernel)) (di_range1 (by rfl) Z.z_range (da_cons (de_v 0) da_nil)) (blkOk_by (own := [("k", 5)]) (N := ["many", "stride", "base", "code", "size", "k"]) (sc := (defScope (top 7))) (by decide +kernel)) (fun _ _ _ _ _ => (dg_name (i := 5) sc_caller.nd rfl (by first | exact Or.inl rfl | exact Or.inr rfl))) (fun _ _ _ _ _ => dpt_nil) (fun _ _ _ _ _ => (de_tup (da_cons de_str (da_cons (de_cg Z.c_LOADED (by rfl)) (da_cons de_int (da_cons (de_bin op2_add (de_v 2) (de_bin op2_mul (de_v 5) (de_v 1))) da_nil)))))))
 (dss_cons (ds_set (i := 3) sc_caller.nd rfl (by first | exact Or.inl rfl | exact Or.inr rfl) (de_bin op2_add (de_v 3) (de_lst (da_cons (de_tup (da_cons de_str da_nil)) (da_cons (de_tup (da_cons de_str (da_cons de_int da_nil))) da_nil)))))
 (dss_cons (ds_set (i := 4) sc_caller.nd rfl (by first | exact Or.inl rfl | exact Or.inr rfl) (de_bin op2_add (de_bin op2_mul (de_v 0) (de_v 1)) de_int))
 (dss_one (ds_ret (de_tup (da_cons (de_callTy bi_tuple (by rfl) Z.z_tuple bb_tuple (da_cons (de_v 3) da_nil)) (da_cons (de_v 4) (da_cons (de_bin op2_mulT (de_tup (da_cons de_int da_nil)) (de_v 4)) da_nil))))))))))
theorem sc_listener : FnScope ["at", "many", "base", "code", "size"] ["at", "many"] (defScope (top 8)) := ⟨rfl, rfl, rfl, by decide +kernel, rfl, by decide +kernel, by decide +kernel⟩
theorem ok_listener (Z : Zs K mg) (Dx : DefAt K mg "listener" "listener" (top 8) ["at", "many"]) (h_data_base : Okd P w K mg base CX0 1 "data_base" 1 m_data_base) : Okd P w K mg base CX0 2 "listener" 2 m_listener := by
  unfold m_listener b_listener
  exact okd0 (N := ["at", "many", "base", "code", "size"]) (l := 1) Dx sc_listener rfl rfl fun f cdv A outer s H E hr =>
 (dss_cons (ds_set (i := 2) sc_listener.nd rfl (by first | exact Or.inl rfl | exact Or.inr rfl) (de_fnE h_data_base (hr.mono (by decide)) (by rfl) hx0 (da_cons de_int da_nil)))
 (dss_cons (ds_set (i := 3) sc_listener.nd rfl (by first | exact Or.inl rfl | exact Or.inr rfl) (de_tup (da_cons (de_tup (da_cons de_str (da_cons (de_cg Z.c_LOADED (by rfl)) (da_cons de_int (da_cons (de_bin op2_add (de_v 2) (de_v 0)) da_nil))))) (da_cons (de_tup (da_cons de_str da_nil)) (da_cons (de_tup (da_cons de_str (da_cons (de_cg Z.c_FIRST (by rfl)) da_nil))) (da_cons (de_tup (da_cons de_str (da_cons (de_cg Z.c_LOADED (by rfl)) (da_cons de_int (da_cons (de_bin op2_add (de_v 2) (de_v 0)) da_nil))))) (da_cons (de_tup (da_cons de_str (da_cons (de_cg Z.c_SECOND (by rfl)) da_nil))) (da_cons (de_tup (da_cons de_str (da_cons de_str (da_cons de_int (da_cons (de_cg Z.c_SECOND (by rfl)) (da_cons (de_cg Z.c_FIRST (by rfl)) da_nil)))))) (da_cons (de_tup (da_cons de_str da_nil)) (da_cons (de_tup (da_cons de_str (da_cons de_str da_nil))) da_nil))))))))))
 (dss_cons (ds_set (i := 4) sc_listener.nd rfl (by first | exact Or.inl rfl | exact Or.inr rfl) (de_bin op2_add (de_bin op2_add (de_v 0) (de_bin op2_mul (de_cg Z.c_PAGE (by rfl)) (de_v 1))) de_int))
 (dss_one (ds_ret (de_tup (da_cons (de_v 3) (da_cons (de_v 4) (da_cons (de_bin op2_mulT (de_tup (da_cons de_int da_nil)) (de_v 4)) da_nil)))))))))
theorem sc_law : FnScope ["script", "w", "many", "stride", "at", "m"] ["script"] (defScope (top 29)) := ⟨rfl, rfl, rfl, by decide +kernel, rfl, by decide +kernel, by decide +kernel⟩
theorem law_ok {P : Program} {w : World} {K : PySem.W.Frag} {mg : Str → Option Value} {base : Heap} {f : Addr} {fd : FuncData} (Z : Zs K mg) (F : Fun K "law" "law" (top 29) f fd) (h__law_next : Okd P w K mg base CX0 1 "_law_next" 2 m__law_next) (h__law_code_ran : Okd P w K mg base CX0 4 "_law_code_ran" 3 m__law_code_ran) (h__law_draws : Okd P w K mg base CX0 1 "_law_draws" 2 m__law_draws) (h__law_is_caller : Okd P w K mg base CX0 5 "_law_is_caller" 3 m__law_is_caller) (h__law_is_listener : Okd P w K mg base CX0 5 "_law_is_listener" 4 m__law_is_listener) (h_idle : Okd P w K mg base CX0 1 "idle" 0 m_idle) (h__law_is_guest : Okd P w K mg base CX0 3 "_law_is_guest" 1 m__law_is_guest) (h_caller : Okd P w K mg base CX0 2 "caller" 2 m_caller) (h_listener : Okd P w K mg base CX0 2 "listener" 2 m_listener) : FnOk P w K mg base CX0 6 f fd ["script"] (spM K mg 1 m_law) := by
  unfold m_law b_law
  exact fn0 (N := ["script", "w", "many", "stride", "at", "m"]) (l := 5) F sc_law rfl rfl fun cdv A outer s H E hr =>
 (dss_cons (ds_set (i := 1) sc_law.nd rfl (by first | exact Or.inl rfl | exact Or.inr rfl) (de_dict (dps_cons de_str (de_fnE h__law_draws (hr.mono (by decide)) (by rfl) hx0 (da_cons (de_v 0) (da_cons de_int da_nil))) (dps_cons de_str de_int dps_nil))))
 (dss_cons (ds_set (i := 2) sc_law.nd rfl (by first | exact Or.inl rfl | exact Or.inr rfl) (de_bin op2_add de_int (de_fnE h__law_next (hr.mono (by decide)) (by rfl) hx0 (da_cons (de_v 1) (da_cons de_int da_nil)))))
 (dss_cons (ds_set (i := 3) sc_law.nd rfl (by first | exact Or.inl rfl | exact Or.inr rfl) (de_bin op2_add de_int (de_fnE h__law_next (hr.mono (by decide)) (by rfl) hx0 (da_cons (de_v 1) (da_cons (de_callB (bi_min2 rfl) (by rfl) Z.z_min bb_min (da_cons de_int (da_cons (de_bin op2_fdiv de_int (de_v 2)) da_nil))) da_nil)))))
 (dss_cons (ds_if (dt_not (dt_tru (de_fnE h__law_is_caller (hr.mono (by decide)) (by rfl) hx0 (da_cons (de_fnE h_caller (hr.mono (by decide)) (by rfl) hx0 (da_cons (de_v 2) (da_cons (de_v 3) da_nil))) (da_cons (de_v 2) (da_cons (de_v 3) da_nil))))))
 (dss_one (ds_ret de_bl))
 dss_nil)
 (dss_cons (ds_set (i := 2) sc_law.nd rfl (by first | exact Or.inl rfl | exact Or.inr rfl) (de_bin op2_add de_int (de_fnE h__law_next (hr.mono (by decide)) (by rfl) hx0 (da_cons (de_v 1) (da_cons de_int da_nil)))))
 (dss_cons (ds_set (i := 4) sc_law.nd rfl (by first | exact Or.inl rfl | exact Or.inr rfl) (de_fnE h__law_next (hr.mono (by decide)) (by rfl) hx0 (da_cons (de_v 1) (da_cons (de_bin op2_add de_int (de_callB (bi_min2 rfl) (by rfl) Z.z_min bb_min (da_cons de_int (da_cons (de_bin op2_sub de_int (de_bin op2_mul de_int (de_v 2))) da_nil)))) da_nil))))
 (dss_cons (ds_if (dt_not (dt_tru (de_fnE h__law_is_listener (hr.mono (by decide)) (by rfl) hx0 (da_cons (de_v 1) (da_cons (de_fnE h_listener (hr.mono (by decide)) (by rfl) hx0 (da_cons (de_v 4) (da_cons (de_v 2) da_nil))) (da_cons (de_v 4) (da_cons (de_v 2) da_nil)))))))
 (dss_one (ds_ret de_bl))
 dss_nil)
 (dss_cons (ds_set (i := 5) sc_law.nd rfl (by first | exact Or.inl rfl | exact Or.inr rfl) (de_fnE h__law_code_ran (hr.mono (by decide)) (by rfl) hx0 (da_cons (de_fn0E h_idle (hr.mono (by decide)) (by rfl) hx0) (da_cons (de_tup da_nil) (da_cons de_int da_nil)))))
 (dss_one (ds_ret (de_and (de_fnE h__law_is_guest (hr.mono (by decide)) (by rfl) hx0 (da_cons (de_fn0E h_idle (hr.mono (by decide)) (by rfl) hx0) da_nil)) (de_and (de_in (hu65 hr) (de_ix (hu65 hr) (de_v 5) de_str) (de_tup (da_cons de_str (da_cons de_str da_nil)))) (de_one (de_cmp (op2_eq (hu64 hr)) (de_ix (hu65 hr) (de_v 5) de_str) (de_lst da_nil)))))))))))))))
end
end Pf

namespace Pf
open PySem L2 PyProof.Rows Mir
local macro_rules | `(tactic| walk_at "mir") => `(tactic| simp -implicitDefEqProofs only [wp_ok, wp_sSeq, seq_nx, seq_rt, seq_ex, kx_seq, kx_mk, kRet_seq, kRet_mk, kRet_fe, kx_fe, fe_ex, seq_bk, seq_ct, wp_sNil, wp_sBreak, wp_sCont, wp_sRetN, wp_sExpr, kExpr_eq, wp_sRet, kRet_eq, wp_sSet, kSet_eq, wp_sSetT, wp_sIf, kIfS_d, kIfS_n, kIfS_t, kIfS_f, wp_sPar, kPar_eq, wp_sPar3, kPar3_eq, r_cix, r_sumT, wp_sAug, kAug_eq, kAug2_eq, wp_sPut, kPut1_eq, kPut2_eq, kPut3_ref, wp_sPutAug, wp_sSlc, kSc1_eq, kSc2_eq, kSc3_eq, kSc4_ref, r_tupR2, r_lstR2, set_app_lt, kPA1_eq, kPA3_eq, wp_sFld, kFld1_eq, wp_sFldAug, kFA0_eq, kFA1_eq, kFA2_eq, wp_sFor, wp_iSeq, kSeq_tup, kSeq_fl, wp_iRg1, kRg1_eq, wp_iRg2, kRg2_eq, wp_iRgC, kRgC_eq,
  wp_eV, kV_some, wp_eC, wp_e2, k2a_eq, k2b_eq, wp_e1, k1_eq, wp_eCall, wp_aNil, wp_aCons, kC1_eq, kC2_eq, wp_eTup, kTup_eq, wp_eLst, kLst_eq, wp_eFn, kFn_eq, wp_tb, kTb_eq, wp_tTru, kTru_bl, wp_tAnd, kAnd_d, kAnd_n, kAnd_t, kAnd_f, wp_tOr, kOr_d, kOr_n, kOr_t, kOr_f, wp_tNot, kNot_eq, wp_eIf, kIf_d, kIf_n, kIf_t, kIf_f, wp_eAnd, kAndV_d, kAndV_n, kAndV_t, kAndV_f, wp_eOr, kOrV_d, kOrV_n, kOrV_t, kOrV_f, wp_eNot, kNotV_bl, wp_eChain, kCh1_eq, kCh2_eq, kCh3_eq, wp_eSl, kSl1_eq, kSl2_eq, kSl3_eq, wp_oNone, wp_oSome, kO_eq, wp_eBm, kBm_eq, kBm2_eq, wp_eBm0, kBm0_eq, wp_eMeth, kMt2_eq, wp_eMake, kMk_eq, kMkI_eq, wp_eDict, wp_pairs_nil, wp_pairs_cons, kP1_eq, kP2_eq, kP3_eq, wp_eLc, wp_allocO, fe_nx, fe_rt,
  r_add, r_addS, r_addT, r_iadd, r_sub, r_mul, r_fdiv, r_mod, r_pow, r_shl, r_shr, r_and, r_or, r_xor, r_neg, r_lt, r_le, r_gt, r_ge, r_eqI, r_eqS, r_eqB, r_neI, r_neS, r_neB, r_isB, r_isNB, r_is0, r_isI, r_isT, r_isNot0, r_isNotI, r_isNotT, r_int, r_intB, r_abs, r_max2, r_min2, r_lenT, r_lenF, r_lenR, kLen_lst, kLen_dk, kOpt_some, r_ixT, r_ixF, r_ixR, kIx_lst, kIx_dkS, kIx_dkI, look_cons, inr_inj, inl_inj, ofS_inj, String.reduceEq, reduceIte, kPutO_dkS, kPutO_dkI, r_append, sl_ref, kPA2_ref, kPAo_dkS, kPAo_dkI, kPA4_ref, kPDo_dkS, kPDo_dkI,
  List.getElem?_cons_zero, List.getElem?_cons_succ, List.set_cons_zero, List.set_cons_succ, List.length_cons, List.length_nil, List.map_cons, List.map_nil, List.cons_append, List.nil_append, List.replicate_succ, List.replicate_zero, decide_eq_true_eq, decide_eq_false_iff_not, decide_true, decide_false, Bool.not_true, Bool.not_false, Nat.reduceAdd, tyD_ref, beq_self_eq_true, Int.zero_add, Int.mul_one, Int.toNat_natCast, Nat.zero_add, wp_mkFn, eq_self, eq_self, r_fld, kFldO_ins, lk_nil, lk_cons, kFld2_ref, kFA3_ref, kFlO_ins, kMt_ref, kMtO_ins, kMtM_some, putA_nil, putA_cons, mem_one, mem_two, mem_three, or_true, true_or, kLsO_lst, r_pop0, r_popAt0, r_insert, r_extend, r_tupR, r_tupT, r_tupF, r_listR, r_listT, r_listF, r_addR, kSeq_refO, set_get, set_get', set_same, List.take_zero, List.drop_zero, r_mulR, List.flatten_replicate_singleton, wipe_nil, wipe_cons, wp_tYes, kSetT_ref, kSetT_tup, kSetT_nm, setG_nil, setG_cons, atI_0, atI_1, atI_2, atI_3, atI_4, atI_5, atI_6, atI_7, List.length_set, List.set_set, List.getElem?_append_left, List.head?_cons, List.tail_cons, sz_le, sz_lt, Nat.reduceLeDiff, Nat.reduceLT, Nat.reduceSub, lim64_of, lim62_of, cMod_of, cDiv_of, cNn_of, cPow_of, Int.reduceLT, Int.reduceLE, Int.reduceNeg, Int.reduceToNat, Int.reduceAdd, r_inT, r_ninT, flat_int, flat_str, flat_bl, eqF_int, eqF_str, dec_or, List.all_cons, List.all_nil, List.any_cons, List.any_nil, Bool.and_self, Bool.and_true, Bool.or_false, Bool.false_or, Bool.true_or, Bool.or_true, r_isi, kIsi_some, tyN_non, tyN_bl, tyN_int, tyN_str, tyN_tup, tyN_fl, tyN_ref, tyO_lst, tyO_dk, subN_int, subN_bool, subN_str, subN_tuple, subN_list, subN_dict, Option.bind_some, String.reduceBEq, r_isS, r_isBl, r_isR, r_isF, r_isNotS, r_isNotBl, r_isNotR, r_isNotF, reduceCtorEq, kDict_dk, kDk_some, keysD_nil, keysD_s, keysD_i, Option.map_some, dmerge_def, List.foldl_cons, List.foldl_nil, dput_nil, dput_n, dput_h, List.forall_mem_cons, List.not_mem_nil, true_imp_iff, false_imp_iff, implies_true, ne_eq, not_false_eq_true, not_true_eq_false, get_app, get_app0, set_app, set_app0, get_appE, get_appE0, set_appE, set_appE0, List.length_map, List.length_append, List.append_assoc, Nat.add_assoc, Nat.reduceEqDiff, true_and, and_true])
local macro_rules | `(tactic| walk_at "mirs") => `(tactic| simp -implicitDefEqProofs only [wp_ok, wp_sSeq, seq_nx, seq_rt, seq_ex, kx_seq, kx_mk, kRet_seq, kRet_mk, kRet_fe, kx_fe, fe_ex, seq_bk, seq_ct, wp_sNil, wp_sBreak, wp_sCont, wp_sRetN, wp_sExpr, kExpr_eq, wp_sRet, kRet_eq, wp_sSet, kSet_eq, wp_sSetT, wp_sIf, kIfS_d, kIfS_n, kIfS_t, kIfS_f, wp_sPar, kPar_eq, wp_sPar3, kPar3_eq, r_cix, r_sumT, wp_sAug, kAug_eq, kAug2_eq, wp_sPut, kPut1_eq, kPut2_eq, kPut3_ref, wp_sPutAug, wp_sSlc, kSc1_eq, kSc2_eq, kSc3_eq, kSc4_ref, r_tupR2, r_lstR2, set_app_lt, kPA1_eq, kPA3_eq, wp_sFld, kFld1_eq, wp_sFldAug, kFA0_eq, kFA1_eq, kFA2_eq, wp_sFor, wp_iSeq, kSeq_tup, kSeq_fl, wp_iRg1, kRg1_eq, wp_iRg2, kRg2_eq, wp_iRgC, kRgC_eq,
  wp_eV, kV_some, wp_eC, wp_e2, k2a_eq, k2b_eq, wp_e1, k1_eq, wp_eCall, wp_aNil, wp_aCons, kC1_eq, kC2_eq, wp_eTup, kTup_eq, wp_eLst, kLst_eq, wp_eFn, kFn_eq, wp_tb, kTb_eq, wp_tTru, kTru_bl, wp_tAnd, kAnd_d, kAnd_n, kAnd_t, kAnd_f, wp_tOr, kOr_d, kOr_n, kOr_t, kOr_f, wp_tNot, kNot_eq, wp_eIf, kIf_d, kIf_n, kIf_t, kIf_f, wp_eAnd, kAndV_d, kAndV_n, kAndV_t, kAndV_f, wp_eOr, kOrV_d, kOrV_n, kOrV_t, kOrV_f, wp_eNot, kNotV_bl, wp_eChain, kCh1_eq, kCh2_eq, kCh3_eq, wp_eSl, kSl1_eq, kSl2_eq, kSl3_eq, wp_oNone, wp_oSome, kO_eq, wp_eBm, kBm_eq, kBm2_eq, wp_eBm0, kBm0_eq, wp_eMeth, kMt2_eq, wp_eMake, kMk_eq, kMkI_eq, wp_eDict, wp_pairs_nil, wp_pairs_cons, kP1_eq, kP2_eq, kP3_eq, wp_eLc, wp_allocO, fe_nx, fe_rt,
  r_add, r_addS, r_addT, r_iadd, r_sub, r_mul, r_fdiv, r_mod, r_pow, r_shl, r_shr, r_and, r_or, r_xor, r_neg, r_lt, r_le, r_gt, r_ge, r_eqI, r_eqS, r_eqB, r_neI, r_neS, r_neB, r_isB, r_isNB, r_is0, r_isI, r_isT, r_isNot0, r_isNotI, r_isNotT, r_int, r_intB, r_abs, r_max2, r_min2, r_lenT, r_lenF, r_lenR, kLen_lst, kLen_dk, kOpt_some, r_ixT, r_ixF, r_ixR, kIx_lst, kIx_dkS, kIx_dkI, look_cons, inr_inj, inl_inj, ofS_inj, String.reduceEq, reduceIte, kPutO_dkS, kPutO_dkI, r_append, sl_ref, kPA2_ref, kPAo_dkS, kPAo_dkI, kPA4_ref, kPDo_dkS, kPDo_dkI,
  List.getElem?_cons_zero, List.getElem?_cons_succ, List.set_cons_zero, List.set_cons_succ, List.length_cons, List.length_nil, List.map_cons, List.map_nil, List.cons_append, List.nil_append, List.replicate_succ, List.replicate_zero, decide_eq_true_eq, decide_eq_false_iff_not, decide_true, decide_false, Bool.not_true, Bool.not_false, Nat.reduceAdd, tyD_ref, beq_self_eq_true, Int.zero_add, Int.mul_one, Int.toNat_natCast, Nat.zero_add, wp_mkFn, eq_self, eq_self, r_fld, kFldO_ins, lk_nil, lk_cons, kFld2_ref, kFA3_ref, kFlO_ins, kMt_ref, kMtO_ins, kMtM_some, putA_nil, putA_cons, mem_one, mem_two, mem_three, or_true, true_or, kLsO_lst, r_pop0, r_popAt0, r_insert, r_extend, r_tupR, r_tupT, r_tupF, r_listR, r_listT, r_listF, r_addR, kSeq_refO, set_get, set_get', set_same, List.take_zero, List.drop_zero, r_mulR, List.flatten_replicate_singleton, wipe_nil, wipe_cons, wp_tYes, kSetT_ref, kSetT_tup, kSetT_nm, setG_nil, setG_cons, atI_0, atI_1, atI_2, atI_3, atI_4, atI_5, atI_6, atI_7, List.length_set, List.set_set, List.getElem?_append_left, List.head?_cons, List.tail_cons, sz_le, sz_lt, Nat.reduceLeDiff, Nat.reduceLT, Nat.reduceSub, lim64_of, lim62_of, cMod_of, cDiv_of, cNn_of, cPow_of, Int.reduceLT, Int.reduceLE, Int.reduceNeg, Int.reduceToNat, Int.reduceAdd, r_inT, r_ninT, flat_int, flat_str, flat_bl, eqF_int, eqF_str, dec_or, List.all_cons, List.all_nil, List.any_cons, List.any_nil, Bool.and_self, Bool.and_true, Bool.or_false, Bool.false_or, Bool.true_or, Bool.or_true, r_isi, kIsi_some, tyN_non, tyN_bl, tyN_int, tyN_str, tyN_tup, tyN_fl, tyN_ref, tyO_lst, tyO_dk, subN_int, subN_bool, subN_str, subN_tuple, subN_list, subN_dict, Option.bind_some, String.reduceBEq, r_isS, r_isBl, r_isR, r_isF, r_isNotS, r_isNotBl, r_isNotR, r_isNotF, reduceCtorEq, kDict_dk, kDk_some, keysD_nil, keysD_s, keysD_i, Option.map_some, dmerge_def, List.foldl_cons, List.foldl_nil, dput_nil, dput_n, dput_h, List.forall_mem_cons, List.not_mem_nil, true_imp_iff, false_imp_iff, implies_true, ne_eq, not_false_eq_true, not_true_eq_false, get_app, get_app0, set_app, set_app0, get_appE, get_appE0, set_appE, set_appE0, List.length_map, List.length_append, List.append_assoc, Nat.add_assoc, Nat.reduceEqDiff, true_and, and_true, *])
local macro_rules | `(tactic| walk_at "sd") => `(tactic| first | with_reducible rfl | decide | (have hSZ : SZ = 16777216 := rfl; first | exact cMod_of (by omega) | exact lim64_l (by omega) (by omega) | exact lim64_r (by omega) (by omega) | exact cNn_of (by omega) | exact cDiv_of (by omega) (by omega) | exact cPow_of (by omega) (by omega) (by omega) (by omega) | exact lim62_of (by omega) (by omega) | exact lim64_of (by omega) (by omega) | omega | ((try simp only [List.length_map, List.length_append, List.length_cons, List.length_nil] at *); (have hSZ : SZ = 16777216 := rfl); omega)))
local macro_rules | `(tactic| walk_at "side") => `(tactic| repeat (with_reducible refine And.intro (by walk_at "sd") ?_))

section
/-! ### the draws -/
/-- the store with the draws at n, their dict at iw -/
structure DrawSt (S : ST) (iw n : Nat) : Prop where
  ne : iw ≠ n
  ex : ∃ (a : Int) (xs : List Int), S[iw]? = some (.dk [(.inr "draws", .ref n), (.inr "at", .int a)]) ∧ S[n]? = some (.lst (xs.map D.int)) ∧ 0 ≤ a ∧ (∀ x ∈ xs, 0 ≤ x) ∧ xs.length < SZ
/-- all but the draws' place stands as it was -/
structure Fr (iw : Nat) (S S' : ST) : Prop where
  le : S.length ≤ S'.length
  eq : ∀ i, i ≠ iw → i < S.length → S'[i]? = S[i]?
theorem Fr.refl (iw : Nat) (S : ST) : Fr iw S S := ⟨Nat.le_refl _, fun _ _ _ => rfl⟩
theorem Fr.trans {iw : Nat} {S S1 S2 : ST} (a : Fr iw S S1) (b : Fr iw S1 S2) : Fr iw S S2 := ⟨Nat.le_trans a.le b.le, fun i h1 h2 => (b.eq i h1 (Nat.lt_of_lt_of_le h2 a.le)).trans (a.eq i h1 h2)⟩
theorem Fr.app (iw : Nat) (S T : ST) : Fr iw S (S ++ T) := ⟨by simp, fun i _ h => List.getElem?_append_left h⟩
theorem Fr.set (iw : Nat) (S : ST) (o : O) : Fr iw S (S.set iw o) := ⟨by simp, fun i h _ => List.getElem?_set_ne (Ne.symm h)⟩
theorem Fr.get {iw : Nat} {S S' : ST} (f : Fr iw S S') {i : Nat} {o : O} (h : i ≠ iw) (e : S[i]? = some o) : S'[i]? = some o := by rw [f.eq i h (List.getElem?_eq_some_iff.mp e).1]; exact e
theorem DrawSt.fr {S S' : ST} {iw n : Nat} (d : DrawSt S iw n) (h : S'[iw]? = S[iw]?) (f : Fr iw S S') : DrawSt S' iw n := by
  obtain ⟨ne, a, xs, h1, h2, h3⟩ := d
  exact ⟨ne, a, xs, h.trans h1, f.get (Ne.symm ne) h2, h3⟩
theorem DrawSt.app {S : ST} {iw n : Nat} (d : DrawSt S iw n) (T : ST) : DrawSt (S ++ T) iw n := by
  refine d.fr ?_ (.app iw S T)
  obtain ⟨_, a, xs, h1, _⟩ := d
  rw [List.getElem?_append_left (List.getElem?_eq_some_iff.mp h1).1]
theorem next_ok {S : ST} {iw n : Nat} (d : DrawSt S iw n) {many : Int} (hm : 0 < many) :
    ∃ (v : Int) (S' : ST), m__law_next [.ref iw, .int many] S = .ok (.int v) S' ∧ 0 ≤ v ∧ v < many ∧ DrawSt S' iw n ∧ Fr iw S S' := by
  obtain ⟨ne, a, xs, h1, h2, h3, h4, h5⟩ := d
  suffices h : wpR (m__law_next [.ref iw, .int many] S) (fun r S' => ∃ v : Int, r = .int v ∧ 0 ≤ v ∧ v < many ∧ DrawSt S' iw n ∧ Fr iw S S') (fun _ _ _ => False) by
    obtain ⟨r, S', e, v, rfl, q⟩ := wpR_eq h
    exact ⟨v, S', e, q⟩
  have hl : iw < S.length := (List.getElem?_eq_some_iff.mp h1).1
  unfold m__law_next
  walk_at "mir"
  unfold b__law_next
  walk_at "mirs"
  generalize hS : S.set iw (.dk [(Sum.inr (Str.ofString "draws"), D.ref n), (Sum.inr (Str.ofString "at"), D.int (a + 1))]) = S1
  have g1 : S1[iw]? = some (.dk [(Sum.inr (Str.ofString "draws"), D.ref n), (Sum.inr (Str.ofString "at"), D.int (a + 1))]) := by rw [← hS]; exact set_same hl
  have g2 : S1[n]? = some (.lst (xs.map D.int)) := by rw [← hS, set_get (Ne.symm ne)]; exact h2
  have dS : DrawSt S1 iw n := ⟨ne, a + 1, xs, g1, g2, by omega, h4, h5⟩
  have fS : Fr iw S S1 := by rw [← hS]; exact .set _ _ _
  walk_at "mirs"
  refine ⟨fun _ => ⟨0, rfl, Int.le_refl _, hm⟩, fun c => ?_⟩
  have ha : a.toNat < xs.length := by omega
  rw [atI_pos (by omega) (by rw [List.length_map]; omega), show (a + 1 - 1).toNat = a.toNat by omega, List.getElem?_map, List.getElem?_eq_getElem ha, Option.map_some]
  walk_at "mirs"
  walk_at "side"
  exact ⟨_, rfl, Int.emod_nonneg _ (by omega), Int.emod_lt_of_pos _ hm⟩
theorem next_w {S : Mir.ST} {iw n : Nat} (d : DrawSt S iw n) {many : Int} (hm : 0 < many) {Q : D → Mir.ST → Prop} {X : XQ} (k : ∀ (v : Int) (S' : Mir.ST), 0 ≤ v → v < many → DrawSt S' iw n → Fr iw S S' → Q (.int v) S') : wpR (m__law_next [.ref iw, .int many] S) Q X := by
  obtain ⟨v, S', e, h0, h1, hd, hf⟩ := next_ok d hm
  exact wpR_of ⟨_, _, e, k v S' h0 h1 hd hf⟩

theorem nat_int (j : Int) (h : 0 ≤ j) : ((j.toNat : Nat) : Int) = j := Int.toNat_of_nonneg h
theorem abs_nn (c : Int) : 0 ≤ (if c < 0 then -c else c) := by split <;> omega
theorem cut_map (xs : List Int) (lo hi : Option Int) : ∃ ys : List Int, Mir.cutD (xs.map D.int) lo hi = ys.map D.int ∧ (∀ y ∈ ys, y ∈ xs) ∧ ys.length ≤ xs.length := by
  unfold Mir.cutD
  rw [← List.map_drop, ← List.map_take]
  exact ⟨_, rfl, fun y h => List.mem_of_mem_drop (List.mem_of_mem_take h), by rw [List.length_take, List.length_drop]; omega⟩
theorem in_loop {K : Kt} {a0 a1 a3 a4 a5 g7 : Option D} (S0 : Mir.ST) (xs : List Int) (r : Int) (B : Nat) (hr : 0 ≤ r) (hx : ∀ x ∈ xs, 0 ≤ x) (hl : xs.length ≤ B) (hB : B + 60 < SZ)
    (k : ∀ (xs : List Int) (r : Int) (g7 : Option D), (∀ x ∈ xs, 0 ≤ x) → xs.length ≤ B + 60 → K.nx [a0, a1, some (D.ref S0.length), a3, a4, a5, some (.int r), g7] (S0 ++ [.lst (xs.map D.int)])) :
    kFor (.nm 7) (sIf (tb (e2 mGt (eV 6) (eC (.int 0)))) (sSeq (sExpr (eBm "list" bAppend (eV 2) (aCons (e2 mMod (eCall bInt (aCons (eV 6) aNil)) (eC (.int 997))) aNil))) (sSet 6 (e2 mFDiv (eV 6) (eC (.int 997))))) sNil)
      K [a0, a1, some (D.ref S0.length), a3, a4, a5, some (.int r), g7] ⟨rngD 0 1 60, none⟩ (S0 ++ [.lst (xs.map D.int)]) := by
  refine for_rng (fun i G S => ∃ (r : Int) (xs : List Int) (g7 : Option D), G = [a0, a1, some (D.ref S0.length), a3, a4, a5, some (.int r), g7] ∧ S = S0 ++ [.lst (xs.map D.int)] ∧ 0 ≤ r ∧ (∀ x ∈ xs, 0 ≤ x) ∧ xs.length ≤ B + i) ?_ ?_ ?_
  · exact ⟨r, xs, g7, rfl, rfl, hr, hx, by omega⟩
  · intro G S hP
    obtain ⟨r, xs, g7, hG, hS, h0, hx, hl⟩ := hP
    rw [hG, hS]
    exact k xs r g7 hx hl
  · clear hl hx hr g7 r xs
    intro i G S hi hP
    obtain ⟨r, xs, g7, hG, hS, h0, hx, hl⟩ := hP
    rw [hG, hS]
    clear hG hS
    refine ⟨_, rfl, ?_⟩
    walk_at "mir"
    refine ⟨fun hb => ?_, fun hb => ⟨r, xs, _, rfl, rfl, h0, hx, by omega⟩⟩
    walk_at "side"
    refine ⟨r / 997, xs ++ [r % 997], _, rfl, by rw [List.map_append]; rfl, by omega, ?_, by rw [List.length_append, List.length_singleton]; omega⟩
    intro x hx2
    rcases List.mem_append.mp hx2 with h | h
    · exact hx x h
    · rw [List.mem_singleton.mp h]; omega
theorem draws_ok (ns : List Int) (h63 : ns.length ≤ 63) (many : Nat) (hm : many ≤ 1000) (S0 : Mir.ST) :
    ∃ (n : Nat) (xs : List Int) (S' : Mir.ST), m__law_draws [.fl (ns.map D.int), .int many] S0 = .ok (.ref n) S' ∧ S'[n]? = some (.lst (xs.map D.int)) ∧ (∀ x ∈ xs, 0 ≤ x) ∧ xs.length < SZ ∧ S0.length ≤ n ∧ ∃ T, S' = S0 ++ T := by
  suffices h : wpR (m__law_draws [.fl (ns.map D.int), .int many] S0) (fun r S' => ∃ (n : Nat) (xs : List Int), r = .ref n ∧ S'[n]? = some (.lst (xs.map D.int)) ∧ (∀ x ∈ xs, 0 ≤ x) ∧ xs.length < SZ ∧ S0.length ≤ n ∧ ∃ T, S' = S0 ++ T) (fun _ _ _ => False) by
    obtain ⟨r, S', e, h2⟩ := wpR_eq h
    obtain ⟨n, xs, e2, q⟩ := h2
    rw [e2] at e
    exact ⟨n, xs, S', e, q⟩
  unfold m__law_draws
  walk_at "mir"
  unfold b__law_draws
  walk_at "mir"
  walk_at "side"
  refine for_rng (fun i G S => ∃ (m : Int) (xs : List Int) (g4 g5 g6 g7 : Option D), G = [some (.fl (ns.map D.int)), some (.int many), some (.ref S0.length), some (.int m), g4, g5, g6, g7] ∧ S = S0 ++ [.lst (xs.map D.int)] ∧ 0 ≤ m ∧ m < 65537 ∧ (∀ x ∈ xs, 0 ≤ x) ∧ xs.length ≤ 62 * i) ?_ ?_ ?_
  · exact ⟨7, [], _, _, _, _, rfl, rfl, by omega, by omega, by simp, by simp⟩
  · intro G S hP
    rw [seq_nx]
    obtain ⟨m, xs, g4, g5, g6, g7, hG, hS, h0, h1, hx, hl⟩ := hP
    rw [hG, hS]
    clear hG hS
    walk_at "mir"
    walk_at "side"
    refine for_rng (fun i G S => ∃ (m : Int) (xs : List Int) (g4 : Option D), G = [some (.fl (ns.map D.int)), some (.int many), some (.ref S0.length), some (.int m), g4, g5, g6, g7] ∧ S = S0 ++ [.lst (xs.map D.int)] ∧ 0 ≤ m ∧ m < 65537 ∧ (∀ x ∈ xs, 0 ≤ x) ∧ xs.length ≤ 62 * 63 + i) ?_ ?_ ?_
    · exact ⟨m, xs, g4, rfl, rfl, h0, h1, hx, by omega⟩
    · clear h0 h1 hx hl m xs g4
      intro G S hP
      rw [seq_nx]
      obtain ⟨m, xs, g4, hG, hS, h0, h1, hx, hl⟩ := hP
      rw [hG, hS]
      clear hG hS
      walk_at "mir"
      obtain ⟨ys, hy, hy2, hy3⟩ := cut_map xs none (some (many : Int))
      rw [hy]
      refine ⟨_, ys, rfl, by simp, fun x h => hx x (hy2 x h), by unfold SZ; omega, by simp, [.lst (xs.map D.int), .lst (ys.map D.int)], by simp⟩
    · clear h0 h1 hx hl m xs g4
      intro i G S hi hP
      obtain ⟨m, xs, g4, hG, hS, h0, h1, hx, hl⟩ := hP
      rw [hG, hS]
      clear hG hS
      refine ⟨_, rfl, ?_⟩
      walk_at "mir"
      walk_at "side"
      refine ⟨(m * 16807 + i + 1) % 65537, xs ++ [(m * 16807 + i + 1) % 65537 % 997], _, rfl, by rw [List.map_append]; rfl, by omega, by omega, ?_, by rw [List.length_append, List.length_singleton]; omega⟩
      intro x hx2
      rcases List.mem_append.mp hx2 with h | h
      · exact hx x h
      · rw [List.mem_singleton.mp h]; omega
  · intro i G S hi hP
    obtain ⟨m, xs, g4, g5, g6, g7, hG, hS, h0, h1, hx, hl⟩ := hP
    rw [hG, hS]
    clear hG hS
    have hi2 : i < ns.length := by omega
    refine ⟨_, rfl, ?_⟩
    walk_at "mir"
    rw [atI_pos (by omega) (by rw [List.length_map]; omega), Int.toNat_natCast, List.getElem?_map, List.getElem?_eq_getElem hi2, Option.map_some]
    generalize ns[i] = c
    walk_at "mir"
    have hc := abs_nn c
    generalize (if c < 0 then -c else c) = c1 at hc ⊢
    generalize hm1 : (m * 48271 + c1 % 1000003 + i) % 65537 = m1
    walk_at "side"
    constructor
    · intro hb
      exact in_loop S0 xs c1 (62 * i + 2) hc hx (by omega) (by unfold SZ; omega) fun ys r g7 hy hz => ⟨m1, ys, _, _, _, _, rfl, rfl, by omega, by omega, hy, by omega⟩
    · intro hb
      walk_at "side"
      have e : List.map D.int xs ++ [D.int (c1 % 997), D.int ((m1 * 69621 + 5) % 65521 % 997)] = (xs ++ [c1 % 997, (m1 * 69621 + 5) % 65521 % 997]).map D.int := by simp
      rw [e]
      refine in_loop S0 _ 0 (62 * i + 2) (by omega) ?_ (by rw [List.length_append]; show _ + 2 ≤ _; omega) (by unfold SZ; omega) fun ys r g7 hy hz => ⟨m1, ys, _, _, _, _, rfl, rfl, by omega, by omega, hy, by omega⟩
      intro x hx2
      rcases List.mem_append.mp hx2 with h | h
      · exact hx x h
      · simp only [List.mem_cons, List.not_mem_nil, or_false] at h
        rcases h with rfl | rfl <;> omega

theorem pick_w {S : Mir.ST} {iw n m : Nat} {ds : List D} (d : DrawSt S iw n) (hm : m ≠ iw) (hl : S[m]? = some (.lst ds)) (hp : 0 < ds.length) {Q : D → Mir.ST → Prop} {X : XQ} (k : ∀ (v : D) (S' : Mir.ST), v ∈ ds → DrawSt S' iw n → Fr iw S S' → Q v S') : wpR (m__law_pick [.ref iw, .ref m] S) Q X := by
  unfold m__law_pick
  walk_at "mir"
  unfold b__law_pick
  walk_at "mirs"
  refine next_w d (by omega) fun v S' h0 h1 hd hf => ?_
  have hl2 := hf.get hm hl
  walk_at "mirs"
  rw [atI_pos h0 h1]
  have h2 : v.toNat < ds.length := by omega
  rw [List.getElem?_eq_getElem h2]
  exact k _ _ (List.getElem_mem h2) hd hf

theorem word_w {S : Mir.ST} {iw n : Nat} (d : DrawSt S iw n) {Q : D → Mir.ST → Prop} {X : XQ} (k : ∀ (v : Int) (S' : Mir.ST), 0 ≤ v → v < 4294967296 → DrawSt S' iw n → Fr iw S S' → Q (.int v) S') : wpR (m__law_word [.ref iw] S) Q X := by
  unfold m__law_word
  walk_at "mir"
  unfold b__law_word
  walk_at "mir"
  refine next_w d (by omega) fun v S1 h0 h1 d1 f1 => ?_
  walk_at "mir"
  refine ⟨fun _ => next_w d1 (by omega) fun v S2 h0 h1 d2 f2 => ?_, fun _ => ⟨fun _ => ?_, fun _ => ⟨fun _ => next_w d1 (by omega) fun v S2 h0 h1 d2 f2 => ?_, fun _ => ⟨fun _ => next_w d1 (by omega) fun v S2 h0 h1 d2 f2 => ?_, fun _ => next_w d1 (by omega) fun u S2 h0 h1 d2 f2 => ?_⟩⟩⟩⟩
  · exact k v S2 h0 (by omega) d2 (f1.trans f2)
  · refine pick_w (d1.app _) ?_ (List.getElem?_concat_length ..) ?_ fun v S2 hv d2 f2 => ?_
    · obtain ⟨_, a, xs, h, _⟩ := d1
      have := (List.getElem?_eq_some_iff.mp h).1
      omega
    · exact Nat.zero_lt_succ _
    · simp only [List.mem_cons, List.not_mem_nil, or_false] at hv
      rcases hv with rfl | rfl | rfl | rfl | rfl | rfl | rfl | rfl <;> exact k _ S2 (by decide) (by decide) d2 (f1.trans ((Fr.app ..).trans f2))
  · walk_at "mir"
    exact k _ S2 (by omega) (by omega) d2 (f1.trans f2)
  · exact k v S2 h0 (by omega) d2 (f1.trans f2)
  · walk_at "mir"
    refine next_w d2 (by omega) fun z S3 h2 h3 d3 f3 => ?_
    walk_at "mir"
    refine next_w d3 (by omega) fun y S4 h4 h5 d4 f4 => ?_
    walk_at "mir"
    exact k _ S4 (by omega) (by omega) d4 (f1.trans (f2.trans (f3.trans f4)))

theorem put8_0 {a b c d e f g h v : D} {n : Nat} {S : Mir.ST} {N : Mir.ST → Prop} : kPutO (some (.lst [a, b, c, d, e, f, g, h])) n (.int 0) v S N = N (S.set n (.lst [v, b, c, d, e, f, g, h])) := rfl
theorem put8_1 {a b c d e f g h v : D} {n : Nat} {S : Mir.ST} {N : Mir.ST → Prop} : kPutO (some (.lst [a, b, c, d, e, f, g, h])) n (.int 1) v S N = N (S.set n (.lst [a, v, c, d, e, f, g, h])) := rfl
theorem put8_2 {a b c d e f g h v : D} {n : Nat} {S : Mir.ST} {N : Mir.ST → Prop} : kPutO (some (.lst [a, b, c, d, e, f, g, h])) n (.int 2) v S N = N (S.set n (.lst [a, b, v, d, e, f, g, h])) := rfl
theorem put8_3 {a b c d e f g h v : D} {n : Nat} {S : Mir.ST} {N : Mir.ST → Prop} : kPutO (some (.lst [a, b, c, d, e, f, g, h])) n (.int 3) v S N = N (S.set n (.lst [a, b, c, v, e, f, g, h])) := rfl
theorem put8_4 {a b c d e f g h v : D} {n : Nat} {S : Mir.ST} {N : Mir.ST → Prop} : kPutO (some (.lst [a, b, c, d, e, f, g, h])) n (.int 4) v S N = N (S.set n (.lst [a, b, c, d, v, f, g, h])) := rfl
theorem slc_tup {S : Mir.ST} {ds : List D} {lo hi : Option Int} {Q : D → Mir.ST → Prop} {X : XQ} : wpR (mSl (.tup ds) lo hi S) Q X = Q (.tup (Mir.cutD ds lo hi)) S := rfl
theorem kSeq_str {z : Str} {S : Mir.ST} {R : Src → Mir.ST → Prop} : kSeq R (.str z) S = R ⟨z.cps.toList.map fun c => .str ⟨#[c]⟩, none⟩ S := rfl
theorem kInO_dks {kvs : List (Key × D)} {g : Bool → Bool} {x : Str} {Q : D → Mir.ST → Prop} {S : Mir.ST} : kInO (some (.dk kvs)) g (.str x) Q S = Q (.bl (g (look kvs (.inr x)).isSome)) S := rfl
theorem cp_page : cD_PAGE = .int 16 := rfl
theorem cp_loaded : cD_LOADED = .int 2 := rfl
theorem cp_first : cD_FIRST = .int 3 := rfl
theorem cp_second : cD_SECOND = .int 4 := rfl

end
local macro_rules | `(tactic| walk_at "mir") => `(tactic| simp -implicitDefEqProofs only [wp_ok, wp_sSeq, seq_nx, seq_rt, seq_ex, kx_seq, kx_mk, kRet_seq, kRet_mk, kRet_fe, kx_fe, fe_ex, seq_bk, seq_ct, wp_sNil, wp_sBreak, wp_sCont, wp_sRetN, wp_sExpr, kExpr_eq, wp_sRet, kRet_eq, wp_sSet, kSet_eq, wp_sSetT, wp_sIf, kIfS_d, kIfS_n, kIfS_t, kIfS_f, wp_sPar, kPar_eq, wp_sPar3, kPar3_eq, r_cix, r_sumT, wp_sAug, kAug_eq, kAug2_eq, wp_sPut, kPut1_eq, kPut2_eq, kPut3_ref, wp_sPutAug, wp_sSlc, kSc1_eq, kSc2_eq, kSc3_eq, kSc4_ref, r_tupR2, r_lstR2, set_app_lt, kPA1_eq, kPA3_eq, wp_sFld, kFld1_eq, wp_sFldAug, kFA0_eq, kFA1_eq, kFA2_eq, wp_sFor, wp_iSeq, kSeq_tup, kSeq_fl, wp_iRg1, kRg1_eq, wp_iRg2, kRg2_eq, wp_iRgC, kRgC_eq,
  wp_eV, kV_some, wp_eC, wp_e2, k2a_eq, k2b_eq, wp_e1, k1_eq, wp_eCall, wp_aNil, wp_aCons, kC1_eq, kC2_eq, wp_eTup, kTup_eq, wp_eLst, kLst_eq, wp_eFn, kFn_eq, wp_tb, kTb_eq, wp_tTru, kTru_bl, wp_tAnd, kAnd_d, kAnd_n, kAnd_t, kAnd_f, wp_tOr, kOr_d, kOr_n, kOr_t, kOr_f, wp_tNot, kNot_eq, wp_eIf, kIf_d, kIf_n, kIf_t, kIf_f, wp_eAnd, kAndV_d, kAndV_n, kAndV_t, kAndV_f, wp_eOr, kOrV_d, kOrV_n, kOrV_t, kOrV_f, wp_eNot, kNotV_bl, wp_eChain, kCh1_eq, kCh2_eq, kCh3_eq, wp_eSl, kSl1_eq, kSl2_eq, kSl3_eq, wp_oNone, wp_oSome, kO_eq, wp_eBm, kBm_eq, kBm2_eq, wp_eBm0, kBm0_eq, wp_eMeth, kMt2_eq, wp_eMake, kMk_eq, kMkI_eq, wp_eDict, wp_pairs_nil, wp_pairs_cons, kP1_eq, kP2_eq, kP3_eq, wp_eLc, wp_allocO, fe_nx, fe_rt,
  r_add, r_addS, r_addT, r_iadd, r_sub, r_mul, r_fdiv, r_mod, r_pow, r_shl, r_shr, r_and, r_or, r_xor, r_neg, r_lt, r_le, r_gt, r_ge, r_eqI, r_eqS, r_eqB, r_neI, r_neS, r_neB, r_isB, r_isNB, r_is0, r_isI, r_isT, r_isNot0, r_isNotI, r_isNotT, r_int, r_intB, r_abs, r_max2, r_min2, r_lenT, r_lenF, r_lenR, kLen_lst, kLen_dk, kOpt_some, r_ixT, r_ixF, r_ixR, kIx_lst, kIx_dkS, kIx_dkI, look_cons, inr_inj, inl_inj, ofS_inj, String.reduceEq, reduceIte, kPutO_dkS, kPutO_dkI, r_append, sl_ref, kPA2_ref, kPAo_dkS, kPAo_dkI, kPA4_ref, kPDo_dkS, kPDo_dkI,
  List.getElem?_cons_zero, List.getElem?_cons_succ, List.set_cons_zero, List.set_cons_succ, List.length_cons, List.length_nil, List.map_cons, List.map_nil, List.cons_append, List.nil_append, List.replicate_succ, List.replicate_zero, decide_eq_true_eq, decide_eq_false_iff_not, decide_true, decide_false, Bool.not_true, Bool.not_false, Nat.reduceAdd, tyD_ref, beq_self_eq_true, Int.zero_add, Int.mul_one, Int.toNat_natCast, Nat.zero_add, wp_mkFn, eq_self, put8_0, put8_1, put8_2, put8_3, put8_4, r_fld, kFldO_ins, lk_nil, lk_cons, kFld2_ref, kFA3_ref, kFlO_ins, kMt_ref, kMtO_ins, kMtM_some, putA_nil, putA_cons, mem_one, mem_two, mem_three, or_true, true_or, kLsO_lst, r_pop0, r_popAt0, r_insert, r_extend, r_tupR, r_tupT, r_tupF, r_listR, r_listT, r_listF, r_addR, kSeq_refO, set_get, set_get', set_same, List.take_zero, List.drop_zero, r_mulR, List.flatten_replicate_singleton, wipe_nil, wipe_cons, wp_tYes, kSetT_ref, kSetT_tup, kSetT_nm, setG_nil, setG_cons, atI_0, atI_1, atI_2, atI_3, atI_4, atI_5, atI_6, atI_7, List.length_set, List.set_set, List.getElem?_append_left, List.head?_cons, List.tail_cons, sz_le, sz_lt, Nat.reduceLeDiff, Nat.reduceLT, Nat.reduceSub, lim64_of, lim62_of, cMod_of, cDiv_of, cNn_of, cPow_of, Int.reduceLT, Int.reduceLE, Int.reduceNeg, Int.reduceToNat, Int.reduceAdd, r_inT, r_ninT, flat_int, flat_str, flat_bl, eqF_int, eqF_str, dec_or, List.all_cons, List.all_nil, List.any_cons, List.any_nil, Bool.and_self, Bool.and_true, Bool.or_false, Bool.false_or, Bool.true_or, Bool.or_true, r_isi, kIsi_some, tyN_non, tyN_bl, tyN_int, tyN_str, tyN_tup, tyN_fl, tyN_ref, tyO_lst, tyO_dk, subN_int, subN_bool, subN_str, subN_tuple, subN_list, subN_dict, Option.bind_some, String.reduceBEq, r_isS, r_isBl, r_isR, r_isF, r_isNotS, r_isNotBl, r_isNotR, r_isNotF, reduceCtorEq, kDict_dk, kDk_some, keysD_nil, keysD_s, keysD_i, Option.map_some, dmerge_def, List.foldl_cons, List.foldl_nil, dput_nil, dput_n, dput_h, List.forall_mem_cons, List.not_mem_nil, true_imp_iff, false_imp_iff, implies_true, ne_eq, not_false_eq_true, not_true_eq_false, get_app, get_app0, set_app, set_app0, get_appE, get_appE0, set_appE, set_appE0, List.length_map, List.length_append, List.append_assoc, Nat.add_assoc, Nat.reduceEqDiff, true_and, and_true])
local macro_rules | `(tactic| walk_at "mirs") => `(tactic| simp -implicitDefEqProofs only [wp_ok, wp_sSeq, seq_nx, seq_rt, seq_ex, kx_seq, kx_mk, kRet_seq, kRet_mk, kRet_fe, kx_fe, fe_ex, seq_bk, seq_ct, wp_sNil, wp_sBreak, wp_sCont, wp_sRetN, wp_sExpr, kExpr_eq, wp_sRet, kRet_eq, wp_sSet, kSet_eq, wp_sSetT, wp_sIf, kIfS_d, kIfS_n, kIfS_t, kIfS_f, wp_sPar, kPar_eq, wp_sPar3, kPar3_eq, r_cix, r_sumT, wp_sAug, kAug_eq, kAug2_eq, wp_sPut, kPut1_eq, kPut2_eq, kPut3_ref, wp_sPutAug, wp_sSlc, kSc1_eq, kSc2_eq, kSc3_eq, kSc4_ref, r_tupR2, r_lstR2, set_app_lt, kPA1_eq, kPA3_eq, wp_sFld, kFld1_eq, wp_sFldAug, kFA0_eq, kFA1_eq, kFA2_eq, wp_sFor, wp_iSeq, kSeq_tup, kSeq_fl, wp_iRg1, kRg1_eq, wp_iRg2, kRg2_eq, wp_iRgC, kRgC_eq,
  wp_eV, kV_some, wp_eC, wp_e2, k2a_eq, k2b_eq, wp_e1, k1_eq, wp_eCall, wp_aNil, wp_aCons, kC1_eq, kC2_eq, wp_eTup, kTup_eq, wp_eLst, kLst_eq, wp_eFn, kFn_eq, wp_tb, kTb_eq, wp_tTru, kTru_bl, wp_tAnd, kAnd_d, kAnd_n, kAnd_t, kAnd_f, wp_tOr, kOr_d, kOr_n, kOr_t, kOr_f, wp_tNot, kNot_eq, wp_eIf, kIf_d, kIf_n, kIf_t, kIf_f, wp_eAnd, kAndV_d, kAndV_n, kAndV_t, kAndV_f, wp_eOr, kOrV_d, kOrV_n, kOrV_t, kOrV_f, wp_eNot, kNotV_bl, wp_eChain, kCh1_eq, kCh2_eq, kCh3_eq, wp_eSl, kSl1_eq, kSl2_eq, kSl3_eq, wp_oNone, wp_oSome, kO_eq, wp_eBm, kBm_eq, kBm2_eq, wp_eBm0, kBm0_eq, wp_eMeth, kMt2_eq, wp_eMake, kMk_eq, kMkI_eq, wp_eDict, wp_pairs_nil, wp_pairs_cons, kP1_eq, kP2_eq, kP3_eq, wp_eLc, wp_allocO, fe_nx, fe_rt,
  r_add, r_addS, r_addT, r_iadd, r_sub, r_mul, r_fdiv, r_mod, r_pow, r_shl, r_shr, r_and, r_or, r_xor, r_neg, r_lt, r_le, r_gt, r_ge, r_eqI, r_eqS, r_eqB, r_neI, r_neS, r_neB, r_isB, r_isNB, r_is0, r_isI, r_isT, r_isNot0, r_isNotI, r_isNotT, r_int, r_intB, r_abs, r_max2, r_min2, r_lenT, r_lenF, r_lenR, kLen_lst, kLen_dk, kOpt_some, r_ixT, r_ixF, r_ixR, kIx_lst, kIx_dkS, kIx_dkI, look_cons, inr_inj, inl_inj, ofS_inj, String.reduceEq, reduceIte, kPutO_dkS, kPutO_dkI, r_append, sl_ref, kPA2_ref, kPAo_dkS, kPAo_dkI, kPA4_ref, kPDo_dkS, kPDo_dkI,
  List.getElem?_cons_zero, List.getElem?_cons_succ, List.set_cons_zero, List.set_cons_succ, List.length_cons, List.length_nil, List.map_cons, List.map_nil, List.cons_append, List.nil_append, List.replicate_succ, List.replicate_zero, decide_eq_true_eq, decide_eq_false_iff_not, decide_true, decide_false, Bool.not_true, Bool.not_false, Nat.reduceAdd, tyD_ref, beq_self_eq_true, Int.zero_add, Int.mul_one, Int.toNat_natCast, Nat.zero_add, wp_mkFn, eq_self, put8_0, put8_1, put8_2, put8_3, put8_4, r_fld, kFldO_ins, lk_nil, lk_cons, kFld2_ref, kFA3_ref, kFlO_ins, kMt_ref, kMtO_ins, kMtM_some, putA_nil, putA_cons, mem_one, mem_two, mem_three, or_true, true_or, kLsO_lst, r_pop0, r_popAt0, r_insert, r_extend, r_tupR, r_tupT, r_tupF, r_listR, r_listT, r_listF, r_addR, kSeq_refO, set_get, set_get', set_same, List.take_zero, List.drop_zero, r_mulR, List.flatten_replicate_singleton, wipe_nil, wipe_cons, wp_tYes, kSetT_ref, kSetT_tup, kSetT_nm, setG_nil, setG_cons, atI_0, atI_1, atI_2, atI_3, atI_4, atI_5, atI_6, atI_7, List.length_set, List.set_set, List.getElem?_append_left, List.head?_cons, List.tail_cons, sz_le, sz_lt, Nat.reduceLeDiff, Nat.reduceLT, Nat.reduceSub, lim64_of, lim62_of, cMod_of, cDiv_of, cNn_of, cPow_of, Int.reduceLT, Int.reduceLE, Int.reduceNeg, Int.reduceToNat, Int.reduceAdd, r_inT, r_ninT, flat_int, flat_str, flat_bl, eqF_int, eqF_str, dec_or, List.all_cons, List.all_nil, List.any_cons, List.any_nil, Bool.and_self, Bool.and_true, Bool.or_false, Bool.false_or, Bool.true_or, Bool.or_true, r_isi, kIsi_some, tyN_non, tyN_bl, tyN_int, tyN_str, tyN_tup, tyN_fl, tyN_ref, tyO_lst, tyO_dk, subN_int, subN_bool, subN_str, subN_tuple, subN_list, subN_dict, Option.bind_some, String.reduceBEq, r_isS, r_isBl, r_isR, r_isF, r_isNotS, r_isNotBl, r_isNotR, r_isNotF, reduceCtorEq, kDict_dk, kDk_some, keysD_nil, keysD_s, keysD_i, Option.map_some, dmerge_def, List.foldl_cons, List.foldl_nil, dput_nil, dput_n, dput_h, List.forall_mem_cons, List.not_mem_nil, true_imp_iff, false_imp_iff, implies_true, ne_eq, not_false_eq_true, not_true_eq_false, get_app, get_app0, set_app, set_app0, get_appE, get_appE0, set_appE, set_appE0, List.length_map, List.length_append, List.append_assoc, Nat.add_assoc, Nat.reduceEqDiff, true_and, and_true, *])
local macro_rules | `(tactic| walk_at "sd") => `(tactic| first | with_reducible rfl | decide | (have hSZ : SZ = 16777216 := rfl; first | exact cMod_of (by omega) | exact lim64_l (by omega) (by omega) | exact lim64_r (by omega) (by omega) | exact cNn_of (by omega) | exact cDiv_of (by omega) (by omega) | exact cPow_of (by omega) (by omega) (by omega) (by omega) | exact lim62_of (by omega) (by omega) | exact lim64_of (by omega) (by omega) | omega | ((try simp only [List.length_map, List.length_append, List.length_cons, List.length_nil] at *); (have hSZ : SZ = 16777216 := rfl); omega)))
local macro_rules | `(tactic| walk_at "side") => `(tactic| repeat (with_reducible refine And.intro (by walk_at "sd") ?_))

section
/-! ### the law's machine of one guest -/
structure Ms where
  r1 : Int
  r2 : Int
  r3 : Int
  r4 : Int
  pc : Nat
  given : Nat
  deeds : List D
  word : Str
  done : Nat
  met : List D
structure Mc where
  code : List D
  mem : List Int
  base : Int
  ans : List D
def Ms.rl (s : Ms) : List D := [.int 0, .int s.r1, .int s.r2, .int s.r3, .int s.r4, .int 0, .int 0, .int 0]
def Mc.dk (c : Mc) (n : Nat) (s : Ms) : O := .dk [(.inr "code", .tup c.code), (.inr "memory", .ref n), (.inr "base", .int c.base), (.inr "regs", .ref (n + 3)), (.inr "at", .int (s.pc : Int)), (.inr "answers", .tup c.ans), (.inr "given", .int (s.given : Int)), (.inr "deeds", .ref (n + 4)), (.inr "word", .str s.word), (.inr "done", .int (s.done : Int)), (.inr "met", .ref (n + 5))]
def Mc.st (c : Mc) (S : Mir.ST) (s : Ms) : Mir.ST := S ++ [.lst (c.mem.map D.int), c.dk S.length s, .lst [.int 0], .lst s.rl, .lst s.deeds, .lst s.met]
theorem Mc.st_d (c : Mc) (S : Mir.ST) (s : Ms) : c.st S s = S ++ [.lst (c.mem.map D.int), .dk [(.inr "code", .tup c.code), (.inr "memory", .ref S.length), (.inr "base", .int c.base), (.inr "regs", .ref (S.length + 3)), (.inr "at", .int (s.pc : Int)), (.inr "answers", .tup c.ans), (.inr "given", .int (s.given : Int)), (.inr "deeds", .ref (S.length + 4)), (.inr "word", .str s.word), (.inr "done", .int (s.done : Int)), (.inr "met", .ref (S.length + 5))], .lst [.int 0], .lst [.int 0, .int s.r1, .int s.r2, .int s.r3, .int s.r4, .int 0, .int 0, .int 0], .lst s.deeds, .lst s.met] := rfl
variable {Q : D → Mir.ST → Prop} {X : XQ}
theorem i_load (c : Mc) (S : Mir.ST) (s : Ms) {n v : Int} (h0 : 0 ≤ n) (hn : n < c.mem.length) (hb : n < 65536) (hm : s.met.length < 10000) (hv : atI (c.mem.map D.int) n = some (.int v)) (k : Q .non (c.st S { s with pc := s.pc + 1, r2 := v, met := s.met ++ [.tup [.int s.pc, .int n]] })) :
    wpR (m__law_instruction [.ref (S.length + 1), .tup [.str "load", .int 2, .int 0, .int n]] (c.st S s)) Q X := by
  unfold m__law_instruction
  rw [Mc.st_d]
  walk_at "mir"
  unfold b__law_instruction
  walk_at "mir"
  unfold m__law_met
  walk_at "mir"
  unfold b__law_met
  have e : n % 4294967296 = n := Int.emod_eq_of_lt h0 (by omega)
  have e2 : ((s.pc : Int) + 1 - 1) = s.pc := by omega
  walk_at "mir"
  rw [e, e2, hv]
  walk_at "side"
  intro _
  walk_at "mir"
  exact k
theorem i_rest (c : Mc) (S : Mir.ST) (s : Ms) (hm : s.deeds.length < 10000) (k : Q .non (c.st S { s with pc := s.pc + 1, deeds := s.deeds ++ [.tup [.str "rest"]] })) :
    wpR (m__law_instruction [.ref (S.length + 1), .tup [.str "rest"]] (c.st S s)) Q X := by
  unfold m__law_instruction
  rw [Mc.st_d]
  walk_at "mir"
  unfold b__law_instruction
  walk_at "mir"
  unfold m__law_told
  walk_at "mir"
  unfold b__law_told
  walk_at "mir"
  walk_at "side"
  exact k
theorem i_go (c : Mc) (S : Mir.ST) (s : Ms) (n : Nat) (k : Q .non (c.st S { s with pc := n })) :
    wpR (m__law_instruction [.ref (S.length + 1), .tup [.str "go", .int n]] (c.st S s)) Q X := by
  unfold m__law_instruction
  rw [Mc.st_d]
  walk_at "mir"
  unfold b__law_instruction
  walk_at "mir"
  exact k
theorem i_end (c : Mc) (S : Mir.ST) (s : Ms) (k : Q .non (c.st S { s with pc := s.pc + 1, word := "done" })) :
    wpR (m__law_instruction [.ref (S.length + 1), .tup [.str "end", .str "done"]] (c.st S s)) Q X := by
  unfold m__law_instruction
  rw [Mc.st_d]
  walk_at "mir"
  unfold b__law_instruction
  walk_at "mir"
  exact k
theorem i_time3 (c : Mc) (S : Mir.ST) (s : Ms) {a b : Int} (ha : c.ans = [.int a, .int b]) (hg : s.given = 0) (hm : s.deeds.length < 10000) (k : Q .non (c.st S { s with pc := s.pc + 1, r3 := a, given := 1, deeds := s.deeds ++ [.tup [.str "time", .int a]] })) :
    wpR (m__law_instruction [.ref (S.length + 1), .tup [.str "time", .int 3]] (c.st S s)) Q X := by
  unfold m__law_instruction
  rw [Mc.st_d, ha, hg]
  walk_at "mir"
  unfold b__law_instruction
  walk_at "mir"
  unfold m__law_told
  walk_at "mir"
  unfold b__law_told
  walk_at "mir"
  walk_at "side"
  intro _
  rw [show atI [D.int a, D.int b] ((0 : Nat) : Int) = some (.int a) from rfl]
  walk_at "mir"
  walk_at "side"
  rw [Mc.st_d, ha] at k
  exact k
theorem i_time4 (c : Mc) (S : Mir.ST) (s : Ms) {a b : Int} (ha : c.ans = [.int a, .int b]) (hg : s.given = 1) (hm : s.deeds.length < 10000) (k : Q .non (c.st S { s with pc := s.pc + 1, r4 := b, given := 2, deeds := s.deeds ++ [.tup [.str "time", .int b]] })) :
    wpR (m__law_instruction [.ref (S.length + 1), .tup [.str "time", .int 4]] (c.st S s)) Q X := by
  unfold m__law_instruction
  rw [Mc.st_d, ha, hg]
  walk_at "mir"
  unfold b__law_instruction
  walk_at "mir"
  unfold m__law_told
  walk_at "mir"
  unfold b__law_told
  walk_at "mir"
  walk_at "side"
  intro _
  rw [show atI [D.int a, D.int b] ((1 : Nat) : Int) = some (.int b) from rfl]
  walk_at "mir"
  walk_at "side"
  rw [Mc.st_d, ha] at k
  exact k
theorem i_sub (c : Mc) (S : Mir.ST) (s : Ms) (k : Q .non (c.st S { s with pc := s.pc + 1, r1 := (s.r4 - s.r3) % 4294967296 })) :
    wpR (m__law_instruction [.ref (S.length + 1), .tup [.str "op", .str "-", .int 1, .int 4, .int 3]] (c.st S s)) Q X := by
  unfold m__law_instruction
  rw [Mc.st_d]
  walk_at "mir"
  unfold b__law_instruction
  walk_at "mir"
  unfold m__law_operate
  walk_at "mir"
  unfold b__law_operate
  walk_at "mir"
  exact k

end
section
/-! ### the rows of the three guests -/
inductive Rw where
  | load (n : Nat) | rest | go | time (r : Nat) | sub | fin
def Rw.d : Rw → D
  | .load n => .tup [.str "load", .int 2, .int 0, .int (n : Int)]
  | .rest => .tup [.str "rest"]
  | .go => .tup [.str "go", .int 0]
  | .time r => .tup [.str "time", .int (r : Int)]
  | .sub => .tup [.str "op", .str "-", .int 1, .int 4, .int 3]
  | .fin => .tup [.str "end", .str "done"]
def Rw.ok : Rw → Prop
  | .load n => n < 65536
  | .time r => r < 8
  | _ => True
def Rw.w : Rw → Int
  | .load n => 536870912 + 33554432 + 0 + n
  | .rest => 1879048192
  | .go => 805306368 + 0
  | .time r => 1744830464 + r * 16777216
  | .sub => 402653184 + 16777216 + 8388608 + 131072 + 3
  | .fin => 0
def kns : List Str := ["end", "set", "high", "op", "load", "store", "go", "unless", "call", "back", "send", "ask", "take", "time", "rest"]
theorem kns_nd : kns.Nodup := by decide
def sns : List Str := ["+", "-", "*", "/", "@", "&", "|", "^", "==", "<", "<<", ">>"]
theorem sns_nd : sns.Nodup := by decide
variable {Q : D → Mir.ST → Prop} {X : XQ}
theorem number_w {S : Mir.ST} {x : Str} {j : Nat} (hj : kns[j]? = some x) (k : ∀ T, Q (.int (j : Int)) (S ++ T)) : wpR (m__law_number [.str x] S) Q X := by
  unfold m__law_number
  walk_at "mir"
  unfold b__law_number
  walk_at "mir"
  refine r_indexR (names := kns) (j := j) get_app0 kns_nd hj ?_
  exact k _
theorem code_word_w {S : Mir.ST} {r : Rw} (o : r.ok) (k : ∀ T, Q (.int r.w) (S ++ T)) : wpR (m__law_code_word [r.d] S) Q X := by
  unfold m__law_code_word
  cases r with
  | load n =>
    have o1 : n < 65536 := o
    simp only [Rw.d]
    walk_at "mir"
    unfold b__law_code_word
    walk_at "mir"
    refine number_w (j := 4) (by decide) fun T => ?_
    walk_at "mir"
    walk_at "side"
    exact k T
  | rest =>
    simp only [Rw.d]
    walk_at "mir"
    unfold b__law_code_word
    walk_at "mir"
    refine number_w (j := 14) (by decide) fun T => ?_
    walk_at "mir"
    walk_at "side"
    exact k T
  | go =>
    simp only [Rw.d]
    walk_at "mir"
    unfold b__law_code_word
    walk_at "mir"
    refine number_w (j := 6) (by decide) fun T => ?_
    walk_at "mir"
    walk_at "side"
    exact k T
  | time n =>
    have o1 : n < 8 := o
    simp only [Rw.d]
    walk_at "mir"
    unfold b__law_code_word
    walk_at "mir"
    refine number_w (j := 13) (by decide) fun T => ?_
    walk_at "mir"
    walk_at "side"
    exact k T
  | sub =>
    simp only [Rw.d]
    walk_at "mir"
    unfold b__law_code_word
    walk_at "mir"
    refine number_w (j := 3) (by decide) fun T => ?_
    walk_at "mir"
    unfold m__law_signs
    walk_at "mir"
    unfold b__law_signs
    walk_at "mir"
    refine r_indexR (names := sns) (j := 1) (by rw [← List.append_assoc, ← List.length_append]; exact get_app0) sns_nd (by decide) ?_
    walk_at "mir"
    walk_at "side"
    exact k _
  | fin =>
    simp only [Rw.d]
    walk_at "mir"
    unfold b__law_code_word
    walk_at "mir"
    refine number_w (j := 0) (by decide) fun T => ?_
    walk_at "mir"
    walk_at "side"
    exact k T

end
section
def m0 : Ms := ⟨0, 0, 0, 0, 0, 0, [], "", 0, []⟩
def up16 (n : Nat) : Nat := (n + 15) / 16 * 16
variable {Q : D → Mir.ST → Prop} {X : XQ}
theorem lc_words {S : Mir.ST} {g0 g1 g2 g3 g4 g5 g6 g7 : Option D} (rows : List Rw) (ho : ∀ r ∈ rows, r.ok) (hl : rows.length ≤ 42)
    (k : ∀ T, Q (.ref S.length) (S ++ .lst ((rows.map Rw.w).map D.int) :: T)) :
    kLc (.nm 7) tYesM (eFn 1 m__law_code_word (aCons (eV 7) aNil)) [7] [g0, g1, g2, g3, g4, g5, g6, g7] Q X ⟨rows.map Rw.d, none⟩ S := by
  refine lc_grow rows Rw.d (fun _ => true) (fun r => .int r.w) rfl (fun _ _ => True.intro) (by unfold SZ; omega) (fun r hr acc T => ?_) fun T => ?_
  · refine ⟨_, rfl, ?_⟩
    walk_at "mir"
    refine ⟨T, rfl, ?_⟩
    refine code_word_w (ho r hr) fun T2 => ?_
    exact ⟨rfl, T ++ T2, by simp⟩
  · have e : (rows.filter fun _ => true) = rows := List.filter_eq_self.mpr fun _ _ => rfl
    rw [e]
    have := k T
    rw [List.map_map] at this
    exact this
theorem machine_w {S : Mir.ST} (rows : List Rw) (size : Nat) (ans : List D) (ho : ∀ r ∈ rows, r.ok) (hl : rows.length ≤ 42) (hs : size ≤ 1001)
    (k : ∀ (T : Mir.ST) (c : Mc), c.code = rows.map Rw.d → c.base = (up16 rows.length : Nat) → c.mem.length = up16 (up16 rows.length + size) → c.ans = ans → Q (.ref ((S ++ T).length + 1)) (c.st (S ++ T) m0)) :
    wpR (m__law_machine [.tup [.tup (rows.map Rw.d), .int (size : Int), .tup (List.replicate size (.int 0))], .tup ans] S) Q X := by
  unfold m__law_machine
  walk_at "mir"
  unfold b__law_machine
  walk_at "mir"
  refine lc_words rows ho hl fun T => ?_
  have hu : ((up16 rows.length : Nat) : Int) = ((rows.length : Int) + 15) / 16 * 16 := by unfold up16; omega
  have hu2 : rows.length ≤ up16 rows.length := by unfold up16; omega
  have hu3 : up16 rows.length ≤ 48 := by unfold up16; omega
  rw [← hu]
  generalize hb : up16 rows.length = b at *
  have e1 : ((b : Int) - rows.length).toNat = b - rows.length := by omega
  have e2 : rows.length + (b - rows.length + size) = b + size := by omega
  have e3 : (((b + size : Nat) : Int) + 15) / 16 * 16 = (up16 (b + size) : Nat) := by unfold up16; omega
  have h4 : b + size ≤ up16 (b + size) := by unfold up16; omega
  have h5 : up16 (b + size) ≤ b + size + 15 := by unfold up16; omega
  generalize hu' : up16 (b + size) = u at *
  have e4 : ((u : Int) - ((b + size : Nat) : Int)).toNat = u - (b + size) := by omega
  walk_at "mir"
  simp only [e1, List.length_replicate, e2, e3, e4]
  walk_at "side"
  have h := k (.lst ((rows.map Rw.w).map D.int) :: (T ++ [O.lst [D.int 0], O.lst (List.replicate (b - rows.length) (D.int 0)),
            O.lst (List.map D.int (List.map Rw.w rows) ++ List.replicate (b - rows.length) (D.int 0)),
            O.lst (List.replicate size (D.int 0)),
            O.lst
              (List.map D.int (List.map Rw.w rows) ++
                (List.replicate (b - rows.length) (D.int 0) ++ List.replicate size (D.int 0))),
            O.lst [D.int 0], O.lst (List.replicate (u - (b + size)) (D.int 0))]))
    ⟨rows.map Rw.d, rows.map Rw.w ++ (List.replicate (b - rows.length) 0 ++ (List.replicate size 0 ++ List.replicate (u - (b + size)) 0)), b, ans⟩ rfl rfl (by simp only [List.length_append, List.length_map, List.length_replicate]; omega) rfl
  rw [Mc.st_d] at h
  simp only [List.map_append, List.map_replicate, List.length_append, List.length_cons, List.length_nil, List.append_assoc, List.cons_append, List.nil_append, Nat.zero_add, Nat.add_assoc, Nat.reduceAdd, m0] at h
  exact h

end
section
/-! ### a run -/
def exR (c : Mc) (a b : Int) (r : Rw) (s : Ms) : Ms := match r with
  | .load n => { s with pc := s.pc + 1, r2 := c.mem.getD n 0, met := s.met ++ [.tup [.int s.pc, .int n]] }
  | .rest => { s with pc := s.pc + 1, deeds := s.deeds ++ [.tup [.str "rest"]] }
  | .go => { s with pc := 0 }
  | .time r => if r = 3 then { s with pc := s.pc + 1, r3 := a, given := 1, deeds := s.deeds ++ [.tup [.str "time", .int a]] } else { s with pc := s.pc + 1, r4 := b, given := 2, deeds := s.deeds ++ [.tup [.str "time", .int b]] }
  | .sub => { s with pc := s.pc + 1, r1 := (s.r4 - s.r3) % 4294967296 }
  | .fin => { s with pc := s.pc + 1, word := "done" }
structure OkR (B : Nat) (c : Mc) (a b : Int) (s : Ms) (r : Rw) : Prop where
  m : s.met.length < B
  d : s.deeds.length < 10000
  l : ∀ n, r = .load n → n < c.mem.length ∧ n < 65536
  t : ∀ n, r = .time n → c.ans = [.int a, .int b] ∧ ((n = 3 ∧ s.given = 0) ∨ (n = 4 ∧ s.given = 1))
variable {Q : D → Mir.ST → Prop} {X : XQ}
theorem instr_w (c : Mc) (S : Mir.ST) (s : Ms) (r : Rw) {a b : Int} (o : OkR 10000 c a b s r) (k : Q .non (c.st S (exR c a b r s))) : wpR (m__law_instruction [.ref (S.length + 1), r.d] (c.st S s)) Q X := by
  obtain ⟨om, od, ol, ot⟩ := o
  cases r with
  | load n =>
    obtain ⟨h1, h2⟩ := ol n rfl
    refine i_load c S s (by omega) (by omega) (by omega) om ?_ k
    rw [atI_pos (by omega) (by rw [List.length_map]; omega), Int.toNat_natCast, List.getElem?_map, List.getElem?_eq_getElem h1]
    simp [List.getD_eq_getElem?_getD, List.getElem?_eq_getElem h1]
  | rest => exact i_rest c S s od k
  | go => exact i_go c S s 0 k
  | time n =>
    obtain ⟨h1, h2⟩ := ot n rfl
    rcases h2 with ⟨rfl, hg⟩ | ⟨rfl, hg⟩
    · exact i_time3 c S s h1 hg od k
    · exact i_time4 c S s h1 hg od k
  | sub => exact i_sub c S s k
  | fin => exact i_end c S s k
def mt (s : Ms) : Ms := { s with met := s.met ++ [.tup [.int s.pc, .int (-1)]] }
def dn (s : Ms) : Ms := { s with done := s.done + 1 }
/-- one turn -/
def stp (c : Mc) (a b : Int) (rows : List Rw) (s : Ms) : Ms :=
  if s.word = "" then (match rows[s.pc]? with
    | some r => dn (exR c a b r (mt s))
    | none => s) else s
def runM (c : Mc) (a b : Int) (rows : List Rw) : Nat → Ms
  | 0 => m0
  | n + 1 => stp c a b rows (runM c a b rows n)
theorem runM_fix (c : Mc) (a b : Int) (rows : List Rw) {i : Nat} (h : (runM c a b rows i).word ≠ "") : ∀ j, i ≤ j → runM c a b rows j = runM c a b rows i
  | 0, l => by have : i = 0 := by omega
               rw [this]
  | j + 1, l => by
    rcases Nat.lt_or_ge j i with g | g
    · have : i = j + 1 := by omega
      rw [this]
    · have e := runM_fix c a b rows h j g
      show stp c a b rows (runM c a b rows j) = _
      rw [e]
      unfold stp
      rw [if_neg h]

end
section
variable {Q : D → Mir.ST → Prop} {X : XQ}
theorem ran_loop {K : Kt} {g1 g2 g4 : Option D} {z w : D} {S : Mir.ST} (c : Mc) (a b : Int) (rows : List Rw) (N : Nat) (hN : N ≤ 1000)
    (ok : ∀ i, i < N → (runM c a b rows i).word = "" → ∃ r, rows[(runM c a b rows i).pc]? = some r ∧ OkR 9999 c a b (runM c a b rows i) r)
    (k : ∀ g4, K.nx [some (.tup [.tup (rows.map Rw.d), z, w]), g1, g2, some (.ref (S.length + 1)), g4] (c.st S (runM c a b rows N))) :
    kFor (.nm 4)
 (sSeq (sIf (Mir.tAnd (tb (e2 mEq (e2 mIx (eV 3) (eC (.str "word"))) (eC (.str "")))) (tb (e2 mGe (e2 mIx (eV 3) (eC (.str "at"))) (eCall bLen (aCons (e2 mIx (eV 0) (eC (.int 0))) aNil)))))
 (sPut (eV 3) (eC (.str "word")) (eC (.str "fault")))
 sNil)
 (sSeq (sIf (tb (e2 mNe (e2 mIx (eV 3) (eC (.str "word"))) (eC (.str ""))))
 sBreak
 sNil)
 (sSeq (sExpr (eBm "list" bAppend (e2 mIx (eV 3) (eC (.str "met"))) (aCons (eTup (aCons (e2 mIx (eV 3) (eC (.str "at"))) (aCons (e1 mNeg (eC (.int 1))) aNil))) aNil)))
 (sSeq (sExpr (eFn 2 m__law_instruction (aCons (eV 3) (aCons (e2 mIx (e2 mIx (eV 0) (eC (.int 0))) (e2 mIx (eV 3) (eC (.str "at")))) aNil))))
 (sPutAug mIAdd (eV 3) (eC (.str "done")) (eC (.int 1)))))))
      K [some (.tup [.tup (rows.map Rw.d), z, w]), g1, g2, some (.ref (S.length + 1)), g4] ⟨rngD 0 1 N, none⟩ (c.st S m0) := by
  refine for_rng (fun i G S' => ∃ g4, G = [some (.tup [.tup (rows.map Rw.d), z, w]), g1, g2, some (.ref (S.length + 1)), g4] ∧ S' = c.st S (runM c a b rows i)) ⟨_, rfl, rfl⟩ ?_ ?_
  · intro G S' hP
    obtain ⟨g4, hG, hS⟩ := hP
    rw [hG, hS]
    exact k g4
  · intro i G S' hi hP
    obtain ⟨g4, hG, hS⟩ := hP
    rw [hG, hS]
    clear hG hS
    refine ⟨_, rfl, ?_⟩
    by_cases hw : (runM c a b rows i).word = ""
    · obtain ⟨r, hr, o⟩ := ok i hi hw
      have hstp : runM c a b rows (i + 1) = dn (exR c a b r (mt (runM c a b rows i))) := by
        show stp c a b rows (runM c a b rows i) = _
        unfold stp
        rw [if_pos hw, hr]
      rw [hstp]
      clear hstp k ok
      generalize runM c a b rows i = s at *
      have hp := (List.getElem?_eq_some_iff.mp hr).1
      have ha : atI (rows.map Rw.d) (s.pc : Int) = some r.d := by
        rw [atI_pos (by omega) (by rw [List.length_map]; omega), Int.toNat_natCast, List.getElem?_map, hr]
        rfl
      have om := o.m
      have o2 : OkR 10000 c a b (mt s) r := ⟨by show (s.met ++ [_]).length < 10000; rw [List.length_append, List.length_singleton]; omega, o.d, o.l, o.t⟩
      rw [Mc.st_d, hw]
      walk_at "mir"
      refine ⟨fun h => absurd h (by omega), fun _ => ⟨by unfold SZ; omega, ?_⟩⟩
      rw [ha]
      walk_at "mir"
      rw [← hw]
      refine instr_w c S (mt s) r o2 ?_
      generalize exR c a b r (mt s) = s3
      rw [Mc.st_d c S s3]
      walk_at "mir"
      exact ⟨_, rfl, rfl⟩
    · have e := runM_fix c a b rows hw N (by omega)
      rw [e] at k
      clear e ok
      generalize runM c a b rows i = s at *
      rw [Mc.st_d] at k ⊢
      walk_at "mir"
      exact ⟨fun h => absurd h hw, fun _ => ⟨fun h => absurd h hw, fun _ => k _⟩⟩
def fin (s : Ms) : Ms := if s.word = "" then { s with word := "steps" } else s
/-- the guest as a value -/
def gst (rows : List Rw) (size : Nat) : D := .tup [.tup (rows.map Rw.d), .int (size : Int), .tup (List.replicate size (.int 0))]
theorem gst_d (rows : List Rw) (size : Nat) : gst rows size = .tup [.tup (rows.map Rw.d), .int (size : Int), .tup (List.replicate size (.int 0))] := rfl
structure CnOf (rows : List Rw) (size : Nat) (ans : List D) (c : Mc) : Prop where
  code : c.code = rows.map Rw.d
  base : c.base = (up16 rows.length : Nat)
  mem : c.mem.length = up16 (up16 rows.length + size)
  ans : c.ans = ans
theorem code_ran_w {S : Mir.ST} (rows : List Rw) (size : Nat) (ans : List D) (a b : Int) (N : Nat) (ho : ∀ r ∈ rows, r.ok) (hl : rows.length ≤ 42) (hs : size ≤ 1001) (hN : N ≤ 1000)
    (ok : ∀ c, CnOf rows size ans c → ∀ i, i < N → (runM c a b rows i).word = "" → ∃ r, rows[(runM c a b rows i).pc]? = some r ∧ OkR 9999 c a b (runM c a b rows i) r)
    (k : ∀ (T : Mir.ST) (c : Mc), CnOf rows size ans c → Q (.ref ((S ++ T).length + 1)) (c.st (S ++ T) (fin (runM c a b rows N)))) :
    wpR (m__law_code_ran [gst rows size, .tup ans, .int (N : Int)] S) Q X := by
  unfold m__law_code_ran
  walk_at "mir"
  unfold b__law_code_ran
  walk_at "mir"
  rw [gst_d]
  refine machine_w rows size ans ho hl hs fun T c h1 h2 h3 h4 => ?_
  have hc : CnOf rows size ans c := ⟨h1, h2, h3, h4⟩
  walk_at "mir"
  refine ⟨lim62_of (by omega) (by omega), ?_⟩
  rw [show S.length + (T.length + 1) = (S ++ T).length + 1 by rw [List.length_append, Nat.add_assoc]]
  refine ran_loop c a b rows N hN (ok c hc) fun g4 => ?_
  have kk := k T c hc
  generalize S ++ T = S2 at *
  generalize runM c a b rows N = s at *
  rw [Mc.st_d]
  walk_at "mir"
  refine ⟨fun h => ?_, fun h => ?_⟩
  · unfold fin at kk
    rw [if_pos h] at kk
    exact kk
  · unfold fin at kk
    rw [if_neg h] at kk
    exact kk

end
section
/-! ### the deeds -/
def Rw.k : Rw → Str
  | .load _ => "load"
  | .rest => "rest"
  | .go => "go"
  | .time _ => "time"
  | .sub => "op"
  | .fin => "end"
def gp (p : Nat × Int) : D := .tup [.int (p.1 : Int), .int p.2]
def dOf (rows : List Rw) (p : Nat × Int) : List D := match rows[p.1]? with
  | some r => if 0 ≤ p.2 then [.tup [.str r.k, .int p.2]] else (match r with
    | .rest => [.tup [.str "rest"]]
    | .time _ => [.tup [.str "time"]]
    | _ => [])
  | none => []
def deedsO (rows : List Rw) (ps : List (Nat × Int)) : List D := (ps.map (dOf rows)).flatten
theorem deedsO_cons (rows : List Rw) (p : Nat × Int) (ps : List (Nat × Int)) : deedsO rows (p :: ps) = dOf rows p ++ deedsO rows ps := rfl
theorem dOf_len (rows : List Rw) (p : Nat × Int) : (dOf rows p).length ≤ 1 := by
  unfold dOf
  split
  · split
    · simp
    · split <;> simp
  · simp
variable {Q : D → Mir.ST → Prop} {X : XQ}
theorem rw_ix0 (r : Rw) {S : Mir.ST} {Q : D → Mir.ST → Prop} {X : XQ} (k : Q (.str r.k) S) : wpR (mIx r.d (.int 0) S) Q X := by
  cases r <;> exact k
theorem st_dk (c : Mc) (S : Mir.ST) (s : Ms) : (c.st S s)[S.length + 1]? = some (c.dk S.length s) := by
  unfold Mc.st
  walk_at "mir"
theorem st_met (c : Mc) (S : Mir.ST) (s : Ms) : (c.st S s)[S.length + 5]? = some (.lst s.met) := by
  unfold Mc.st
  walk_at "mir"
theorem deeds_w {S2 : Mir.ST} {n0 : Nat} (rows : List Rw) (size : Nat) (c : Mc) (s : Ms) (ps : List (Nat × Int)) (hg : S2[n0 + 1]? = some (c.dk n0 s)) (hg2 : S2[n0 + 5]? = some (.lst s.met)) (hm : s.met = ps.map gp) (hp : ∀ p ∈ ps, p.1 < rows.length) (hl : ps.length ≤ 2000)
    (k : Q (.ref S2.length) (S2 ++ [.lst (deedsO rows ps)])) : wpR (m__law_deeds [gst rows size, .ref (n0 + 1)] S2) Q X := by
  unfold m__law_deeds
  walk_at "mir"
  unfold b__law_deeds
  walk_at "mir"
  have hn : n0 + 1 < S2.length := (List.getElem?_eq_some_iff.mp hg).1
  have hn2 : n0 + 5 < S2.length := (List.getElem?_eq_some_iff.mp hg2).1
  rw [List.getElem?_append_left hn, hg]
  unfold Mc.dk
  walk_at "mir"
  rw [List.getElem?_append_left hn2, hg2]
  walk_at "mir"
  refine for_map ps gp hm (fun ys G S' => ∃ acc g3 g4 g5, G = [some (gst rows size), some (D.ref (n0 + 1)), some (D.ref S2.length), g3, g4, g5] ∧ S' = S2 ++ [O.lst acc] ∧ acc ++ deedsO rows ys = deedsO rows ps ∧ acc.length + ys.length ≤ 2000 ∧ (∀ p ∈ ys, p.1 < rows.length)) ⟨[], none, none, none, rfl, rfl, rfl, by simpa using hl, hp⟩ ?_ ?_ ?_
  · intro ys G S' h
    obtain ⟨acc, g3, g4, g5, hG, hS, _⟩ := h
    rw [hS]
    show (S2 ++ [O.lst acc])[n0 + 5]? = some (.lst s.met)
    rw [List.getElem?_append_left hn2]
    exact hg2
  · intro G S' h
    obtain ⟨acc, g3, g4, g5, hG, hS, ha, _⟩ := h
    rw [hG, hS]
    have e : deedsO rows [] = [] := rfl
    rw [e, List.append_nil] at ha
    rw [ha]
    walk_at "mir"
    exact k
  · intro p ys G S' h
    obtain ⟨acc, g3, g4, g5, hG, hS, ha, hb, hc⟩ := h
    rw [hG, hS]
    clear hG hS k
    refine ⟨_, rfl, ?_⟩
    have hp1 := hc p List.mem_cons_self
    have hc2 : ∀ p ∈ ys, p.1 < rows.length := fun q hq => hc q (List.mem_cons_of_mem _ hq)
    rw [List.length_cons] at hb
    rw [deedsO_cons] at ha
    obtain ⟨r, hr⟩ : ∃ r, rows[p.1]? = some r := ⟨_, List.getElem?_eq_getElem hp1⟩
    have hi : atI (rows.map Rw.d) (p.1 : Int) = some r.d := by
      rw [atI_pos (by omega) (by rw [List.length_map]; omega), Int.toNat_natCast, List.getElem?_map, hr]
      rfl
    have hd : dOf rows p = if 0 ≤ p.2 then [.tup [.str r.k, .int p.2]] else (match r with
      | .rest => [.tup [.str "rest"]]
      | .time _ => [.tup [.str "time"]]
      | _ => []) := by
      unfold dOf
      rw [hr]
    rw [hd] at ha
    obtain ⟨p1, p2⟩ := p
    rw [gst_d]
    walk_at "mir"
    rw [hi]
    walk_at "mir"
    refine rw_ix0 r ?_
    walk_at "mir"
    have hsz : acc.length < SZ := by unfold SZ; omega
    refine ⟨fun h => ⟨hsz, _, _, _, _, rfl, rfl, ?_, by rw [List.length_append, List.length_singleton]; omega, hc2⟩, fun h => ⟨fun h2 => ⟨_, _, _, _, rfl, rfl, ?_, by omega, hc2⟩, fun h2 => ⟨hsz, _, _, _, _, rfl, rfl, ?_, by rw [List.length_append, List.length_singleton]; omega, hc2⟩⟩⟩
    · rw [if_pos h] at ha
      rw [List.append_assoc]
      exact ha
    · rw [if_neg h] at ha
      cases r with
      | rest => exact absurd h2 (by decide)
      | time n =>
        have e : (Rw.time n).k = "time" := rfl
        rw [e] at h2
        exact absurd h2 (by decide)
      | _ => exact ha
    · rw [if_neg h] at ha
      rw [List.append_assoc]
      cases r with
      | rest => exact ha
      | time n => exact ha
      | load n => exact absurd (by left; rfl) h2
      | go => exact absurd (by decide) h2
      | sub => exact absurd (by decide) h2
      | fin => exact absurd (by decide) h2

end
local macro_rules | `(tactic| walk_at "mir") => `(tactic| simp -implicitDefEqProofs only [wp_ok, wp_sSeq, seq_nx, seq_rt, seq_ex, kx_seq, kx_mk, kRet_seq, kRet_mk, kRet_fe, kx_fe, fe_ex, seq_bk, seq_ct, wp_sNil, wp_sBreak, wp_sCont, wp_sRetN, wp_sExpr, kExpr_eq, wp_sRet, kRet_eq, wp_sSet, kSet_eq, wp_sSetT, wp_sIf, kIfS_d, kIfS_n, kIfS_t, kIfS_f, wp_sPar, kPar_eq, wp_sPar3, kPar3_eq, r_cix, r_sumT, wp_sAug, kAug_eq, kAug2_eq, wp_sPut, kPut1_eq, kPut2_eq, kPut3_ref, wp_sPutAug, wp_sSlc, kSc1_eq, kSc2_eq, kSc3_eq, kSc4_ref, r_tupR2, r_lstR2, set_app_lt, kPA1_eq, kPA3_eq, wp_sFld, kFld1_eq, wp_sFldAug, kFA0_eq, kFA1_eq, kFA2_eq, wp_sFor, wp_iSeq, kSeq_tup, kSeq_fl, wp_iRg1, kRg1_eq, wp_iRg2, kRg2_eq, wp_iRgC, kRgC_eq,
  wp_eV, kV_some, wp_eC, wp_e2, k2a_eq, k2b_eq, wp_e1, k1_eq, wp_eCall, wp_aNil, wp_aCons, kC1_eq, kC2_eq, wp_eTup, kTup_eq, wp_eLst, kLst_eq, wp_eFn, kFn_eq, wp_tb, kTb_eq, wp_tTru, kTru_bl, wp_tAnd, kAnd_d, kAnd_n, kAnd_t, kAnd_f, wp_tOr, kOr_d, kOr_n, kOr_t, kOr_f, wp_tNot, kNot_eq, wp_eIf, kIf_d, kIf_n, kIf_t, kIf_f, wp_eAnd, kAndV_d, kAndV_n, kAndV_t, kAndV_f, wp_eOr, kOrV_d, kOrV_n, kOrV_t, kOrV_f, wp_eNot, kNotV_bl, wp_eChain, kCh1_eq, kCh2_eq, kCh3_eq, wp_eSl, kSl1_eq, kSl2_eq, kSl3_eq, wp_oNone, wp_oSome, kO_eq, wp_eBm, kBm_eq, kBm2_eq, wp_eBm0, kBm0_eq, wp_eMeth, kMt2_eq, wp_eMake, kMk_eq, kMkI_eq, wp_eDict, wp_pairs_nil, wp_pairs_cons, kP1_eq, kP2_eq, kP3_eq, wp_eLc, wp_allocO, fe_nx, fe_rt,
  r_add, r_addS, r_addT, r_iadd, r_sub, r_mul, r_fdiv, r_mod, r_pow, r_shl, r_shr, r_and, r_or, r_xor, r_neg, r_lt, r_le, r_gt, r_ge, r_eqI, r_eqS, r_eqB, r_neI, r_neS, r_neB, r_isB, r_isNB, r_is0, r_isI, r_isT, r_isNot0, r_isNotI, r_isNotT, r_int, r_intB, r_abs, r_max2, r_min2, r_lenT, r_lenF, r_lenR, kLen_lst, kLen_dk, kOpt_some, r_ixT, r_ixF, r_ixR, kIx_lst, kIx_dkS, kIx_dkI, look_cons, inr_inj, inl_inj, ofS_inj, String.reduceEq, reduceIte, kPutO_dkS, kPutO_dkI, r_append, sl_ref, kPA2_ref, kPAo_dkS, kPAo_dkI, kPA4_ref, kPDo_dkS, kPDo_dkI,
  List.getElem?_cons_zero, List.getElem?_cons_succ, List.set_cons_zero, List.set_cons_succ, List.length_cons, List.length_nil, List.map_cons, List.map_nil, List.cons_append, List.nil_append, List.replicate_succ, List.replicate_zero, decide_eq_true_eq, decide_eq_false_iff_not, decide_true, decide_false, Bool.not_true, Bool.not_false, Nat.reduceAdd, tyD_ref, beq_self_eq_true, Int.zero_add, Int.mul_one, Int.toNat_natCast, Nat.zero_add, wp_mkFn, eq_self, put8_0, put8_1, put8_2, put8_3, put8_4, slc_tup, kSeq_str, kInO_dks, Option.isSome_some, r_fld, kFldO_ins, lk_nil, lk_cons, kFld2_ref, kFA3_ref, kFlO_ins, kMt_ref, kMtO_ins, kMtM_some, putA_nil, putA_cons, mem_one, mem_two, mem_three, or_true, true_or, kLsO_lst, r_pop0, r_popAt0, r_insert, r_extend, r_tupR, r_tupT, r_tupF, r_listR, r_listT, r_listF, r_addR, kSeq_refO, set_get, set_get', set_same, List.take_zero, List.drop_zero, r_mulR, List.flatten_replicate_singleton, wipe_nil, wipe_cons, wp_tYes, kSetT_ref, kSetT_tup, kSetT_nm, setG_nil, setG_cons, atI_0, atI_1, atI_2, atI_3, atI_4, atI_5, atI_6, atI_7, List.length_set, List.set_set, List.getElem?_append_left, List.head?_cons, List.tail_cons, sz_le, sz_lt, Nat.reduceLeDiff, Nat.reduceLT, Nat.reduceSub, lim64_of, lim62_of, cMod_of, cDiv_of, cNn_of, cPow_of, Int.reduceLT, Int.reduceLE, Int.reduceNeg, Int.reduceToNat, Int.reduceAdd, r_inT, r_ninT, flat_int, flat_str, flat_bl, eqF_int, eqF_str, dec_or, List.all_cons, List.all_nil, List.any_cons, List.any_nil, Bool.and_self, Bool.and_true, Bool.or_false, Bool.false_or, Bool.true_or, Bool.or_true, r_isi, kIsi_some, tyN_non, tyN_bl, tyN_int, tyN_str, tyN_tup, tyN_fl, tyN_ref, tyO_lst, tyO_dk, subN_int, subN_bool, subN_str, subN_tuple, subN_list, subN_dict, Option.bind_some, String.reduceBEq, r_isS, r_isBl, r_isR, r_isF, r_isNotS, r_isNotBl, r_isNotR, r_isNotF, reduceCtorEq, kDict_dk, kDk_some, keysD_nil, keysD_s, keysD_i, Option.map_some, dmerge_def, List.foldl_cons, List.foldl_nil, dput_nil, dput_n, dput_h, List.forall_mem_cons, List.not_mem_nil, true_imp_iff, false_imp_iff, implies_true, ne_eq, not_false_eq_true, not_true_eq_false, get_app, get_app0, set_app, set_app0, get_appE, get_appE0, set_appE, set_appE0, List.length_map, List.length_append, List.append_assoc, Nat.add_assoc, Nat.reduceEqDiff, true_and, and_true])
local macro_rules | `(tactic| walk_at "mirs") => `(tactic| simp -implicitDefEqProofs only [wp_ok, wp_sSeq, seq_nx, seq_rt, seq_ex, kx_seq, kx_mk, kRet_seq, kRet_mk, kRet_fe, kx_fe, fe_ex, seq_bk, seq_ct, wp_sNil, wp_sBreak, wp_sCont, wp_sRetN, wp_sExpr, kExpr_eq, wp_sRet, kRet_eq, wp_sSet, kSet_eq, wp_sSetT, wp_sIf, kIfS_d, kIfS_n, kIfS_t, kIfS_f, wp_sPar, kPar_eq, wp_sPar3, kPar3_eq, r_cix, r_sumT, wp_sAug, kAug_eq, kAug2_eq, wp_sPut, kPut1_eq, kPut2_eq, kPut3_ref, wp_sPutAug, wp_sSlc, kSc1_eq, kSc2_eq, kSc3_eq, kSc4_ref, r_tupR2, r_lstR2, set_app_lt, kPA1_eq, kPA3_eq, wp_sFld, kFld1_eq, wp_sFldAug, kFA0_eq, kFA1_eq, kFA2_eq, wp_sFor, wp_iSeq, kSeq_tup, kSeq_fl, wp_iRg1, kRg1_eq, wp_iRg2, kRg2_eq, wp_iRgC, kRgC_eq,
  wp_eV, kV_some, wp_eC, wp_e2, k2a_eq, k2b_eq, wp_e1, k1_eq, wp_eCall, wp_aNil, wp_aCons, kC1_eq, kC2_eq, wp_eTup, kTup_eq, wp_eLst, kLst_eq, wp_eFn, kFn_eq, wp_tb, kTb_eq, wp_tTru, kTru_bl, wp_tAnd, kAnd_d, kAnd_n, kAnd_t, kAnd_f, wp_tOr, kOr_d, kOr_n, kOr_t, kOr_f, wp_tNot, kNot_eq, wp_eIf, kIf_d, kIf_n, kIf_t, kIf_f, wp_eAnd, kAndV_d, kAndV_n, kAndV_t, kAndV_f, wp_eOr, kOrV_d, kOrV_n, kOrV_t, kOrV_f, wp_eNot, kNotV_bl, wp_eChain, kCh1_eq, kCh2_eq, kCh3_eq, wp_eSl, kSl1_eq, kSl2_eq, kSl3_eq, wp_oNone, wp_oSome, kO_eq, wp_eBm, kBm_eq, kBm2_eq, wp_eBm0, kBm0_eq, wp_eMeth, kMt2_eq, wp_eMake, kMk_eq, kMkI_eq, wp_eDict, wp_pairs_nil, wp_pairs_cons, kP1_eq, kP2_eq, kP3_eq, wp_eLc, wp_allocO, fe_nx, fe_rt,
  r_add, r_addS, r_addT, r_iadd, r_sub, r_mul, r_fdiv, r_mod, r_pow, r_shl, r_shr, r_and, r_or, r_xor, r_neg, r_lt, r_le, r_gt, r_ge, r_eqI, r_eqS, r_eqB, r_neI, r_neS, r_neB, r_isB, r_isNB, r_is0, r_isI, r_isT, r_isNot0, r_isNotI, r_isNotT, r_int, r_intB, r_abs, r_max2, r_min2, r_lenT, r_lenF, r_lenR, kLen_lst, kLen_dk, kOpt_some, r_ixT, r_ixF, r_ixR, kIx_lst, kIx_dkS, kIx_dkI, look_cons, inr_inj, inl_inj, ofS_inj, String.reduceEq, reduceIte, kPutO_dkS, kPutO_dkI, r_append, sl_ref, kPA2_ref, kPAo_dkS, kPAo_dkI, kPA4_ref, kPDo_dkS, kPDo_dkI,
  List.getElem?_cons_zero, List.getElem?_cons_succ, List.set_cons_zero, List.set_cons_succ, List.length_cons, List.length_nil, List.map_cons, List.map_nil, List.cons_append, List.nil_append, List.replicate_succ, List.replicate_zero, decide_eq_true_eq, decide_eq_false_iff_not, decide_true, decide_false, Bool.not_true, Bool.not_false, Nat.reduceAdd, tyD_ref, beq_self_eq_true, Int.zero_add, Int.mul_one, Int.toNat_natCast, Nat.zero_add, wp_mkFn, eq_self, put8_0, put8_1, put8_2, put8_3, put8_4, slc_tup, kSeq_str, kInO_dks, Option.isSome_some, r_fld, kFldO_ins, lk_nil, lk_cons, kFld2_ref, kFA3_ref, kFlO_ins, kMt_ref, kMtO_ins, kMtM_some, putA_nil, putA_cons, mem_one, mem_two, mem_three, or_true, true_or, kLsO_lst, r_pop0, r_popAt0, r_insert, r_extend, r_tupR, r_tupT, r_tupF, r_listR, r_listT, r_listF, r_addR, kSeq_refO, set_get, set_get', set_same, List.take_zero, List.drop_zero, r_mulR, List.flatten_replicate_singleton, wipe_nil, wipe_cons, wp_tYes, kSetT_ref, kSetT_tup, kSetT_nm, setG_nil, setG_cons, atI_0, atI_1, atI_2, atI_3, atI_4, atI_5, atI_6, atI_7, List.length_set, List.set_set, List.getElem?_append_left, List.head?_cons, List.tail_cons, sz_le, sz_lt, Nat.reduceLeDiff, Nat.reduceLT, Nat.reduceSub, lim64_of, lim62_of, cMod_of, cDiv_of, cNn_of, cPow_of, Int.reduceLT, Int.reduceLE, Int.reduceNeg, Int.reduceToNat, Int.reduceAdd, r_inT, r_ninT, flat_int, flat_str, flat_bl, eqF_int, eqF_str, dec_or, List.all_cons, List.all_nil, List.any_cons, List.any_nil, Bool.and_self, Bool.and_true, Bool.or_false, Bool.false_or, Bool.true_or, Bool.or_true, r_isi, kIsi_some, tyN_non, tyN_bl, tyN_int, tyN_str, tyN_tup, tyN_fl, tyN_ref, tyO_lst, tyO_dk, subN_int, subN_bool, subN_str, subN_tuple, subN_list, subN_dict, Option.bind_some, String.reduceBEq, r_isS, r_isBl, r_isR, r_isF, r_isNotS, r_isNotBl, r_isNotR, r_isNotF, reduceCtorEq, kDict_dk, kDk_some, keysD_nil, keysD_s, keysD_i, Option.map_some, dmerge_def, List.foldl_cons, List.foldl_nil, dput_nil, dput_n, dput_h, List.forall_mem_cons, List.not_mem_nil, true_imp_iff, false_imp_iff, implies_true, ne_eq, not_false_eq_true, not_true_eq_false, get_app, get_app0, set_app, set_app0, get_appE, get_appE0, set_appE, set_appE0, List.length_map, List.length_append, List.append_assoc, Nat.add_assoc, Nat.reduceEqDiff, true_and, and_true, *])
local macro_rules | `(tactic| walk_at "sd") => `(tactic| first | with_reducible rfl | decide | (have hSZ : SZ = 16777216 := rfl; first | exact cMod_of (by omega) | exact lim64_l (by omega) (by omega) | exact lim64_r (by omega) (by omega) | exact cNn_of (by omega) | exact cDiv_of (by omega) (by omega) | exact cPow_of (by omega) (by omega) (by omega) (by omega) | exact lim62_of (by omega) (by omega) | exact lim64_of (by omega) (by omega) | omega | ((try simp only [List.length_map, List.length_append, List.length_cons, List.length_nil] at *); (have hSZ : SZ = 16777216 := rfl); omega)))
local macro_rules | `(tactic| walk_at "side") => `(tactic| repeat (with_reducible refine And.intro (by walk_at "sd") ?_))

section
/-! ### what is a guest -/
variable {Q : D → Mir.ST → Prop} {X : XQ}
theorem is_number_w {S : Mir.ST} {v m : Int} (h0 : 0 ≤ v) (h1 : v < m) (k : Q (.bl true) S) : wpR (m__law_is_number [.int v, .int m] S) Q X := by
  unfold m__law_is_number
  walk_at "mir"
  unfold b__law_is_number
  walk_at "mir"
  refine ⟨fun _ => ?_, fun h => absurd h0 h⟩
  rw [decide_eq_true h1]
  exact k
theorem r_lenS {S : Mir.ST} {z : Str} {n : Nat} (h : z.length = n) (h2 : n ≤ SZ) (k : Q (.int (n : Int)) S) : wpR (bLen [.str z] S) Q X := by
  unfold bLen lenD
  simp only [h, if_pos h2]
  exact k
def mo (x : Str) : Int := if x = "r" then 8 else 65536
theorem mosts_w {S : Mir.ST} {g0 g1 g2 g3 g4 g5 : Option D} (cs : List Str) (hl : cs.length ≤ 5) (k : Q (.ref S.length) (S ++ [.lst ((cs.map mo).map D.int)])) :
    kLc (.nm 4) tYesM (eIf (tb (e2 mEq (eV 4) (eC (.str "r")))) (eC (.int 8)) (eC (.int 65536))) [4] [g0, g1, g2, g3, g4, g5] Q X ⟨cs.map D.str, none⟩ S := by
  refine lc_map cs D.str (fun _ => true) (fun x => .int (mo x)) rfl (fun _ => True.intro) (by unfold SZ; omega) (fun x hx acc => ?_) ?_
  · refine ⟨_, rfl, ?_⟩
    walk_at "mir"
    refine ⟨fun h => ?_, fun h => ?_⟩
    · unfold mo
      rw [if_pos h]
    · unfold mo
      rw [if_neg h]
  · have e : (cs.filter fun _ => true) = cs := List.filter_eq_self.mpr fun _ _ => rfl
    rw [e]
    rw [List.map_map] at k
    exact k
theorem last_w {S : Mir.ST} {g0 g2 g4 g5 : Option D} {a : Nat} (vs ms : List Int) (hl : vs.length ≤ 5) (hm : ms.length = vs.length) (ha : S[a]? = some (.lst (ms.map D.int))) (hv : ∀ i (h : i < vs.length), 0 ≤ vs[i] ∧ vs[i] < ms[i]'(by omega))
    (k : Q (.ref S.length) (S ++ [.lst []])) :
    kLc (.nm 5) (Mir.tNot (tTru (eFn 2 m__law_is_number (aCons (e2 mIx (eV 1) (eV 5)) (aCons (e2 mIx (eV 3) (eV 5)) aNil))))) (eV 5) [5] [g0, some (.tup (vs.map D.int)), g2, some (.ref a), g4, g5] Q X ⟨rngD 0 1 vs.length, none⟩ S := by
  have hx := (List.getElem?_eq_some_iff.mp ha).1
  refine lc_map (List.range vs.length) (fun k : Nat => .int (k : Int)) (fun _ => false) (fun _ => .non) rngD_map (fun _ => True.intro) (by rw [List.length_range]; unfold SZ; omega) (fun i hi acc => ?_) ?_
  · have hi := List.mem_range.mp hi
    obtain ⟨b1, b2⟩ := hv i hi
    refine ⟨_, rfl, ?_⟩
    have e1 : atI (vs.map D.int) (i : Int) = some (.int vs[i]) := by
      rw [atI_pos (by omega) (by rw [List.length_map]; omega), Int.toNat_natCast, List.getElem?_map, List.getElem?_eq_getElem hi]
      rfl
    have e2 : atI (ms.map D.int) (i : Int) = some (.int (ms[i]'(by omega))) := by
      rw [atI_pos (by omega) (by rw [List.length_map]; omega), Int.toNat_natCast, List.getElem?_map, List.getElem?_eq_getElem (by omega)]
      rfl
    walk_at "mir"
    rw [e1]
    walk_at "mir"
    rw [List.getElem?_append_left hx, ha]
    walk_at "mir"
    rw [e2]
    walk_at "mir"
    refine is_number_w b1 b2 ?_
    walk_at "mir"
  · have e : ((List.range vs.length).filter fun _ => false) = [] := List.filter_eq_nil_iff.mpr fun _ _ h => by cases h
    rw [e]
    exact k
theorem is_load_w {S : Mir.ST} {n : Nat} (h : n < 65536) (k : ∀ T, Q (.bl true) (S ++ T)) : wpR (m__law_is_instruction [(Rw.load n).d] S) Q X := by
  unfold m__law_is_instruction
  simp only [Rw.d]
  walk_at "mir"
  unfold b__law_is_instruction
  walk_at "mir"
  rw [show Mir.cutD [D.str "load", D.int 2, D.int 0, D.int (n : Int)] (some 1) none = [D.int 2, D.int 0, D.int (n : Int)] from rfl]
  refine ⟨fun h => absurd h (by decide), fun _ => ?_⟩
  refine r_ninR ?_
  walk_at "mir"
  refine r_lenS (n := 3) (by decide) (by decide) ?_
  walk_at "mir"
  refine mosts_w (["r", "r", "n"] : List Str) (by decide) ?_
  walk_at "mir"
  refine ⟨lim62_of (by decide) (by decide), ?_⟩
  refine last_w ([2, 0, (n : Int)] : List Int) ((["r", "r", "n"] : List Str).map mo) (by simp) (by simp) ?_ ?_ ?_
  · walk_at "mir"
  · intro i hi
    match i, hi with
    | 0, _ => exact ⟨show (0 : Int) ≤ 2 by decide, show (2 : Int) < 8 by decide⟩
    | 1, _ => exact ⟨show (0 : Int) ≤ 0 by decide, show (0 : Int) < 8 by decide⟩
    | 2, _ => exact ⟨Int.natCast_nonneg n, show ((n : Int) : Int) < 65536 by omega⟩
  walk_at "mir"
  refine w_eqL (ds := []) (es := []) (n := 1) (by walk_at "mir") (by walk_at "mir") (by simp) (by simp) (by decide) (fun _ => k _) (fun h => absurd rfl h)
theorem is_rest_w {S : Mir.ST}  (k : ∀ T, Q (.bl true) (S ++ T)) : wpR (m__law_is_instruction [Rw.rest.d] S) Q X := by
  unfold m__law_is_instruction
  simp only [Rw.d]
  walk_at "mir"
  unfold b__law_is_instruction
  walk_at "mir"
  rw [show Mir.cutD [D.str "rest"] (some 1) none = [] from rfl]
  refine ⟨fun h => absurd h (by decide), fun _ => ?_⟩
  refine r_ninR ?_
  walk_at "mir"
  refine r_lenS (n := 0) (by decide) (by decide) ?_
  walk_at "mir"
  refine mosts_w ([] : List Str) (by decide) ?_
  walk_at "mir"
  refine ⟨lim62_of (by decide) (by decide), ?_⟩
  refine last_w ([] : List Int) (([] : List Str).map mo) (by simp) (by simp) ?_ ?_ ?_
  · walk_at "mir"
  · intro i hi
    exact absurd hi (by simp)
  walk_at "mir"
  refine w_eqL (ds := []) (es := []) (n := 1) (by walk_at "mir") (by walk_at "mir") (by simp) (by simp) (by decide) (fun _ => k _) (fun h => absurd rfl h)
theorem is_go_w {S : Mir.ST}  (k : ∀ T, Q (.bl true) (S ++ T)) : wpR (m__law_is_instruction [Rw.go.d] S) Q X := by
  unfold m__law_is_instruction
  simp only [Rw.d]
  walk_at "mir"
  unfold b__law_is_instruction
  walk_at "mir"
  rw [show Mir.cutD [D.str "go", D.int 0] (some 1) none = [D.int 0] from rfl]
  refine ⟨fun h => absurd h (by decide), fun _ => ?_⟩
  refine r_ninR ?_
  walk_at "mir"
  refine r_lenS (n := 1) (by decide) (by decide) ?_
  walk_at "mir"
  refine mosts_w (["n"] : List Str) (by decide) ?_
  walk_at "mir"
  refine ⟨lim62_of (by decide) (by decide), ?_⟩
  refine last_w ([0] : List Int) ((["n"] : List Str).map mo) (by simp) (by simp) ?_ ?_ ?_
  · walk_at "mir"
  · intro i hi
    match i, hi with
    | 0, _ => exact ⟨show (0 : Int) ≤ 0 by decide, show (0 : Int) < 65536 by decide⟩
  walk_at "mir"
  refine w_eqL (ds := []) (es := []) (n := 1) (by walk_at "mir") (by walk_at "mir") (by simp) (by simp) (by decide) (fun _ => k _) (fun h => absurd rfl h)
theorem is_time_w {S : Mir.ST} {n : Nat} (h : n < 8) (k : ∀ T, Q (.bl true) (S ++ T)) : wpR (m__law_is_instruction [(Rw.time n).d] S) Q X := by
  unfold m__law_is_instruction
  simp only [Rw.d]
  walk_at "mir"
  unfold b__law_is_instruction
  walk_at "mir"
  rw [show Mir.cutD [D.str "time", D.int (n : Int)] (some 1) none = [D.int (n : Int)] from rfl]
  refine ⟨fun h => absurd h (by decide), fun _ => ?_⟩
  refine r_ninR ?_
  walk_at "mir"
  refine r_lenS (n := 1) (by decide) (by decide) ?_
  walk_at "mir"
  refine mosts_w (["r"] : List Str) (by decide) ?_
  walk_at "mir"
  refine ⟨lim62_of (by decide) (by decide), ?_⟩
  refine last_w ([(n : Int)] : List Int) ((["r"] : List Str).map mo) (by simp) (by simp) ?_ ?_ ?_
  · walk_at "mir"
  · intro i hi
    match i, hi with
    | 0, _ => exact ⟨Int.natCast_nonneg n, show ((n : Int) : Int) < 8 by omega⟩
  walk_at "mir"
  refine w_eqL (ds := []) (es := []) (n := 1) (by walk_at "mir") (by walk_at "mir") (by simp) (by simp) (by decide) (fun _ => k _) (fun h => absurd rfl h)
theorem is_op_w {S : Mir.ST}  (k : ∀ T, Q (.bl true) (S ++ T)) : wpR (m__law_is_instruction [Rw.sub.d] S) Q X := by
  unfold m__law_is_instruction
  simp only [Rw.d]
  walk_at "mir"
  unfold b__law_is_instruction
  walk_at "mir"
  rw [show Mir.cutD [D.str "op", D.str "-", D.int 1, D.int 4, D.int 3] (some 1) none = [D.str "-", D.int 1, D.int 4, D.int 3] from rfl]
  refine ⟨fun h => absurd h (by decide), fun _ => ⟨fun h => absurd rfl h, fun _ => ?_⟩⟩
  unfold m__law_signs
  walk_at "mir"
  unfold b__law_signs
  walk_at "mir"
  rw [show Mir.cutD [D.str "op", D.str "-", D.int 1, D.int 4, D.int 3] (some 2) none = [D.int 1, D.int 4, D.int 3] from rfl]
  refine r_ninR ?_
  walk_at "mir"
  refine r_lenS (n := 3) (by decide) (by decide) ?_
  walk_at "mir"
  refine mosts_w (["r", "r", "r"] : List Str) (by decide) ?_
  walk_at "mir"
  refine ⟨lim62_of (by decide) (by decide), ?_⟩
  refine last_w ([1, 4, 3] : List Int) ((["r", "r", "r"] : List Str).map mo) (by simp) (by simp) ?_ ?_ ?_
  · walk_at "mir"
  · intro i hi
    match i, hi with
    | 0, _ => exact ⟨show (0 : Int) ≤ 1 by decide, show (1 : Int) < 8 by decide⟩
    | 1, _ => exact ⟨show (0 : Int) ≤ 4 by decide, show (4 : Int) < 8 by decide⟩
    | 2, _ => exact ⟨show (0 : Int) ≤ 3 by decide, show (3 : Int) < 8 by decide⟩
  walk_at "mir"
  refine w_eqL (ds := []) (es := []) (n := 1) (by walk_at "mir") (by walk_at "mir") (by simp) (by simp) (by decide) (fun _ => k _) (fun h => absurd rfl h)
theorem is_fin_w {S : Mir.ST} (k : ∀ T, Q (.bl true) (S ++ T)) : wpR (m__law_is_instruction [Rw.fin.d] S) Q X := by
  unfold m__law_is_instruction
  simp only [Rw.d]
  walk_at "mir"
  unfold b__law_is_instruction
  walk_at "mir"
  have kk := k []
  rw [List.append_nil] at kk
  exact ⟨fun h => absurd h (by decide), fun _ => ⟨fun _ => kk, fun h => absurd rfl h⟩⟩
theorem is_instruction_w {S : Mir.ST} {r : Rw} (h : r.ok) (k : ∀ T, Q (.bl true) (S ++ T)) : wpR (m__law_is_instruction [r.d] S) Q X := by
  cases r with
  | load n => exact is_load_w h k
  | rest => exact is_rest_w k
  | go => exact is_go_w k
  | time n => exact is_time_w h k
  | sub => exact is_op_w k
  | fin => exact is_fin_w k

end
section
variable {Q : D → Mir.ST → Prop} {X : XQ}
theorem lc_zero {S : Mir.ST} {g0 g1 g2 : Option D} (size : Nat) (hs : size ≤ 1000) (k : Q (.ref S.length) (S ++ [.lst []])) :
    kLc (.nm 1) (Mir.tNot (tTru (eFn 2 m__law_is_number (aCons (eV 1) (aCons (eC (.int 4294967296)) aNil))))) (eV 1) [1] [g0, g1, g2] Q X ⟨List.replicate size (.int 0), none⟩ S := by
  refine lc_map (List.replicate size (0 : Int)) D.int (fun _ => false) (fun _ => .non) (by simp) (fun _ => True.intro) (by rw [List.length_replicate]; unfold SZ; omega) (fun i hi acc => ?_) ?_
  · have hi := (List.mem_replicate.mp hi).2
    subst hi
    refine ⟨_, rfl, ?_⟩
    walk_at "mir"
    refine is_number_w (by decide) (by decide) ?_
    walk_at "mir"
  · have e : ((List.replicate size (0 : Int)).filter fun _ => false) = [] := List.filter_eq_nil_iff.mpr fun _ _ h => by cases h
    rw [e]
    exact k
theorem lc_rows {S : Mir.ST} {g0 g1 g2 : Option D} (rows : List Rw) (hl : rows.length ≤ 42) (ho : ∀ r ∈ rows, r.ok) (k : ∀ T, Q (.ref S.length) (S ++ .lst [] :: T)) :
    kLc (.nm 2) (Mir.tNot (tTru (eFn 1 m__law_is_instruction (aCons (eV 2) aNil)))) (eV 2) [2] [g0, g1, g2] Q X ⟨rows.map Rw.d, none⟩ S := by
  refine lc_grow rows Rw.d (fun _ => false) (fun _ => .non) rfl (fun _ _ => True.intro) (by unfold SZ; omega) (fun r hr acc T => ?_) fun T => ?_
  · refine ⟨_, rfl, ?_⟩
    walk_at "mir"
    refine is_instruction_w (ho r hr) fun T2 => ?_
    walk_at "mir"
    exact ⟨T ++ T2, by simp⟩
  · have e : (rows.filter fun _ => false) = [] := List.filter_eq_nil_iff.mpr fun _ _ h => by cases h
    rw [e]
    exact k T
theorem is_guest_w {S : Mir.ST} (rows : List Rw) (size : Nat) (hs : size ≤ 1000) (hl : rows.length ≤ 42) (hl1 : 1 ≤ rows.length) (ho : ∀ r ∈ rows, r.ok) (k : ∀ T, Q (.bl true) (S ++ T)) : wpR (m__law_is_guest [gst rows size] S) Q X := by
  unfold m__law_is_guest
  rw [gst_d]
  walk_at "mir"
  unfold b__law_is_guest
  walk_at "mir"
  refine ⟨fun h => absurd rfl h, fun _ => ⟨fun _ => ⟨fun h => absurd h (by omega), fun _ => ?_⟩, fun h => absurd h (by omega)⟩⟩
  refine is_number_w (by omega) (by omega) ?_
  walk_at "mir"
  simp only [List.length_replicate]
  walk_at "mir"
  refine lc_zero size hs ?_
  walk_at "mir"
  refine w_neL (ds := []) (es := []) (n := 1) get_app0 (by walk_at "mir") (by simp) (by simp) (by decide) (fun _ => ?_) (fun h => absurd rfl h)
  walk_at "mir"
  refine lc_rows rows hl ho fun T => ?_
  walk_at "mir"
  have e1 : (S ++ O.lst [] :: O.lst [] :: O.lst [] :: (T ++ [O.lst []]))[S.length + 2]? = some (.lst []) := by walk_at "mir"
  have e2 : (S ++ O.lst [] :: O.lst [] :: O.lst [] :: (T ++ [O.lst []]))[S.length + (T.length + 3)]? = some (.lst []) := by
    rw [List.getElem?_append_right (by omega), show S.length + (T.length + 3) - S.length = T.length + 1 + 1 + 1 by omega, List.getElem?_cons_succ, List.getElem?_cons_succ, List.getElem?_cons_succ, List.getElem?_append_right (by omega), Nat.sub_self]
    rfl
  refine w_eqL (ds := []) (es := []) (n := 1) e1 e2 (by simp) (by simp) (by decide) (fun _ => ?_) (fun h => absurd rfl h)
  exact k _

end
local macro_rules | `(tactic| walk_at "mir") => `(tactic| simp -implicitDefEqProofs only [wp_ok, wp_sSeq, seq_nx, seq_rt, seq_ex, kx_seq, kx_mk, kRet_seq, kRet_mk, kRet_fe, kx_fe, fe_ex, seq_bk, seq_ct, wp_sNil, wp_sBreak, wp_sCont, wp_sRetN, wp_sExpr, kExpr_eq, wp_sRet, kRet_eq, wp_sSet, kSet_eq, wp_sSetT, wp_sIf, kIfS_d, kIfS_n, kIfS_t, kIfS_f, wp_sPar, kPar_eq, wp_sPar3, kPar3_eq, r_cix, r_sumT, wp_sAug, kAug_eq, kAug2_eq, wp_sPut, kPut1_eq, kPut2_eq, kPut3_ref, wp_sPutAug, wp_sSlc, kSc1_eq, kSc2_eq, kSc3_eq, kSc4_ref, r_tupR2, r_lstR2, set_app_lt, kPA1_eq, kPA3_eq, wp_sFld, kFld1_eq, wp_sFldAug, kFA0_eq, kFA1_eq, kFA2_eq, wp_sFor, wp_iSeq, kSeq_tup, kSeq_fl, wp_iRg1, kRg1_eq, wp_iRg2, kRg2_eq, wp_iRgC, kRgC_eq,
  wp_eV, kV_some, wp_eC, wp_e2, k2a_eq, k2b_eq, wp_e1, k1_eq, wp_eCall, wp_aNil, wp_aCons, kC1_eq, kC2_eq, wp_eTup, kTup_eq, wp_eLst, kLst_eq, wp_eFn, kFn_eq, wp_tb, kTb_eq, wp_tTru, kTru_bl, wp_tAnd, kAnd_d, kAnd_n, kAnd_t, kAnd_f, wp_tOr, kOr_d, kOr_n, kOr_t, kOr_f, wp_tNot, kNot_eq, wp_eIf, kIf_d, kIf_n, kIf_t, kIf_f, wp_eAnd, kAndV_d, kAndV_n, kAndV_t, kAndV_f, wp_eOr, kOrV_d, kOrV_n, kOrV_t, kOrV_f, wp_eNot, kNotV_bl, wp_eChain, kCh1_eq, kCh2_eq, kCh3_eq, wp_eSl, kSl1_eq, kSl2_eq, kSl3_eq, wp_oNone, wp_oSome, kO_eq, wp_eBm, kBm_eq, kBm2_eq, wp_eBm0, kBm0_eq, wp_eMeth, kMt2_eq, wp_eMake, kMk_eq, kMkI_eq, wp_eDict, wp_pairs_nil, wp_pairs_cons, kP1_eq, kP2_eq, kP3_eq, wp_eLc, wp_allocO, fe_nx, fe_rt,
  r_add, r_addS, r_addT, r_iadd, r_sub, r_mul, r_fdiv, r_mod, r_pow, r_shl, r_shr, r_and, r_or, r_xor, r_neg, r_lt, r_le, r_gt, r_ge, r_eqI, r_eqS, r_eqB, r_neI, r_neS, r_neB, r_isB, r_isNB, r_is0, r_isI, r_isT, r_isNot0, r_isNotI, r_isNotT, r_int, r_intB, r_abs, r_max2, r_min2, r_lenT, r_lenF, r_lenR, kLen_lst, kLen_dk, kOpt_some, r_ixT, r_ixF, r_ixR, kIx_lst, kIx_dkS, kIx_dkI, look_cons, inr_inj, inl_inj, ofS_inj, String.reduceEq, reduceIte, kPutO_dkS, kPutO_dkI, r_append, sl_ref, kPA2_ref, kPAo_dkS, kPAo_dkI, kPA4_ref, kPDo_dkS, kPDo_dkI,
  List.getElem?_cons_zero, List.getElem?_cons_succ, List.set_cons_zero, List.set_cons_succ, List.length_cons, List.length_nil, List.map_cons, List.map_nil, List.cons_append, List.nil_append, List.replicate_succ, List.replicate_zero, decide_eq_true_eq, decide_eq_false_iff_not, decide_true, decide_false, Bool.not_true, Bool.not_false, Nat.reduceAdd, tyD_ref, beq_self_eq_true, Int.zero_add, Int.mul_one, Int.toNat_natCast, Nat.zero_add, wp_mkFn, eq_self, put8_0, put8_1, put8_2, put8_3, put8_4, cp_page, cp_loaded, cp_first, cp_second, r_mulT, r_fld, kFldO_ins, lk_nil, lk_cons, kFld2_ref, kFA3_ref, kFlO_ins, kMt_ref, kMtO_ins, kMtM_some, putA_nil, putA_cons, mem_one, mem_two, mem_three, or_true, true_or, kLsO_lst, r_pop0, r_popAt0, r_insert, r_extend, r_tupR, r_tupT, r_tupF, r_listR, r_listT, r_listF, r_addR, kSeq_refO, set_get, set_get', set_same, List.take_zero, List.drop_zero, r_mulR, List.flatten_replicate_singleton, wipe_nil, wipe_cons, wp_tYes, kSetT_ref, kSetT_tup, kSetT_nm, setG_nil, setG_cons, atI_0, atI_1, atI_2, atI_3, atI_4, atI_5, atI_6, atI_7, List.length_set, List.set_set, List.getElem?_append_left, List.head?_cons, List.tail_cons, sz_le, sz_lt, Nat.reduceLeDiff, Nat.reduceLT, Nat.reduceSub, lim64_of, lim62_of, cMod_of, cDiv_of, cNn_of, cPow_of, Int.reduceLT, Int.reduceLE, Int.reduceNeg, Int.reduceToNat, Int.reduceAdd, r_inT, r_ninT, flat_int, flat_str, flat_bl, eqF_int, eqF_str, dec_or, List.all_cons, List.all_nil, List.any_cons, List.any_nil, Bool.and_self, Bool.and_true, Bool.or_false, Bool.false_or, Bool.true_or, Bool.or_true, r_isi, kIsi_some, tyN_non, tyN_bl, tyN_int, tyN_str, tyN_tup, tyN_fl, tyN_ref, tyO_lst, tyO_dk, subN_int, subN_bool, subN_str, subN_tuple, subN_list, subN_dict, Option.bind_some, String.reduceBEq, r_isS, r_isBl, r_isR, r_isF, r_isNotS, r_isNotBl, r_isNotR, r_isNotF, reduceCtorEq, kDict_dk, kDk_some, keysD_nil, keysD_s, keysD_i, Option.map_some, dmerge_def, List.foldl_cons, List.foldl_nil, dput_nil, dput_n, dput_h, List.forall_mem_cons, List.not_mem_nil, true_imp_iff, false_imp_iff, implies_true, ne_eq, not_false_eq_true, not_true_eq_false, get_app, get_app0, set_app, set_app0, get_appE, get_appE0, set_appE, set_appE0, List.length_map, List.length_append, List.append_assoc, Nat.add_assoc, Nat.reduceEqDiff, true_and, and_true])
local macro_rules | `(tactic| walk_at "mirs") => `(tactic| simp -implicitDefEqProofs only [wp_ok, wp_sSeq, seq_nx, seq_rt, seq_ex, kx_seq, kx_mk, kRet_seq, kRet_mk, kRet_fe, kx_fe, fe_ex, seq_bk, seq_ct, wp_sNil, wp_sBreak, wp_sCont, wp_sRetN, wp_sExpr, kExpr_eq, wp_sRet, kRet_eq, wp_sSet, kSet_eq, wp_sSetT, wp_sIf, kIfS_d, kIfS_n, kIfS_t, kIfS_f, wp_sPar, kPar_eq, wp_sPar3, kPar3_eq, r_cix, r_sumT, wp_sAug, kAug_eq, kAug2_eq, wp_sPut, kPut1_eq, kPut2_eq, kPut3_ref, wp_sPutAug, wp_sSlc, kSc1_eq, kSc2_eq, kSc3_eq, kSc4_ref, r_tupR2, r_lstR2, set_app_lt, kPA1_eq, kPA3_eq, wp_sFld, kFld1_eq, wp_sFldAug, kFA0_eq, kFA1_eq, kFA2_eq, wp_sFor, wp_iSeq, kSeq_tup, kSeq_fl, wp_iRg1, kRg1_eq, wp_iRg2, kRg2_eq, wp_iRgC, kRgC_eq,
  wp_eV, kV_some, wp_eC, wp_e2, k2a_eq, k2b_eq, wp_e1, k1_eq, wp_eCall, wp_aNil, wp_aCons, kC1_eq, kC2_eq, wp_eTup, kTup_eq, wp_eLst, kLst_eq, wp_eFn, kFn_eq, wp_tb, kTb_eq, wp_tTru, kTru_bl, wp_tAnd, kAnd_d, kAnd_n, kAnd_t, kAnd_f, wp_tOr, kOr_d, kOr_n, kOr_t, kOr_f, wp_tNot, kNot_eq, wp_eIf, kIf_d, kIf_n, kIf_t, kIf_f, wp_eAnd, kAndV_d, kAndV_n, kAndV_t, kAndV_f, wp_eOr, kOrV_d, kOrV_n, kOrV_t, kOrV_f, wp_eNot, kNotV_bl, wp_eChain, kCh1_eq, kCh2_eq, kCh3_eq, wp_eSl, kSl1_eq, kSl2_eq, kSl3_eq, wp_oNone, wp_oSome, kO_eq, wp_eBm, kBm_eq, kBm2_eq, wp_eBm0, kBm0_eq, wp_eMeth, kMt2_eq, wp_eMake, kMk_eq, kMkI_eq, wp_eDict, wp_pairs_nil, wp_pairs_cons, kP1_eq, kP2_eq, kP3_eq, wp_eLc, wp_allocO, fe_nx, fe_rt,
  r_add, r_addS, r_addT, r_iadd, r_sub, r_mul, r_fdiv, r_mod, r_pow, r_shl, r_shr, r_and, r_or, r_xor, r_neg, r_lt, r_le, r_gt, r_ge, r_eqI, r_eqS, r_eqB, r_neI, r_neS, r_neB, r_isB, r_isNB, r_is0, r_isI, r_isT, r_isNot0, r_isNotI, r_isNotT, r_int, r_intB, r_abs, r_max2, r_min2, r_lenT, r_lenF, r_lenR, kLen_lst, kLen_dk, kOpt_some, r_ixT, r_ixF, r_ixR, kIx_lst, kIx_dkS, kIx_dkI, look_cons, inr_inj, inl_inj, ofS_inj, String.reduceEq, reduceIte, kPutO_dkS, kPutO_dkI, r_append, sl_ref, kPA2_ref, kPAo_dkS, kPAo_dkI, kPA4_ref, kPDo_dkS, kPDo_dkI,
  List.getElem?_cons_zero, List.getElem?_cons_succ, List.set_cons_zero, List.set_cons_succ, List.length_cons, List.length_nil, List.map_cons, List.map_nil, List.cons_append, List.nil_append, List.replicate_succ, List.replicate_zero, decide_eq_true_eq, decide_eq_false_iff_not, decide_true, decide_false, Bool.not_true, Bool.not_false, Nat.reduceAdd, tyD_ref, beq_self_eq_true, Int.zero_add, Int.mul_one, Int.toNat_natCast, Nat.zero_add, wp_mkFn, eq_self, put8_0, put8_1, put8_2, put8_3, put8_4, cp_page, cp_loaded, cp_first, cp_second, r_mulT, r_fld, kFldO_ins, lk_nil, lk_cons, kFld2_ref, kFA3_ref, kFlO_ins, kMt_ref, kMtO_ins, kMtM_some, putA_nil, putA_cons, mem_one, mem_two, mem_three, or_true, true_or, kLsO_lst, r_pop0, r_popAt0, r_insert, r_extend, r_tupR, r_tupT, r_tupF, r_listR, r_listT, r_listF, r_addR, kSeq_refO, set_get, set_get', set_same, List.take_zero, List.drop_zero, r_mulR, List.flatten_replicate_singleton, wipe_nil, wipe_cons, wp_tYes, kSetT_ref, kSetT_tup, kSetT_nm, setG_nil, setG_cons, atI_0, atI_1, atI_2, atI_3, atI_4, atI_5, atI_6, atI_7, List.length_set, List.set_set, List.getElem?_append_left, List.head?_cons, List.tail_cons, sz_le, sz_lt, Nat.reduceLeDiff, Nat.reduceLT, Nat.reduceSub, lim64_of, lim62_of, cMod_of, cDiv_of, cNn_of, cPow_of, Int.reduceLT, Int.reduceLE, Int.reduceNeg, Int.reduceToNat, Int.reduceAdd, r_inT, r_ninT, flat_int, flat_str, flat_bl, eqF_int, eqF_str, dec_or, List.all_cons, List.all_nil, List.any_cons, List.any_nil, Bool.and_self, Bool.and_true, Bool.or_false, Bool.false_or, Bool.true_or, Bool.or_true, r_isi, kIsi_some, tyN_non, tyN_bl, tyN_int, tyN_str, tyN_tup, tyN_fl, tyN_ref, tyO_lst, tyO_dk, subN_int, subN_bool, subN_str, subN_tuple, subN_list, subN_dict, Option.bind_some, String.reduceBEq, r_isS, r_isBl, r_isR, r_isF, r_isNotS, r_isNotBl, r_isNotR, r_isNotF, reduceCtorEq, kDict_dk, kDk_some, keysD_nil, keysD_s, keysD_i, Option.map_some, dmerge_def, List.foldl_cons, List.foldl_nil, dput_nil, dput_n, dput_h, List.forall_mem_cons, List.not_mem_nil, true_imp_iff, false_imp_iff, implies_true, ne_eq, not_false_eq_true, not_true_eq_false, get_app, get_app0, set_app, set_app0, get_appE, get_appE0, set_appE, set_appE0, List.length_map, List.length_append, List.append_assoc, Nat.add_assoc, Nat.reduceEqDiff, true_and, and_true, *])
local macro_rules | `(tactic| walk_at "sd") => `(tactic| first | with_reducible rfl | decide | (have hSZ : SZ = 16777216 := rfl; first | exact cMod_of (by omega) | exact lim64_l (by omega) (by omega) | exact lim64_r (by omega) (by omega) | exact cNn_of (by omega) | exact cDiv_of (by omega) (by omega) | exact cPow_of (by omega) (by omega) (by omega) (by omega) | exact lim62_of (by omega) (by omega) | exact lim64_of (by omega) (by omega) | omega | ((try simp only [List.length_map, List.length_append, List.length_cons, List.length_nil] at *); (have hSZ : SZ = 16777216 := rfl); omega)))
local macro_rules | `(tactic| walk_at "side") => `(tactic| repeat (with_reducible refine And.intro (by walk_at "sd") ?_))

section
/-! ### the three guests -/
def callRows (many stride : Nat) : List Rw := (List.range many).map (fun k => Rw.load (up16 (many + 2) + k * stride)) ++ [.rest, .go]
def hearRows (a : Nat) : List Rw := [.load (16 + a), .rest, .time 3, .load (16 + a), .time 4, .sub, .rest, .fin]
variable {Q : D → Mir.ST → Prop} {X : XQ}
theorem base_w {S : Mir.ST} (n : Nat) (h : n ≤ 1000) (k : Q (.int (up16 n : Nat)) S) : wpR (m_data_base [.int (n : Int)] S) Q X := by
  unfold m_data_base
  walk_at "mir"
  unfold b_data_base
  walk_at "mir"
  walk_at "side"
  have e : ((up16 n : Nat) : Int) = ((n : Int) + 16 - 1) / 16 * 16 := by unfold up16; omega
  rw [e] at k
  exact k
theorem caller_w {S : Mir.ST} (many stride : Nat) (h1 : 1 ≤ many) (h2 : many ≤ 40) (h3 : 1 ≤ stride) (h4 : many * stride ≤ 999) (k : ∀ T, Q (gst (callRows many stride) (many * stride + 1)) (S ++ T)) :
    wpR (m_caller [.int (many : Int), .int (stride : Int)] S) Q X := by
  have h5 : stride ≤ 999 := Nat.le_trans (Nat.le_mul_of_pos_left stride h1) h4
  have h6 : up16 (many + 2) ≤ 48 := by unfold up16; omega
  unfold m_caller
  walk_at "mir"
  unfold b_caller
  walk_at "mir"
  walk_at "side"
  refine base_w (n := many + 2) (by omega) ?_
  walk_at "mir"
  refine ⟨lim62_of (by omega) (by omega), ?_⟩
  generalize hb : up16 (many + 2) = b at *
  refine lc_map (List.range many) (fun k : Nat => .int (k : Int)) (fun _ => true) (fun i => (Rw.load (b + i * stride)).d) rngD_map (fun _ => True.intro) (by rw [List.length_range]; unfold SZ; omega) (fun i hi acc => ?_) ?_
  · have hi := List.mem_range.mp hi
    refine ⟨_, rfl, ?_⟩
    walk_at "mir"
    refine ⟨lim64_l (by omega) (by omega), ?_⟩
    simp only [Rw.d, Int.natCast_add, Int.natCast_mul]
  · have e : ((List.range many).filter fun _ => true) = List.range many := List.filter_eq_self.mpr fun _ _ => rfl
    rw [e]
    walk_at "mir"
    refine ⟨by rw [List.length_range]; unfold SZ; omega, ?_⟩
    refine ⟨lim64_l (by omega) (by omega), ?_⟩
    have hp : (many : Int) * (stride : Int) + 1 = ((many * stride + 1 : Nat) : Int) := by rw [Int.natCast_add, Int.natCast_mul]; rfl
    have h7 : 1 ≤ many * stride := Nat.mul_le_mul h1 h3
    rw [hp, Int.toNat_natCast]
    refine ⟨⟨by omega, by omega⟩, ?_⟩
    have e3 : (callRows many stride).map Rw.d = List.map (fun i => (Rw.load (b + i * stride)).d) (List.range many) ++ [D.tup [D.str "rest"], D.tup [D.str "go", D.int 0]] := by
      unfold callRows
      rw [hb, List.map_append, List.map_map]
      rfl
    have kk := fun T => k T
    rw [gst_d, e3] at kk
    exact kk _
theorem listener_w {S : Mir.ST} (a many : Nat) (h1 : 1 ≤ many) (h2 : a + 16 * many ≤ 900) (k : Q (gst (hearRows a) (a + 16 * many + 1)) S) :
    wpR (m_listener [.int (a : Int), .int (many : Int)] S) Q X := by
  unfold m_listener
  walk_at "mir"
  unfold b_listener
  walk_at "mir"
  refine base_w (n := 8) (by omega) ?_
  walk_at "mir"
  refine ⟨⟨by omega, by omega⟩, ?_⟩
  have e1 : ((a : Int) + 16 * (many : Int) + 1) = ((a + 16 * many + 1 : Nat) : Int) := by omega
  have e2 : ((up16 8 : Nat) : Int) + (a : Int) = ((16 + a : Nat) : Int) := by rw [show up16 8 = 16 from rfl]; omega
  rw [e1, e2, Int.toNat_natCast]
  exact k

end
local macro_rules | `(tactic| walk_at "mir") => `(tactic| simp -implicitDefEqProofs only [wp_ok, wp_sSeq, seq_nx, seq_rt, seq_ex, kx_seq, kx_mk, kRet_seq, kRet_mk, kRet_fe, kx_fe, fe_ex, seq_bk, seq_ct, wp_sNil, wp_sBreak, wp_sCont, wp_sRetN, wp_sExpr, kExpr_eq, wp_sRet, kRet_eq, wp_sSet, kSet_eq, wp_sSetT, wp_sIf, kIfS_d, kIfS_n, kIfS_t, kIfS_f, wp_sPar, kPar_eq, wp_sPar3, kPar3_eq, r_cix, r_sumT, wp_sAug, kAug_eq, kAug2_eq, wp_sPut, kPut1_eq, kPut2_eq, kPut3_ref, wp_sPutAug, wp_sSlc, kSc1_eq, kSc2_eq, kSc3_eq, kSc4_ref, r_tupR2, r_lstR2, set_app_lt, kPA1_eq, kPA3_eq, wp_sFld, kFld1_eq, wp_sFldAug, kFA0_eq, kFA1_eq, kFA2_eq, wp_sFor, wp_iSeq, kSeq_tup, kSeq_fl, wp_iRg1, kRg1_eq, wp_iRg2, kRg2_eq, wp_iRgC, kRgC_eq,
  wp_eV, kV_some, wp_eC, wp_e2, k2a_eq, k2b_eq, wp_e1, k1_eq, wp_eCall, wp_aNil, wp_aCons, kC1_eq, kC2_eq, wp_eTup, kTup_eq, wp_eLst, kLst_eq, wp_eFn, kFn_eq, wp_tb, kTb_eq, wp_tTru, kTru_bl, wp_tAnd, kAnd_d, kAnd_n, kAnd_t, kAnd_f, wp_tOr, kOr_d, kOr_n, kOr_t, kOr_f, wp_tNot, kNot_eq, wp_eIf, kIf_d, kIf_n, kIf_t, kIf_f, wp_eAnd, kAndV_d, kAndV_n, kAndV_t, kAndV_f, wp_eOr, kOrV_d, kOrV_n, kOrV_t, kOrV_f, wp_eNot, kNotV_bl, wp_eChain, kCh1_eq, kCh2_eq, kCh3_eq, wp_eSl, kSl1_eq, kSl2_eq, kSl3_eq, wp_oNone, wp_oSome, kO_eq, wp_eBm, kBm_eq, kBm2_eq, wp_eBm0, kBm0_eq, wp_eMeth, kMt2_eq, wp_eMake, kMk_eq, kMkI_eq, wp_eDict, wp_pairs_nil, wp_pairs_cons, kP1_eq, kP2_eq, kP3_eq, wp_eLc, wp_allocO, fe_nx, fe_rt,
  r_add, r_addS, r_addT, r_iadd, r_sub, r_mul, r_fdiv, r_mod, r_pow, r_shl, r_shr, r_and, r_or, r_xor, r_neg, r_lt, r_le, r_gt, r_ge, r_eqI, r_eqS, r_eqB, r_neI, r_neS, r_neB, r_isB, r_isNB, r_is0, r_isI, r_isT, r_isNot0, r_isNotI, r_isNotT, r_int, r_intB, r_abs, r_max2, r_min2, r_lenT, r_lenF, r_lenR, kLen_lst, kLen_dk, kOpt_some, r_ixT, r_ixF, r_ixR, kIx_lst, kIx_dkS, kIx_dkI, look_cons, inr_inj, inl_inj, ofS_inj, String.reduceEq, reduceIte, kPutO_dkS, kPutO_dkI, r_append, sl_ref, kPA2_ref, kPAo_dkS, kPAo_dkI, kPA4_ref, kPDo_dkS, kPDo_dkI,
  List.getElem?_cons_zero, List.getElem?_cons_succ, List.set_cons_zero, List.set_cons_succ, List.length_cons, List.length_nil, List.map_cons, List.map_nil, List.cons_append, List.nil_append, List.replicate_succ, List.replicate_zero, decide_eq_true_eq, decide_eq_false_iff_not, decide_true, decide_false, Bool.not_true, Bool.not_false, Nat.reduceAdd, tyD_ref, beq_self_eq_true, Int.zero_add, Int.mul_one, Int.toNat_natCast, Nat.zero_add, wp_mkFn, eq_self, put8_0, put8_1, put8_2, put8_3, put8_4, r_fld, kFldO_ins, lk_nil, lk_cons, kFld2_ref, kFA3_ref, kFlO_ins, kMt_ref, kMtO_ins, kMtM_some, putA_nil, putA_cons, mem_one, mem_two, mem_three, or_true, true_or, kLsO_lst, r_pop0, r_popAt0, r_insert, r_extend, r_tupR, r_tupT, r_tupF, r_listR, r_listT, r_listF, r_addR, kSeq_refO, set_get, set_get', set_same, List.take_zero, List.drop_zero, r_mulR, List.flatten_replicate_singleton, wipe_nil, wipe_cons, wp_tYes, kSetT_ref, kSetT_tup, kSetT_nm, setG_nil, setG_cons, atI_0, atI_1, atI_2, atI_3, atI_4, atI_5, atI_6, atI_7, List.length_set, List.set_set, List.getElem?_append_left, List.head?_cons, List.tail_cons, sz_le, sz_lt, Nat.reduceLeDiff, Nat.reduceLT, Nat.reduceSub, lim64_of, lim62_of, cMod_of, cDiv_of, cNn_of, cPow_of, Int.reduceLT, Int.reduceLE, Int.reduceNeg, Int.reduceToNat, Int.reduceAdd, r_inT, r_ninT, flat_int, flat_str, flat_bl, eqF_int, eqF_str, dec_or, List.all_cons, List.all_nil, List.any_cons, List.any_nil, Bool.and_self, Bool.and_true, Bool.or_false, Bool.false_or, Bool.true_or, Bool.or_true, r_isi, kIsi_some, tyN_non, tyN_bl, tyN_int, tyN_str, tyN_tup, tyN_fl, tyN_ref, tyO_lst, tyO_dk, subN_int, subN_bool, subN_str, subN_tuple, subN_list, subN_dict, Option.bind_some, String.reduceBEq, r_isS, r_isBl, r_isR, r_isF, r_isNotS, r_isNotBl, r_isNotR, r_isNotF, reduceCtorEq, kDict_dk, kDk_some, keysD_nil, keysD_s, keysD_i, Option.map_some, dmerge_def, List.foldl_cons, List.foldl_nil, dput_nil, dput_n, dput_h, List.forall_mem_cons, List.not_mem_nil, true_imp_iff, false_imp_iff, implies_true, ne_eq, not_false_eq_true, not_true_eq_false, get_app, get_app0, set_app, set_app0, get_appE, get_appE0, set_appE, set_appE0, List.length_map, List.length_append, List.append_assoc, Nat.add_assoc, Nat.reduceEqDiff, true_and, and_true])
local macro_rules | `(tactic| walk_at "mirs") => `(tactic| simp -implicitDefEqProofs only [wp_ok, wp_sSeq, seq_nx, seq_rt, seq_ex, kx_seq, kx_mk, kRet_seq, kRet_mk, kRet_fe, kx_fe, fe_ex, seq_bk, seq_ct, wp_sNil, wp_sBreak, wp_sCont, wp_sRetN, wp_sExpr, kExpr_eq, wp_sRet, kRet_eq, wp_sSet, kSet_eq, wp_sSetT, wp_sIf, kIfS_d, kIfS_n, kIfS_t, kIfS_f, wp_sPar, kPar_eq, wp_sPar3, kPar3_eq, r_cix, r_sumT, wp_sAug, kAug_eq, kAug2_eq, wp_sPut, kPut1_eq, kPut2_eq, kPut3_ref, wp_sPutAug, wp_sSlc, kSc1_eq, kSc2_eq, kSc3_eq, kSc4_ref, r_tupR2, r_lstR2, set_app_lt, kPA1_eq, kPA3_eq, wp_sFld, kFld1_eq, wp_sFldAug, kFA0_eq, kFA1_eq, kFA2_eq, wp_sFor, wp_iSeq, kSeq_tup, kSeq_fl, wp_iRg1, kRg1_eq, wp_iRg2, kRg2_eq, wp_iRgC, kRgC_eq,
  wp_eV, kV_some, wp_eC, wp_e2, k2a_eq, k2b_eq, wp_e1, k1_eq, wp_eCall, wp_aNil, wp_aCons, kC1_eq, kC2_eq, wp_eTup, kTup_eq, wp_eLst, kLst_eq, wp_eFn, kFn_eq, wp_tb, kTb_eq, wp_tTru, kTru_bl, wp_tAnd, kAnd_d, kAnd_n, kAnd_t, kAnd_f, wp_tOr, kOr_d, kOr_n, kOr_t, kOr_f, wp_tNot, kNot_eq, wp_eIf, kIf_d, kIf_n, kIf_t, kIf_f, wp_eAnd, kAndV_d, kAndV_n, kAndV_t, kAndV_f, wp_eOr, kOrV_d, kOrV_n, kOrV_t, kOrV_f, wp_eNot, kNotV_bl, wp_eChain, kCh1_eq, kCh2_eq, kCh3_eq, wp_eSl, kSl1_eq, kSl2_eq, kSl3_eq, wp_oNone, wp_oSome, kO_eq, wp_eBm, kBm_eq, kBm2_eq, wp_eBm0, kBm0_eq, wp_eMeth, kMt2_eq, wp_eMake, kMk_eq, kMkI_eq, wp_eDict, wp_pairs_nil, wp_pairs_cons, kP1_eq, kP2_eq, kP3_eq, wp_eLc, wp_allocO, fe_nx, fe_rt,
  r_add, r_addS, r_addT, r_iadd, r_sub, r_mul, r_fdiv, r_mod, r_pow, r_shl, r_shr, r_and, r_or, r_xor, r_neg, r_lt, r_le, r_gt, r_ge, r_eqI, r_eqS, r_eqB, r_neI, r_neS, r_neB, r_isB, r_isNB, r_is0, r_isI, r_isT, r_isNot0, r_isNotI, r_isNotT, r_int, r_intB, r_abs, r_max2, r_min2, r_lenT, r_lenF, r_lenR, kLen_lst, kLen_dk, kOpt_some, r_ixT, r_ixF, r_ixR, kIx_lst, kIx_dkS, kIx_dkI, look_cons, inr_inj, inl_inj, ofS_inj, String.reduceEq, reduceIte, kPutO_dkS, kPutO_dkI, r_append, sl_ref, kPA2_ref, kPAo_dkS, kPAo_dkI, kPA4_ref, kPDo_dkS, kPDo_dkI,
  List.getElem?_cons_zero, List.getElem?_cons_succ, List.set_cons_zero, List.set_cons_succ, List.length_cons, List.length_nil, List.map_cons, List.map_nil, List.cons_append, List.nil_append, List.replicate_succ, List.replicate_zero, decide_eq_true_eq, decide_eq_false_iff_not, decide_true, decide_false, Bool.not_true, Bool.not_false, Nat.reduceAdd, tyD_ref, beq_self_eq_true, Int.zero_add, Int.mul_one, Int.toNat_natCast, Nat.zero_add, wp_mkFn, eq_self, put8_0, put8_1, put8_2, put8_3, put8_4, r_fld, kFldO_ins, lk_nil, lk_cons, kFld2_ref, kFA3_ref, kFlO_ins, kMt_ref, kMtO_ins, kMtM_some, putA_nil, putA_cons, mem_one, mem_two, mem_three, or_true, true_or, kLsO_lst, r_pop0, r_popAt0, r_insert, r_extend, r_tupR, r_tupT, r_tupF, r_listR, r_listT, r_listF, r_addR, kSeq_refO, set_get, set_get', set_same, List.take_zero, List.drop_zero, r_mulR, List.flatten_replicate_singleton, wipe_nil, wipe_cons, wp_tYes, kSetT_ref, kSetT_tup, kSetT_nm, setG_nil, setG_cons, atI_0, atI_1, atI_2, atI_3, atI_4, atI_5, atI_6, atI_7, List.length_set, List.set_set, List.getElem?_append_left, List.head?_cons, List.tail_cons, sz_le, sz_lt, Nat.reduceLeDiff, Nat.reduceLT, Nat.reduceSub, lim64_of, lim62_of, cMod_of, cDiv_of, cNn_of, cPow_of, Int.reduceLT, Int.reduceLE, Int.reduceNeg, Int.reduceToNat, Int.reduceAdd, r_inT, r_ninT, flat_int, flat_str, flat_bl, eqF_int, eqF_str, dec_or, List.all_cons, List.all_nil, List.any_cons, List.any_nil, Bool.and_self, Bool.and_true, Bool.or_false, Bool.false_or, Bool.true_or, Bool.or_true, r_isi, kIsi_some, tyN_non, tyN_bl, tyN_int, tyN_str, tyN_tup, tyN_fl, tyN_ref, tyO_lst, tyO_dk, subN_int, subN_bool, subN_str, subN_tuple, subN_list, subN_dict, Option.bind_some, String.reduceBEq, r_isS, r_isBl, r_isR, r_isF, r_isNotS, r_isNotBl, r_isNotR, r_isNotF, reduceCtorEq, kDict_dk, kDk_some, keysD_nil, keysD_s, keysD_i, Option.map_some, dmerge_def, List.foldl_cons, List.foldl_nil, dput_nil, dput_n, dput_h, List.forall_mem_cons, List.not_mem_nil, true_imp_iff, false_imp_iff, implies_true, ne_eq, not_false_eq_true, not_true_eq_false, get_app, get_app0, set_app, set_app0, get_appE, get_appE0, set_appE, set_appE0, List.length_map, List.length_append, List.append_assoc, Nat.add_assoc, Nat.reduceEqDiff, true_and, and_true, *])
local macro_rules | `(tactic| walk_at "sd") => `(tactic| first | with_reducible rfl | decide | (have hSZ : SZ = 16777216 := rfl; first | exact cMod_of (by omega) | exact lim64_l (by omega) (by omega) | exact lim64_r (by omega) (by omega) | exact cNn_of (by omega) | exact cDiv_of (by omega) (by omega) | exact cPow_of (by omega) (by omega) (by omega) (by omega) | exact lim62_of (by omega) (by omega) | exact lim64_of (by omega) (by omega) | omega | ((try simp only [List.length_map, List.length_append, List.length_cons, List.length_nil] at *); (have hSZ : SZ = 16777216 := rfl); omega)))
local macro_rules | `(tactic| walk_at "side") => `(tactic| repeat (with_reducible refine And.intro (by walk_at "sd") ?_))

section
/-! ### the caller's run -/
section
variable (many stride : Nat)
def cb : Nat := up16 (many + 2)
def ent (i : Nat) : List (Nat × Int) := if i % (many + 2) < many then [(i % (many + 2), -1), (i % (many + 2), ((up16 (many + 2) + i % (many + 2) * stride : Nat) : Int))] else [(i % (many + 2), -1)]
def mets : Nat → List (Nat × Int)
  | 0 => []
  | i + 1 => mets i ++ ent many stride i
theorem ent_len (i : Nat) : (ent many stride i).length ≤ 2 := by
  unfold ent
  split <;> simp
theorem mets_len : ∀ i, (mets many stride i).length ≤ 2 * i
  | 0 => Nat.le_refl _
  | i + 1 => by
    have a := mets_len i
    have b := ent_len many stride i
    show (mets many stride i ++ ent many stride i).length ≤ _
    rw [List.length_append]
    omega
theorem mets_lt : ∀ i, ∀ p ∈ mets many stride i, p.1 < many + 2
  | 0, p, h => by cases h
  | i + 1, p, h => by
    have hm : i % (many + 2) < many + 2 := Nat.mod_lt _ (by omega)
    rcases List.mem_append.mp h with h | h
    · exact mets_lt i p h
    · unfold ent at h
      split at h <;> simp only [List.mem_cons, List.not_mem_nil, or_false] at h
      · rcases h with h | h <;> rw [h] <;> exact hm
      · rw [h]; exact hm
theorem rows_len : (callRows many stride).length = many + 2 := by simp [callRows]
theorem rows_ld {r : Nat} (h : r < many) : (callRows many stride)[r]? = some (.load (up16 (many + 2) + r * stride)) := by
  unfold callRows
  rw [List.getElem?_append_left (by simpa using h), List.getElem?_map, List.getElem?_range h]
  rfl
theorem rows_rest : (callRows many stride)[many]? = some .rest := by
  unfold callRows
  rw [List.getElem?_append_right (by simp)]
  simp
theorem rows_go : (callRows many stride)[many + 1]? = some .go := by
  unfold callRows
  rw [List.getElem?_append_right (by simp)]
  simp
theorem rows_ok (h : up16 (many + 2) + many * stride < 65536) : ∀ r ∈ callRows many stride, r.ok := by
  intro r hr
  unfold callRows at hr
  rcases List.mem_append.mp hr with h1 | h1
  · obtain ⟨k, hk, e⟩ := List.mem_map.mp h1
    have hk := List.mem_range.mp hk
    have := Nat.mul_le_mul_right stride (Nat.le_of_lt hk)
    rw [← e]
    show _ + _ < _
    omega
  · simp only [List.mem_cons, List.not_mem_nil, or_false] at h1
    rcases h1 with rfl | rfl <;> exact True.intro
structure CInv (i : Nat) (s : Ms) : Prop where
  pc : s.pc = i % (many + 2)
  met : s.met = (mets many stride i).map gp
  dd : s.deeds.length ≤ i
  w : s.word = ""
theorem mod_step {i : Nat} (h : i % (many + 2) < many + 1) : (i + 1) % (many + 2) = i % (many + 2) + 1 := by
  rw [Nat.add_mod, Nat.mod_eq_of_lt (show 1 < many + 2 by omega)]
  exact Nat.mod_eq_of_lt (by omega)
theorem mod_wrap {i : Nat} (h : i % (many + 2) = many + 1) : (i + 1) % (many + 2) = 0 := by
  have h1 : many + 1 < many + 2 := by omega
  rw [Nat.add_mod, h]
  rcases many with _ | m
  · rfl
  · rw [Nat.mod_eq_of_lt (show 1 < m + 1 + 2 by omega), show m + 1 + 1 + 1 = m + 1 + 2 by omega, Nat.mod_self]
theorem c_inv (hm : 1 ≤ many) (c : Mc) : ∀ i, CInv many stride i (runM c 0 0 (callRows many stride) i)
  | 0 => ⟨(Nat.zero_mod _).symm, rfl, Nat.le_refl _, rfl⟩
  | i + 1 => by
    obtain ⟨h1, h2, h3, h4⟩ := c_inv hm c i
    show CInv many stride (i + 1) (stp c 0 0 (callRows many stride) (runM c 0 0 (callRows many stride) i))
    generalize runM c 0 0 (callRows many stride) i = s at *
    have hl : i % (many + 2) < many + 2 := Nat.mod_lt _ (by omega)
    unfold stp
    rw [if_pos h4, h1]
    have em : (mets many stride (i + 1)).map gp = s.met ++ (ent many stride i).map gp := by
      show (mets many stride i ++ ent many stride i).map gp = _
      rw [List.map_append, h2]
    rcases Nat.lt_or_ge (i % (many + 2)) many with g | g
    · rw [rows_ld many stride g]
      refine ⟨?_, ?_, by show s.deeds.length ≤ _; omega, h4⟩
      · show s.pc + 1 = _
        rw [h1, mod_step many (by omega)]
      · rw [em]
        unfold ent
        rw [if_pos g]
        show (s.met ++ [_]) ++ [_] = _
        rw [List.append_assoc]
        show s.met ++ [D.tup [D.int (s.pc : Int), D.int (-1)], D.tup [D.int (s.pc : Int), D.int _]] = _
        rw [h1]
        rfl
    · rcases Nat.lt_or_ge (i % (many + 2)) (many + 1) with g2 | g2
      · have e : i % (many + 2) = many := by omega
        rw [e, rows_rest]
        refine ⟨?_, ?_, ?_, h4⟩
        · show s.pc + 1 = _
          rw [h1, mod_step many (by omega)]
        · rw [em]
          unfold ent
          rw [if_neg (by omega)]
          show s.met ++ [D.tup [D.int (s.pc : Int), D.int (-1)]] = _
          rw [h1]
          rfl
        · show (s.deeds ++ [_]).length ≤ _
          rw [List.length_append, List.length_singleton]
          omega
      · have e : i % (many + 2) = many + 1 := by omega
        rw [e, rows_go]
        refine ⟨?_, ?_, by show s.deeds.length ≤ _; omega, h4⟩
        · show 0 = _
          rw [mod_wrap many e]
        · rw [em]
          unfold ent
          rw [if_neg (by omega)]
          show s.met ++ [D.tup [D.int (s.pc : Int), D.int (-1)]] = _
          rw [h1]
          rfl
end

end
section
/-! ### the caller's deeds -/
theorem deedsO_app (rows : List Rw) (a b : List (Nat × Int)) : deedsO rows (a ++ b) = deedsO rows a ++ deedsO rows b := by
  unfold deedsO
  rw [List.map_append, List.flatten_append]
section
variable (many stride : Nat)
def ldD (r : Nat) : D := .tup [.str "load", .int ((up16 (many + 2) + r * stride : Nat) : Int)]
def due : List D := (List.range many).map (ldD many stride) ++ [.tup [.str "rest"]]
theorem due_len : (due many stride).length = many + 1 := by simp [due]
def dds (i : Nat) : List D := deedsO (callRows many stride) (mets many stride i)
theorem dds_succ (i : Nat) : dds many stride (i + 1) = dds many stride i ++ deedsO (callRows many stride) (ent many stride i) := deedsO_app _ _ _
theorem ent_ld {i : Nat} (h : i % (many + 2) < many) : deedsO (callRows many stride) (ent many stride i) = [ldD many stride (i % (many + 2))] := by
  unfold ent
  rw [if_pos h]
  unfold deedsO
  simp only [List.map_cons, List.map_nil]
  unfold dOf
  simp only [rows_ld many stride h]
  rw [if_neg (by decide), if_pos (Int.natCast_nonneg _)]
  rfl
theorem ent_rest {i : Nat} (h : i % (many + 2) = many) : deedsO (callRows many stride) (ent many stride i) = [.tup [.str "rest"]] := by
  unfold ent
  rw [if_neg (by omega), h]
  unfold deedsO
  simp only [List.map_cons, List.map_nil]
  unfold dOf
  simp only [rows_rest]
  rw [if_neg (by decide)]
  rfl
theorem ent_go {i : Nat} (h : i % (many + 2) = many + 1) : deedsO (callRows many stride) (ent many stride i) = [] := by
  unfold ent
  rw [if_neg (by omega), h]
  unfold deedsO
  simp only [List.map_cons, List.map_nil]
  unfold dOf
  simp only [rows_go]
  rw [if_neg (by decide)]
  rfl
/-- one way round -/
theorem dds_ld (q : Nat) : ∀ r, r ≤ many → dds many stride (q * (many + 2) + r) = dds many stride (q * (many + 2)) ++ (List.range r).map (ldD many stride)
  | 0, _ => by simp
  | r + 1, h => by
    have e : (q * (many + 2) + r) % (many + 2) = r := by rw [Nat.mul_add_mod_self_right]; exact Nat.mod_eq_of_lt (by omega)
    rw [← Nat.add_assoc, dds_succ, dds_ld q r (by omega), ent_ld many stride (by rw [e]; omega), e, List.range_succ, List.map_append, List.append_assoc]
    rfl
theorem dds_round (q : Nat) : dds many stride ((q + 1) * (many + 2)) = dds many stride (q * (many + 2)) ++ due many stride := by
  have e1 : (q * (many + 2) + many) % (many + 2) = many := by rw [Nat.mul_add_mod_self_right]; exact Nat.mod_eq_of_lt (by omega)
  have e2 : (q * (many + 2) + many + 1) % (many + 2) = many + 1 := by rw [Nat.add_assoc, Nat.mul_add_mod_self_right]; exact Nat.mod_eq_of_lt (by omega)
  have e3 : (q + 1) * (many + 2) = q * (many + 2) + many + 1 + 1 := by rw [Nat.succ_mul]; omega
  rw [e3, dds_succ, ent_go many stride e2, dds_succ, ent_rest many stride e1, dds_ld many stride q many (Nat.le_refl _), List.append_nil, List.append_assoc]
  rfl
theorem dds_more {i : Nat} : ∀ j, i ≤ j → ∃ z, dds many stride j = dds many stride i ++ z
  | 0, h => ⟨[], by rw [show i = 0 by omega, List.append_nil]⟩
  | j + 1, h => by
    rcases Nat.lt_or_ge j i with g | g
    · exact ⟨[], by rw [show i = j + 1 by omega, List.append_nil]⟩
    · obtain ⟨z, e⟩ := dds_more j g
      exact ⟨z ++ deedsO (callRows many stride) (ent many stride j), by rw [dds_succ, e, List.append_assoc]⟩
theorem dds_two {N : Nat} (h : 2 * (many + 2) ≤ N) : (dds many stride N).take (2 * many + 2) = due many stride ++ due many stride := by
  have e0 : dds many stride (0 * (many + 2)) = [] := by rw [Nat.zero_mul]; rfl
  have e1 := dds_round many stride 0
  have e2 := dds_round many stride 1
  rw [e0, List.nil_append] at e1
  rw [show (1 : Nat) = 0 + 1 from rfl, e1, show 0 + 1 + 1 = 2 from rfl] at e2
  obtain ⟨z, e⟩ := dds_more many stride N h
  rw [e, e2, List.take_append_of_le_length (by rw [List.length_append, due_len]; omega), List.take_of_length_le (by rw [List.length_append, due_len]; omega)]
theorem c_ok (h1 : 1 ≤ many) (h2 : many ≤ 40) (h4 : many * stride ≤ 999) (c : Mc) (hc : CnOf (callRows many stride) (many * stride + 1) [] c) :
    ∀ i, i < 16 * many + 16 → (runM c 0 0 (callRows many stride) i).word = "" → ∃ r, (callRows many stride)[(runM c 0 0 (callRows many stride) i).pc]? = some r ∧ OkR 9999 c 0 0 (runM c 0 0 (callRows many stride) i) r := by
  intro i hi _
  obtain ⟨q1, q2, q3, q4⟩ := c_inv many stride h1 c i
  generalize runM c 0 0 (callRows many stride) i = s at *
  have hl : i % (many + 2) < many + 2 := Nat.mod_lt _ (by omega)
  have hm := mets_len many stride i
  have m9 : s.met.length < 9999 := by rw [q2, List.length_map]; omega
  have hb : up16 (many + 2) ≤ 48 := by unfold up16; omega
  have hs : many * stride + 1 + up16 (many + 2) ≤ up16 (up16 (many + 2) + (many * stride + 1)) := by unfold up16; omega
  rw [q1]
  rcases Nat.lt_or_ge (i % (many + 2)) many with g | g
  · have := Nat.mul_le_mul_right stride (Nat.le_of_lt g)
    refine ⟨_, rows_ld many stride g, m9, by omega, fun n e => ?_, fun n e => by cases e⟩
    cases e
    rw [hc.mem, rows_len]
    exact ⟨by omega, by omega⟩
  · rcases Nat.lt_or_ge (i % (many + 2)) (many + 1) with g2 | g2
    · rw [show i % (many + 2) = many by omega]
      exact ⟨_, rows_rest many stride, m9, by omega, fun n e => (by cases e), fun n e => (by cases e)⟩
    · rw [show i % (many + 2) = many + 1 by omega]
      exact ⟨_, rows_go many stride, m9, by omega, fun n e => (by cases e), fun n e => (by cases e)⟩
end

end
local macro_rules | `(tactic| walk_at "mir") => `(tactic| simp -implicitDefEqProofs only [wp_ok, wp_sSeq, seq_nx, seq_rt, seq_ex, kx_seq, kx_mk, kRet_seq, kRet_mk, kRet_fe, kx_fe, fe_ex, seq_bk, seq_ct, wp_sNil, wp_sBreak, wp_sCont, wp_sRetN, wp_sExpr, kExpr_eq, wp_sRet, kRet_eq, wp_sSet, kSet_eq, wp_sSetT, wp_sIf, kIfS_d, kIfS_n, kIfS_t, kIfS_f, wp_sPar, kPar_eq, wp_sPar3, kPar3_eq, r_cix, r_sumT, wp_sAug, kAug_eq, kAug2_eq, wp_sPut, kPut1_eq, kPut2_eq, kPut3_ref, wp_sPutAug, wp_sSlc, kSc1_eq, kSc2_eq, kSc3_eq, kSc4_ref, r_tupR2, r_lstR2, set_app_lt, kPA1_eq, kPA3_eq, wp_sFld, kFld1_eq, wp_sFldAug, kFA0_eq, kFA1_eq, kFA2_eq, wp_sFor, wp_iSeq, kSeq_tup, kSeq_fl, wp_iRg1, kRg1_eq, wp_iRg2, kRg2_eq, wp_iRgC, kRgC_eq,
  wp_eV, kV_some, wp_eC, wp_e2, k2a_eq, k2b_eq, wp_e1, k1_eq, wp_eCall, wp_aNil, wp_aCons, kC1_eq, kC2_eq, wp_eTup, kTup_eq, wp_eLst, kLst_eq, wp_eFn, kFn_eq, wp_tb, kTb_eq, wp_tTru, kTru_bl, wp_tAnd, kAnd_d, kAnd_n, kAnd_t, kAnd_f, wp_tOr, kOr_d, kOr_n, kOr_t, kOr_f, wp_tNot, kNot_eq, wp_eIf, kIf_d, kIf_n, kIf_t, kIf_f, wp_eAnd, kAndV_d, kAndV_n, kAndV_t, kAndV_f, wp_eOr, kOrV_d, kOrV_n, kOrV_t, kOrV_f, wp_eNot, kNotV_bl, wp_eChain, kCh1_eq, kCh2_eq, kCh3_eq, wp_eSl, kSl1_eq, kSl2_eq, kSl3_eq, wp_oNone, wp_oSome, kO_eq, wp_eBm, kBm_eq, kBm2_eq, wp_eBm0, kBm0_eq, wp_eMeth, kMt2_eq, wp_eMake, kMk_eq, kMkI_eq, wp_eDict, wp_pairs_nil, wp_pairs_cons, kP1_eq, kP2_eq, kP3_eq, wp_eLc, wp_allocO, fe_nx, fe_rt,
  r_add, r_addS, r_addT, r_iadd, r_sub, r_mul, r_fdiv, r_mod, r_pow, r_shl, r_shr, r_and, r_or, r_xor, r_neg, r_lt, r_le, r_gt, r_ge, r_eqI, r_eqS, r_eqB, r_neI, r_neS, r_neB, r_isB, r_isNB, r_is0, r_isI, r_isT, r_isNot0, r_isNotI, r_isNotT, r_int, r_intB, r_abs, r_max2, r_min2, r_lenT, r_lenF, r_lenR, kLen_lst, kLen_dk, kOpt_some, r_ixT, r_ixF, r_ixR, kIx_lst, kIx_dkS, kIx_dkI, look_cons, inr_inj, inl_inj, ofS_inj, String.reduceEq, reduceIte, kPutO_dkS, kPutO_dkI, r_append, sl_ref, kPA2_ref, kPAo_dkS, kPAo_dkI, kPA4_ref, kPDo_dkS, kPDo_dkI,
  List.getElem?_cons_zero, List.getElem?_cons_succ, List.set_cons_zero, List.set_cons_succ, List.length_cons, List.length_nil, List.map_cons, List.map_nil, List.cons_append, List.nil_append, List.replicate_succ, List.replicate_zero, decide_eq_true_eq, decide_eq_false_iff_not, decide_true, decide_false, Bool.not_true, Bool.not_false, Nat.reduceAdd, tyD_ref, beq_self_eq_true, Int.zero_add, Int.mul_one, Int.toNat_natCast, Nat.zero_add, wp_mkFn, eq_self, put8_0, put8_1, put8_2, put8_3, put8_4, cp_page, cp_loaded, cp_first, cp_second, r_mulT, r_fld, kFldO_ins, lk_nil, lk_cons, kFld2_ref, kFA3_ref, kFlO_ins, kMt_ref, kMtO_ins, kMtM_some, putA_nil, putA_cons, mem_one, mem_two, mem_three, or_true, true_or, kLsO_lst, r_pop0, r_popAt0, r_insert, r_extend, r_tupR, r_tupT, r_tupF, r_listR, r_listT, r_listF, r_addR, kSeq_refO, set_get, set_get', set_same, List.take_zero, List.drop_zero, r_mulR, List.flatten_replicate_singleton, wipe_nil, wipe_cons, wp_tYes, kSetT_ref, kSetT_tup, kSetT_nm, setG_nil, setG_cons, atI_0, atI_1, atI_2, atI_3, atI_4, atI_5, atI_6, atI_7, List.length_set, List.set_set, List.getElem?_append_left, List.head?_cons, List.tail_cons, sz_le, sz_lt, Nat.reduceLeDiff, Nat.reduceLT, Nat.reduceSub, lim64_of, lim62_of, cMod_of, cDiv_of, cNn_of, cPow_of, Int.reduceLT, Int.reduceLE, Int.reduceNeg, Int.reduceToNat, Int.reduceAdd, r_inT, r_ninT, flat_int, flat_str, flat_bl, eqF_int, eqF_str, dec_or, List.all_cons, List.all_nil, List.any_cons, List.any_nil, Bool.and_self, Bool.and_true, Bool.or_false, Bool.false_or, Bool.true_or, Bool.or_true, r_isi, kIsi_some, tyN_non, tyN_bl, tyN_int, tyN_str, tyN_tup, tyN_fl, tyN_ref, tyO_lst, tyO_dk, subN_int, subN_bool, subN_str, subN_tuple, subN_list, subN_dict, Option.bind_some, String.reduceBEq, r_isS, r_isBl, r_isR, r_isF, r_isNotS, r_isNotBl, r_isNotR, r_isNotF, reduceCtorEq, kDict_dk, kDk_some, keysD_nil, keysD_s, keysD_i, Option.map_some, dmerge_def, List.foldl_cons, List.foldl_nil, dput_nil, dput_n, dput_h, List.forall_mem_cons, List.not_mem_nil, true_imp_iff, false_imp_iff, implies_true, ne_eq, not_false_eq_true, not_true_eq_false, get_app, get_app0, set_app, set_app0, get_appE, get_appE0, set_appE, set_appE0, List.length_map, List.length_append, List.append_assoc, Nat.add_assoc, Nat.reduceEqDiff, true_and, and_true])
local macro_rules | `(tactic| walk_at "mirs") => `(tactic| simp -implicitDefEqProofs only [wp_ok, wp_sSeq, seq_nx, seq_rt, seq_ex, kx_seq, kx_mk, kRet_seq, kRet_mk, kRet_fe, kx_fe, fe_ex, seq_bk, seq_ct, wp_sNil, wp_sBreak, wp_sCont, wp_sRetN, wp_sExpr, kExpr_eq, wp_sRet, kRet_eq, wp_sSet, kSet_eq, wp_sSetT, wp_sIf, kIfS_d, kIfS_n, kIfS_t, kIfS_f, wp_sPar, kPar_eq, wp_sPar3, kPar3_eq, r_cix, r_sumT, wp_sAug, kAug_eq, kAug2_eq, wp_sPut, kPut1_eq, kPut2_eq, kPut3_ref, wp_sPutAug, wp_sSlc, kSc1_eq, kSc2_eq, kSc3_eq, kSc4_ref, r_tupR2, r_lstR2, set_app_lt, kPA1_eq, kPA3_eq, wp_sFld, kFld1_eq, wp_sFldAug, kFA0_eq, kFA1_eq, kFA2_eq, wp_sFor, wp_iSeq, kSeq_tup, kSeq_fl, wp_iRg1, kRg1_eq, wp_iRg2, kRg2_eq, wp_iRgC, kRgC_eq,
  wp_eV, kV_some, wp_eC, wp_e2, k2a_eq, k2b_eq, wp_e1, k1_eq, wp_eCall, wp_aNil, wp_aCons, kC1_eq, kC2_eq, wp_eTup, kTup_eq, wp_eLst, kLst_eq, wp_eFn, kFn_eq, wp_tb, kTb_eq, wp_tTru, kTru_bl, wp_tAnd, kAnd_d, kAnd_n, kAnd_t, kAnd_f, wp_tOr, kOr_d, kOr_n, kOr_t, kOr_f, wp_tNot, kNot_eq, wp_eIf, kIf_d, kIf_n, kIf_t, kIf_f, wp_eAnd, kAndV_d, kAndV_n, kAndV_t, kAndV_f, wp_eOr, kOrV_d, kOrV_n, kOrV_t, kOrV_f, wp_eNot, kNotV_bl, wp_eChain, kCh1_eq, kCh2_eq, kCh3_eq, wp_eSl, kSl1_eq, kSl2_eq, kSl3_eq, wp_oNone, wp_oSome, kO_eq, wp_eBm, kBm_eq, kBm2_eq, wp_eBm0, kBm0_eq, wp_eMeth, kMt2_eq, wp_eMake, kMk_eq, kMkI_eq, wp_eDict, wp_pairs_nil, wp_pairs_cons, kP1_eq, kP2_eq, kP3_eq, wp_eLc, wp_allocO, fe_nx, fe_rt,
  r_add, r_addS, r_addT, r_iadd, r_sub, r_mul, r_fdiv, r_mod, r_pow, r_shl, r_shr, r_and, r_or, r_xor, r_neg, r_lt, r_le, r_gt, r_ge, r_eqI, r_eqS, r_eqB, r_neI, r_neS, r_neB, r_isB, r_isNB, r_is0, r_isI, r_isT, r_isNot0, r_isNotI, r_isNotT, r_int, r_intB, r_abs, r_max2, r_min2, r_lenT, r_lenF, r_lenR, kLen_lst, kLen_dk, kOpt_some, r_ixT, r_ixF, r_ixR, kIx_lst, kIx_dkS, kIx_dkI, look_cons, inr_inj, inl_inj, ofS_inj, String.reduceEq, reduceIte, kPutO_dkS, kPutO_dkI, r_append, sl_ref, kPA2_ref, kPAo_dkS, kPAo_dkI, kPA4_ref, kPDo_dkS, kPDo_dkI,
  List.getElem?_cons_zero, List.getElem?_cons_succ, List.set_cons_zero, List.set_cons_succ, List.length_cons, List.length_nil, List.map_cons, List.map_nil, List.cons_append, List.nil_append, List.replicate_succ, List.replicate_zero, decide_eq_true_eq, decide_eq_false_iff_not, decide_true, decide_false, Bool.not_true, Bool.not_false, Nat.reduceAdd, tyD_ref, beq_self_eq_true, Int.zero_add, Int.mul_one, Int.toNat_natCast, Nat.zero_add, wp_mkFn, eq_self, put8_0, put8_1, put8_2, put8_3, put8_4, cp_page, cp_loaded, cp_first, cp_second, r_mulT, r_fld, kFldO_ins, lk_nil, lk_cons, kFld2_ref, kFA3_ref, kFlO_ins, kMt_ref, kMtO_ins, kMtM_some, putA_nil, putA_cons, mem_one, mem_two, mem_three, or_true, true_or, kLsO_lst, r_pop0, r_popAt0, r_insert, r_extend, r_tupR, r_tupT, r_tupF, r_listR, r_listT, r_listF, r_addR, kSeq_refO, set_get, set_get', set_same, List.take_zero, List.drop_zero, r_mulR, List.flatten_replicate_singleton, wipe_nil, wipe_cons, wp_tYes, kSetT_ref, kSetT_tup, kSetT_nm, setG_nil, setG_cons, atI_0, atI_1, atI_2, atI_3, atI_4, atI_5, atI_6, atI_7, List.length_set, List.set_set, List.getElem?_append_left, List.head?_cons, List.tail_cons, sz_le, sz_lt, Nat.reduceLeDiff, Nat.reduceLT, Nat.reduceSub, lim64_of, lim62_of, cMod_of, cDiv_of, cNn_of, cPow_of, Int.reduceLT, Int.reduceLE, Int.reduceNeg, Int.reduceToNat, Int.reduceAdd, r_inT, r_ninT, flat_int, flat_str, flat_bl, eqF_int, eqF_str, dec_or, List.all_cons, List.all_nil, List.any_cons, List.any_nil, Bool.and_self, Bool.and_true, Bool.or_false, Bool.false_or, Bool.true_or, Bool.or_true, r_isi, kIsi_some, tyN_non, tyN_bl, tyN_int, tyN_str, tyN_tup, tyN_fl, tyN_ref, tyO_lst, tyO_dk, subN_int, subN_bool, subN_str, subN_tuple, subN_list, subN_dict, Option.bind_some, String.reduceBEq, r_isS, r_isBl, r_isR, r_isF, r_isNotS, r_isNotBl, r_isNotR, r_isNotF, reduceCtorEq, kDict_dk, kDk_some, keysD_nil, keysD_s, keysD_i, Option.map_some, dmerge_def, List.foldl_cons, List.foldl_nil, dput_nil, dput_n, dput_h, List.forall_mem_cons, List.not_mem_nil, true_imp_iff, false_imp_iff, implies_true, ne_eq, not_false_eq_true, not_true_eq_false, get_app, get_app0, set_app, set_app0, get_appE, get_appE0, set_appE, set_appE0, List.length_map, List.length_append, List.append_assoc, Nat.add_assoc, Nat.reduceEqDiff, true_and, and_true, *])
local macro_rules | `(tactic| walk_at "sd") => `(tactic| first | with_reducible rfl | decide | (have hSZ : SZ = 16777216 := rfl; first | exact cMod_of (by omega) | exact lim64_l (by omega) (by omega) | exact lim64_r (by omega) (by omega) | exact cNn_of (by omega) | exact cDiv_of (by omega) (by omega) | exact cPow_of (by omega) (by omega) (by omega) (by omega) | exact lim62_of (by omega) (by omega) | exact lim64_of (by omega) (by omega) | omega | ((try simp only [List.length_map, List.length_append, List.length_cons, List.length_nil] at *); (have hSZ : SZ = 16777216 := rfl); omega)))
local macro_rules | `(tactic| walk_at "side") => `(tactic| repeat (with_reducible refine And.intro (by walk_at "sd") ?_))

section
variable {Q : D → Mir.ST → Prop} {X : XQ}
theorem nb_rep (n : Nat) : Nb 2 (.tup (List.replicate n (.int 0))) := by
  unfold Nb
  intro d hd
  rw [(List.mem_replicate.mp hd).2]
  exact True.intro
theorem ran_w {S : Mir.ST} (rows : List Rw) (size : Nat) (ans : List D) (a b : Int) (N : Nat) (ho : ∀ r ∈ rows, r.ok) (hl : rows.length ≤ 42) (hs : size ≤ 1001) (hN : N ≤ 1000)
    (ok : ∀ c, CnOf rows size ans c → ∀ i, i < N → (runM c a b rows i).word = "" → ∃ r, rows[(runM c a b rows i).pc]? = some r ∧ OkR 9999 c a b (runM c a b rows i) r)
    (k : ∀ (T3 : Mir.ST) (n0 : Nat) (c : Mc) (s : Ms), CnOf rows size ans c → s = fin (runM c a b rows N) → (S ++ T3)[n0 + 1]? = some (c.dk n0 s) → (S ++ T3)[n0 + 3]? = some (.lst s.rl) → (S ++ T3)[n0 + 4]? = some (.lst s.deeds) → (S ++ T3)[n0 + 5]? = some (.lst s.met) → Q (.ref (n0 + 1)) (S ++ T3)) :
    wpR (m__law_code_ran [gst rows size, .tup ans, .int (N : Int)] S) Q X := by
  refine code_ran_w rows size ans a b N ho hl hs hN ok fun T c hc => ?_
  have d1 := st_dk c (S ++ T) (fin (runM c a b rows N))
  have d5 := st_met c (S ++ T) (fin (runM c a b rows N))
  have d3 : (c.st (S ++ T) (fin (runM c a b rows N)))[(S ++ T).length + 3]? = some (.lst (fin (runM c a b rows N)).rl) := by
    unfold Mc.st
    rw [List.getElem?_append_right (by omega), show (S ++ T).length + 3 - (S ++ T).length = 3 by omega]
    rfl
  have d4 : (c.st (S ++ T) (fin (runM c a b rows N)))[(S ++ T).length + 4]? = some (.lst (fin (runM c a b rows N)).deeds) := by
    unfold Mc.st
    rw [List.getElem?_append_right (by omega), show (S ++ T).length + 4 - (S ++ T).length = 4 by omega]
    rfl
  have e : c.st (S ++ T) (fin (runM c a b rows N)) = S ++ (T ++ [.lst (c.mem.map D.int), c.dk (S ++ T).length (fin (runM c a b rows N)), .lst [.int 0], .lst (fin (runM c a b rows N)).rl, .lst (fin (runM c a b rows N)).deeds, .lst (fin (runM c a b rows N)).met]) := by
    unfold Mc.st
    rw [List.append_assoc]
  rw [e] at d1 d3 d4 d5 ⊢
  exact k _ _ c _ hc rfl d1 d3 d4 d5
theorem cut_to {l : List D} {m : Nat} : Mir.cutD l none (some (m : Int)) = l.take m := by
  unfold Mir.cutD
  rw [HT.sIx_none, HT.sIx_nat, List.drop_zero, Nat.sub_zero]
  by_cases h : m ≤ l.length
  · rw [Nat.min_eq_left h]
  · rw [Nat.min_eq_right (by omega), List.take_length, List.take_of_length_le (by omega)]
theorem nb_due (many stride : Nat) : ∀ d ∈ due many stride, Nb 2 d := by
  intro d hd
  unfold due at hd
  rcases List.mem_append.mp hd with h | h
  · obtain ⟨r, _, e⟩ := List.mem_map.mp h
    rw [← e]
    unfold ldD Nb
    intro x hx
    simp only [List.mem_cons, List.not_mem_nil, or_false] at hx
    rcases hx with rfl | rfl
    · show PyData.strOk (Str.ofString "load") = true
      decide +kernel
    · exact True.intro
  · rw [List.mem_singleton.mp h]
    unfold Nb
    intro x hx
    rw [List.mem_singleton.mp hx]
    show PyData.strOk (Str.ofString "rest") = true
    decide +kernel
theorem gst_ix0 {S : Mir.ST} (rows : List Rw) (size : Nat) : wpR (mIx (gst rows size) (.int 0) S) Q X = Q (.tup (rows.map Rw.d)) S := rfl
theorem fin_met (s : Ms) : (fin s).met = s.met := by
  unfold fin
  split <;> rfl
theorem is_caller_w {S : Mir.ST} (many stride sz : Nat) (hz : sz = many * stride + 1) (h1 : 1 ≤ many) (h2 : many ≤ 40) (h3 : 1 ≤ stride) (h4 : many * stride ≤ 999) (k : ∀ T, Q (.bl true) (S ++ T)) :
    wpR (m__law_is_caller [gst (callRows many stride) sz, .int (many : Int), .int (stride : Int)] S) Q X := by
  have h5 : stride ≤ 999 := Nat.le_trans (Nat.le_mul_of_pos_left stride h1) h4
  have h6 : up16 (many + 2) ≤ 48 := by unfold up16; omega
  have h7 : 1 ≤ many * stride := Nat.mul_le_mul h1 h3
  have ho := rows_ok many stride (by omega)
  have hl := rows_len many stride
  unfold m__law_is_caller
  walk_at "mir"
  unfold b__law_is_caller
  walk_at "mir"
  refine is_guest_w (callRows many stride) sz (by omega) (by omega) (by omega) ho fun T => ?_
  have he : (sz : Int) = (many : Int) * (stride : Int) + 1 := by rw [hz, Int.natCast_add, Int.natCast_mul]; rfl
  rw [gst_d]
  walk_at "mir"
  refine ⟨lim64_l (by omega) (by omega), fun h => absurd he h, fun _ => ⟨⟨by omega, by omega⟩, ?_⟩⟩
  refine w_neN (nb_rep sz) (nb_rep sz) (by decide) (fun _ => ?_) (fun h => absurd rfl h)
  walk_at "mir"
  rw [← gst_d]
  walk_at "side"
  have hN : (2 * (8 * (many : Int) + 8)) = ((16 * many + 16 : Nat) : Int) := by omega
  rw [hN]
  refine ran_w (callRows many stride) sz [] 0 0 (16 * many + 16) ho (by omega) (by omega) (by omega) (fun c hc => c_ok many stride h1 h2 h4 c (by rw [← hz]; exact hc)) fun T3 n0 c s hc hs d1 d3 d4 d5 => ?_
  have hm := mets_len many stride (16 * many + 16)
  have hmet : s.met = (mets many stride (16 * many + 16)).map gp := by
    rw [hs, fin_met]
    exact (c_inv many stride h1 c (16 * many + 16)).met
  clear hs hN
  rw [List.append_assoc] at d1 d3 d4 d5
  rw [List.append_assoc]
  generalize T ++ T3 = T4 at d1 d3 d4 d5 ⊢
  walk_at "mir"
  rw [gst_ix0]
  walk_at "mir"
  rw [hl]
  have hb : ((many + 2 : Nat) : Int) + 15 = ((many + 2 + 15 : Nat) : Int) := by omega
  have hb2 : (((many + 2 : Nat) : Int) + 15) / 16 * 16 = ((up16 (many + 2) : Nat) : Int) := by unfold up16; omega
  rw [hb2]
  refine ⟨lim62_of (by omega) (by omega), ?_⟩
  refine lc_map (List.range many) (fun k : Nat => .int (k : Int)) (fun _ => true) (fun i => ldD many stride i) rngD_map (fun _ => True.intro) (by rw [List.length_range]; unfold SZ; omega) (fun i hi acc => ?_) ?_
  · have hi := List.mem_range.mp hi
    refine ⟨_, rfl, ?_⟩
    walk_at "mir"
    refine ⟨lim64_l (by omega) (by omega), ?_⟩
    simp only [ldD, Int.natCast_add, Int.natCast_mul]
  · have e : ((List.range many).filter fun _ => true) = List.range many := List.filter_eq_self.mpr fun _ _ => rfl
    rw [e]
    walk_at "mir"
    refine ⟨by rw [List.length_range]; unfold SZ; omega, ?_⟩
    rw [← List.append_assoc, show S.length + (T4.length + 2) = (S ++ T4).length + 2 by rw [List.length_append, Nat.add_assoc]]
    have hk := fun T => k (T4 ++ T)
    clear k
    generalize hS5 : S ++ T4 = S5 at d1 d3 d4 d5 ⊢
    have n5 : n0 + 5 < S5.length := (List.getElem?_eq_some_iff.mp d5).1
    refine deeds_w (callRows many stride) sz c s (mets many stride (16 * many + 16)) (by rw [List.getElem?_append_left (by omega)]; exact d1) (by rw [List.getElem?_append_left (by omega)]; exact d5) hmet (by rw [hl]; exact mets_lt many stride _) (by omega) ?_
    have hdue : List.map (fun i => ldD many stride i) (List.range many) ++ [D.tup [D.str (Str.ofString "rest")]] = due many stride := rfl
    rw [hdue, show deedsO (callRows many stride) (mets many stride (16 * many + 16)) = dds many stride (16 * many + 16) from rfl]
    walk_at "mir"
    have h2d : ∀ d ∈ due many stride ++ due many stride, Nb 2 d := fun d hd => (List.mem_append.mp hd).elim (nb_due many stride d) (nb_due many stride d)
    rw [show (2 * (many : Int) + 2) = ((2 * many + 2 : Nat) : Int) by omega, cut_to, dds_two many stride (by omega), due_len]
    refine ⟨by unfold SZ; omega, ?_⟩
    refine w_eqL (ds := due many stride ++ due many stride) (es := due many stride ++ due many stride) (n := 2) (by walk_at "mir") (by walk_at "mir") h2d h2d (by decide) (fun _ => ?_) (fun h => absurd rfl h)
    have kk := hk
    simp only [← List.append_assoc] at kk
    rw [hS5] at kk
    exact kk _

end
local macro_rules | `(tactic| walk_at "mir") => `(tactic| simp -implicitDefEqProofs only [wp_ok, wp_sSeq, seq_nx, seq_rt, seq_ex, kx_seq, kx_mk, kRet_seq, kRet_mk, kRet_fe, kx_fe, fe_ex, seq_bk, seq_ct, wp_sNil, wp_sBreak, wp_sCont, wp_sRetN, wp_sExpr, kExpr_eq, wp_sRet, kRet_eq, wp_sSet, kSet_eq, wp_sSetT, wp_sIf, kIfS_d, kIfS_n, kIfS_t, kIfS_f, wp_sPar, kPar_eq, wp_sPar3, kPar3_eq, r_cix, r_sumT, wp_sAug, kAug_eq, kAug2_eq, wp_sPut, kPut1_eq, kPut2_eq, kPut3_ref, wp_sPutAug, wp_sSlc, kSc1_eq, kSc2_eq, kSc3_eq, kSc4_ref, r_tupR2, r_lstR2, set_app_lt, kPA1_eq, kPA3_eq, wp_sFld, kFld1_eq, wp_sFldAug, kFA0_eq, kFA1_eq, kFA2_eq, wp_sFor, wp_iSeq, kSeq_tup, kSeq_fl, wp_iRg1, kRg1_eq, wp_iRg2, kRg2_eq, wp_iRgC, kRgC_eq,
  wp_eV, kV_some, wp_eC, wp_e2, k2a_eq, k2b_eq, wp_e1, k1_eq, wp_eCall, wp_aNil, wp_aCons, kC1_eq, kC2_eq, wp_eTup, kTup_eq, wp_eLst, kLst_eq, wp_eFn, kFn_eq, wp_tb, kTb_eq, wp_tTru, kTru_bl, wp_tAnd, kAnd_d, kAnd_n, kAnd_t, kAnd_f, wp_tOr, kOr_d, kOr_n, kOr_t, kOr_f, wp_tNot, kNot_eq, wp_eIf, kIf_d, kIf_n, kIf_t, kIf_f, wp_eAnd, kAndV_d, kAndV_n, kAndV_t, kAndV_f, wp_eOr, kOrV_d, kOrV_n, kOrV_t, kOrV_f, wp_eNot, kNotV_bl, wp_eChain, kCh1_eq, kCh2_eq, kCh3_eq, wp_eSl, kSl1_eq, kSl2_eq, kSl3_eq, wp_oNone, wp_oSome, kO_eq, wp_eBm, kBm_eq, kBm2_eq, wp_eBm0, kBm0_eq, wp_eMeth, kMt2_eq, wp_eMake, kMk_eq, kMkI_eq, wp_eDict, wp_pairs_nil, wp_pairs_cons, kP1_eq, kP2_eq, kP3_eq, wp_eLc, wp_allocO, fe_nx, fe_rt,
  r_add, r_addS, r_addT, r_iadd, r_sub, r_mul, r_fdiv, r_mod, r_pow, r_shl, r_shr, r_and, r_or, r_xor, r_neg, r_lt, r_le, r_gt, r_ge, r_eqI, r_eqS, r_eqB, r_neI, r_neS, r_neB, r_isB, r_isNB, r_is0, r_isI, r_isT, r_isNot0, r_isNotI, r_isNotT, r_int, r_intB, r_abs, r_max2, r_min2, r_lenT, r_lenF, r_lenR, kLen_lst, kLen_dk, kOpt_some, r_ixT, r_ixF, r_ixR, kIx_lst, kIx_dkS, kIx_dkI, look_cons, inr_inj, inl_inj, ofS_inj, String.reduceEq, reduceIte, kPutO_dkS, kPutO_dkI, r_append, sl_ref, kPA2_ref, kPAo_dkS, kPAo_dkI, kPA4_ref, kPDo_dkS, kPDo_dkI,
  List.getElem?_cons_zero, List.getElem?_cons_succ, List.set_cons_zero, List.set_cons_succ, List.length_cons, List.length_nil, List.map_cons, List.map_nil, List.cons_append, List.nil_append, List.replicate_succ, List.replicate_zero, decide_eq_true_eq, decide_eq_false_iff_not, decide_true, decide_false, Bool.not_true, Bool.not_false, Nat.reduceAdd, tyD_ref, beq_self_eq_true, Int.zero_add, Int.mul_one, Int.toNat_natCast, Nat.zero_add, wp_mkFn, eq_self, put8_0, put8_1, put8_2, put8_3, put8_4, r_fld, kFldO_ins, lk_nil, lk_cons, kFld2_ref, kFA3_ref, kFlO_ins, kMt_ref, kMtO_ins, kMtM_some, putA_nil, putA_cons, mem_one, mem_two, mem_three, or_true, true_or, kLsO_lst, r_pop0, r_popAt0, r_insert, r_extend, r_tupR, r_tupT, r_tupF, r_listR, r_listT, r_listF, r_addR, kSeq_refO, set_get, set_get', set_same, List.take_zero, List.drop_zero, r_mulR, List.flatten_replicate_singleton, wipe_nil, wipe_cons, wp_tYes, kSetT_ref, kSetT_tup, kSetT_nm, setG_nil, setG_cons, atI_0, atI_1, atI_2, atI_3, atI_4, atI_5, atI_6, atI_7, List.length_set, List.set_set, List.getElem?_append_left, List.head?_cons, List.tail_cons, sz_le, sz_lt, Nat.reduceLeDiff, Nat.reduceLT, Nat.reduceSub, lim64_of, lim62_of, cMod_of, cDiv_of, cNn_of, cPow_of, Int.reduceLT, Int.reduceLE, Int.reduceNeg, Int.reduceToNat, Int.reduceAdd, r_inT, r_ninT, flat_int, flat_str, flat_bl, eqF_int, eqF_str, dec_or, List.all_cons, List.all_nil, List.any_cons, List.any_nil, Bool.and_self, Bool.and_true, Bool.or_false, Bool.false_or, Bool.true_or, Bool.or_true, r_isi, kIsi_some, tyN_non, tyN_bl, tyN_int, tyN_str, tyN_tup, tyN_fl, tyN_ref, tyO_lst, tyO_dk, subN_int, subN_bool, subN_str, subN_tuple, subN_list, subN_dict, Option.bind_some, String.reduceBEq, r_isS, r_isBl, r_isR, r_isF, r_isNotS, r_isNotBl, r_isNotR, r_isNotF, reduceCtorEq, kDict_dk, kDk_some, keysD_nil, keysD_s, keysD_i, Option.map_some, dmerge_def, List.foldl_cons, List.foldl_nil, dput_nil, dput_n, dput_h, List.forall_mem_cons, List.not_mem_nil, true_imp_iff, false_imp_iff, implies_true, ne_eq, not_false_eq_true, not_true_eq_false, get_app, get_app0, set_app, set_app0, get_appE, get_appE0, set_appE, set_appE0, List.length_map, List.length_append, List.append_assoc, Nat.add_assoc, Nat.reduceEqDiff, true_and, and_true])
local macro_rules | `(tactic| walk_at "mirs") => `(tactic| simp -implicitDefEqProofs only [wp_ok, wp_sSeq, seq_nx, seq_rt, seq_ex, kx_seq, kx_mk, kRet_seq, kRet_mk, kRet_fe, kx_fe, fe_ex, seq_bk, seq_ct, wp_sNil, wp_sBreak, wp_sCont, wp_sRetN, wp_sExpr, kExpr_eq, wp_sRet, kRet_eq, wp_sSet, kSet_eq, wp_sSetT, wp_sIf, kIfS_d, kIfS_n, kIfS_t, kIfS_f, wp_sPar, kPar_eq, wp_sPar3, kPar3_eq, r_cix, r_sumT, wp_sAug, kAug_eq, kAug2_eq, wp_sPut, kPut1_eq, kPut2_eq, kPut3_ref, wp_sPutAug, wp_sSlc, kSc1_eq, kSc2_eq, kSc3_eq, kSc4_ref, r_tupR2, r_lstR2, set_app_lt, kPA1_eq, kPA3_eq, wp_sFld, kFld1_eq, wp_sFldAug, kFA0_eq, kFA1_eq, kFA2_eq, wp_sFor, wp_iSeq, kSeq_tup, kSeq_fl, wp_iRg1, kRg1_eq, wp_iRg2, kRg2_eq, wp_iRgC, kRgC_eq,
  wp_eV, kV_some, wp_eC, wp_e2, k2a_eq, k2b_eq, wp_e1, k1_eq, wp_eCall, wp_aNil, wp_aCons, kC1_eq, kC2_eq, wp_eTup, kTup_eq, wp_eLst, kLst_eq, wp_eFn, kFn_eq, wp_tb, kTb_eq, wp_tTru, kTru_bl, wp_tAnd, kAnd_d, kAnd_n, kAnd_t, kAnd_f, wp_tOr, kOr_d, kOr_n, kOr_t, kOr_f, wp_tNot, kNot_eq, wp_eIf, kIf_d, kIf_n, kIf_t, kIf_f, wp_eAnd, kAndV_d, kAndV_n, kAndV_t, kAndV_f, wp_eOr, kOrV_d, kOrV_n, kOrV_t, kOrV_f, wp_eNot, kNotV_bl, wp_eChain, kCh1_eq, kCh2_eq, kCh3_eq, wp_eSl, kSl1_eq, kSl2_eq, kSl3_eq, wp_oNone, wp_oSome, kO_eq, wp_eBm, kBm_eq, kBm2_eq, wp_eBm0, kBm0_eq, wp_eMeth, kMt2_eq, wp_eMake, kMk_eq, kMkI_eq, wp_eDict, wp_pairs_nil, wp_pairs_cons, kP1_eq, kP2_eq, kP3_eq, wp_eLc, wp_allocO, fe_nx, fe_rt,
  r_add, r_addS, r_addT, r_iadd, r_sub, r_mul, r_fdiv, r_mod, r_pow, r_shl, r_shr, r_and, r_or, r_xor, r_neg, r_lt, r_le, r_gt, r_ge, r_eqI, r_eqS, r_eqB, r_neI, r_neS, r_neB, r_isB, r_isNB, r_is0, r_isI, r_isT, r_isNot0, r_isNotI, r_isNotT, r_int, r_intB, r_abs, r_max2, r_min2, r_lenT, r_lenF, r_lenR, kLen_lst, kLen_dk, kOpt_some, r_ixT, r_ixF, r_ixR, kIx_lst, kIx_dkS, kIx_dkI, look_cons, inr_inj, inl_inj, ofS_inj, String.reduceEq, reduceIte, kPutO_dkS, kPutO_dkI, r_append, sl_ref, kPA2_ref, kPAo_dkS, kPAo_dkI, kPA4_ref, kPDo_dkS, kPDo_dkI,
  List.getElem?_cons_zero, List.getElem?_cons_succ, List.set_cons_zero, List.set_cons_succ, List.length_cons, List.length_nil, List.map_cons, List.map_nil, List.cons_append, List.nil_append, List.replicate_succ, List.replicate_zero, decide_eq_true_eq, decide_eq_false_iff_not, decide_true, decide_false, Bool.not_true, Bool.not_false, Nat.reduceAdd, tyD_ref, beq_self_eq_true, Int.zero_add, Int.mul_one, Int.toNat_natCast, Nat.zero_add, wp_mkFn, eq_self, put8_0, put8_1, put8_2, put8_3, put8_4, r_fld, kFldO_ins, lk_nil, lk_cons, kFld2_ref, kFA3_ref, kFlO_ins, kMt_ref, kMtO_ins, kMtM_some, putA_nil, putA_cons, mem_one, mem_two, mem_three, or_true, true_or, kLsO_lst, r_pop0, r_popAt0, r_insert, r_extend, r_tupR, r_tupT, r_tupF, r_listR, r_listT, r_listF, r_addR, kSeq_refO, set_get, set_get', set_same, List.take_zero, List.drop_zero, r_mulR, List.flatten_replicate_singleton, wipe_nil, wipe_cons, wp_tYes, kSetT_ref, kSetT_tup, kSetT_nm, setG_nil, setG_cons, atI_0, atI_1, atI_2, atI_3, atI_4, atI_5, atI_6, atI_7, List.length_set, List.set_set, List.getElem?_append_left, List.head?_cons, List.tail_cons, sz_le, sz_lt, Nat.reduceLeDiff, Nat.reduceLT, Nat.reduceSub, lim64_of, lim62_of, cMod_of, cDiv_of, cNn_of, cPow_of, Int.reduceLT, Int.reduceLE, Int.reduceNeg, Int.reduceToNat, Int.reduceAdd, r_inT, r_ninT, flat_int, flat_str, flat_bl, eqF_int, eqF_str, dec_or, List.all_cons, List.all_nil, List.any_cons, List.any_nil, Bool.and_self, Bool.and_true, Bool.or_false, Bool.false_or, Bool.true_or, Bool.or_true, r_isi, kIsi_some, tyN_non, tyN_bl, tyN_int, tyN_str, tyN_tup, tyN_fl, tyN_ref, tyO_lst, tyO_dk, subN_int, subN_bool, subN_str, subN_tuple, subN_list, subN_dict, Option.bind_some, String.reduceBEq, r_isS, r_isBl, r_isR, r_isF, r_isNotS, r_isNotBl, r_isNotR, r_isNotF, reduceCtorEq, kDict_dk, kDk_some, keysD_nil, keysD_s, keysD_i, Option.map_some, dmerge_def, List.foldl_cons, List.foldl_nil, dput_nil, dput_n, dput_h, List.forall_mem_cons, List.not_mem_nil, true_imp_iff, false_imp_iff, implies_true, ne_eq, not_false_eq_true, not_true_eq_false, get_app, get_app0, set_app, set_app0, get_appE, get_appE0, set_appE, set_appE0, List.length_map, List.length_append, List.append_assoc, Nat.add_assoc, Nat.reduceEqDiff, true_and, and_true, *])
local macro_rules | `(tactic| walk_at "sd") => `(tactic| first | with_reducible rfl | decide | (have hSZ : SZ = 16777216 := rfl; first | exact cMod_of (by omega) | exact lim64_l (by omega) (by omega) | exact lim64_r (by omega) (by omega) | exact cNn_of (by omega) | exact cDiv_of (by omega) (by omega) | exact cPow_of (by omega) (by omega) (by omega) (by omega) | exact lim62_of (by omega) (by omega) | exact lim64_of (by omega) (by omega) | omega | ((try simp only [List.length_map, List.length_append, List.length_cons, List.length_nil] at *); (have hSZ : SZ = 16777216 := rfl); omega)))
local macro_rules | `(tactic| walk_at "side") => `(tactic| repeat (with_reducible refine And.intro (by walk_at "sd") ?_))

section
/-! ### the listener's run -/
def rstD : D := .tup [.str "rest"]
def timD (x : Int) : D := .tup [.str "time", .int x]
def hM (n : Int) : Nat → List (Nat × Int)
  | 0 => []
  | 1 => [(0, -1), (0, n)]
  | 2 => [(0, -1), (0, n), (1, -1)]
  | 3 => [(0, -1), (0, n), (1, -1), (2, -1)]
  | 4 => [(0, -1), (0, n), (1, -1), (2, -1), (3, -1), (3, n)]
  | 5 => [(0, -1), (0, n), (1, -1), (2, -1), (3, -1), (3, n), (4, -1)]
  | 6 => [(0, -1), (0, n), (1, -1), (2, -1), (3, -1), (3, n), (4, -1), (5, -1)]
  | 7 => [(0, -1), (0, n), (1, -1), (2, -1), (3, -1), (3, n), (4, -1), (5, -1), (6, -1)]
  | _ => [(0, -1), (0, n), (1, -1), (2, -1), (3, -1), (3, n), (4, -1), (5, -1), (6, -1), (7, -1)]
def hS (v x y n : Int) : Nat → Ms
  | 0 => m0
  | 1 => ⟨0, v, 0, 0, 1, 0, [], "", 1, (hM n 1).map gp⟩
  | 2 => ⟨0, v, 0, 0, 2, 0, [rstD], "", 2, (hM n 2).map gp⟩
  | 3 => ⟨0, v, x, 0, 3, 1, [rstD, timD x], "", 3, (hM n 3).map gp⟩
  | 4 => ⟨0, v, x, 0, 4, 1, [rstD, timD x], "", 4, (hM n 4).map gp⟩
  | 5 => ⟨0, v, x, y, 5, 2, [rstD, timD x, timD y], "", 5, (hM n 5).map gp⟩
  | 6 => ⟨(y - x) % 4294967296, v, x, y, 6, 2, [rstD, timD x, timD y], "", 6, (hM n 6).map gp⟩
  | 7 => ⟨(y - x) % 4294967296, v, x, y, 7, 2, [rstD, timD x, timD y, rstD], "", 7, (hM n 7).map gp⟩
  | _ => ⟨(y - x) % 4294967296, v, x, y, 8, 2, [rstD, timD x, timD y, rstD], "done", 8, (hM n 8).map gp⟩
theorem stp_row (c : Mc) (x y : Int) (rows : List Rw) (s : Ms) {r : Rw} (hw : s.word = "") (hr : rows[s.pc]? = some r) : stp c x y rows s = dn (exR c x y r (mt s)) := by
  unfold stp
  rw [if_pos hw, hr]
theorem h_run (c : Mc) (x y : Int) (a : Nat) : ∀ i, i ≤ 8 → runM c x y (hearRows a) i = hS (c.mem.getD (16 + a) 0) x y ((16 + a : Nat) : Int) i
  | 0, _ => rfl
  | 1, _ => (stp_row c x y (hearRows a) m0 (r := .load (16 + a)) rfl rfl).trans rfl
  | 2, _ => by
    show stp c x y (hearRows a) (runM c x y (hearRows a) 1) = _
    rw [h_run c x y a 1 (by omega)]
    exact (stp_row c x y (hearRows a) _ (r := .rest) rfl rfl).trans rfl
  | 3, _ => by
    show stp c x y (hearRows a) (runM c x y (hearRows a) 2) = _
    rw [h_run c x y a 2 (by omega)]
    exact (stp_row c x y (hearRows a) _ (r := .time 3) rfl rfl).trans rfl
  | 4, _ => by
    show stp c x y (hearRows a) (runM c x y (hearRows a) 3) = _
    rw [h_run c x y a 3 (by omega)]
    exact (stp_row c x y (hearRows a) _ (r := .load (16 + a)) rfl rfl).trans rfl
  | 5, _ => by
    show stp c x y (hearRows a) (runM c x y (hearRows a) 4) = _
    rw [h_run c x y a 4 (by omega)]
    exact (stp_row c x y (hearRows a) _ (r := .time 4) rfl rfl).trans rfl
  | 6, _ => by
    show stp c x y (hearRows a) (runM c x y (hearRows a) 5) = _
    rw [h_run c x y a 5 (by omega)]
    exact (stp_row c x y (hearRows a) _ (r := .sub) rfl rfl).trans rfl
  | 7, _ => by
    show stp c x y (hearRows a) (runM c x y (hearRows a) 6) = _
    rw [h_run c x y a 6 (by omega)]
    exact (stp_row c x y (hearRows a) _ (r := .rest) rfl rfl).trans rfl
  | 8, _ => by
    show stp c x y (hearRows a) (runM c x y (hearRows a) 7) = _
    rw [h_run c x y a 7 (by omega)]
    exact (stp_row c x y (hearRows a) _ (r := .fin) rfl rfl).trans rfl
  | n + 9, h => absurd h (by omega)
theorem h_late (c : Mc) (x y : Int) (a : Nat) {i : Nat} (h : 8 ≤ i) : runM c x y (hearRows a) i = hS (c.mem.getD (16 + a) 0) x y ((16 + a : Nat) : Int) 8 := by
  have e := h_run c x y a 8 (Nat.le_refl _)
  rw [runM_fix c x y (hearRows a) (i := 8) (by rw [e]; show ¬ (Str.ofString "done" = Str.ofString ""); decide) i h, e]
theorem hear_ok (a : Nat) (h : 16 + a < 65536) : ∀ r ∈ hearRows a, r.ok := by
  intro r hr
  simp only [hearRows, List.mem_cons, List.not_mem_nil, or_false] at hr
  rcases hr with rfl | rfl | rfl | rfl | rfl | rfl | rfl | rfl
  · exact h
  · exact True.intro
  · show 3 < 8
    decide
  · exact h
  · show 4 < 8
    decide
  · exact True.intro
  · exact True.intro
  · exact True.intro

end
local macro_rules | `(tactic| walk_at "mir") => `(tactic| simp -implicitDefEqProofs only [wp_ok, wp_sSeq, seq_nx, seq_rt, seq_ex, kx_seq, kx_mk, kRet_seq, kRet_mk, kRet_fe, kx_fe, fe_ex, seq_bk, seq_ct, wp_sNil, wp_sBreak, wp_sCont, wp_sRetN, wp_sExpr, kExpr_eq, wp_sRet, kRet_eq, wp_sSet, kSet_eq, wp_sSetT, wp_sIf, kIfS_d, kIfS_n, kIfS_t, kIfS_f, wp_sPar, kPar_eq, wp_sPar3, kPar3_eq, r_cix, r_sumT, wp_sAug, kAug_eq, kAug2_eq, wp_sPut, kPut1_eq, kPut2_eq, kPut3_ref, wp_sPutAug, wp_sSlc, kSc1_eq, kSc2_eq, kSc3_eq, kSc4_ref, r_tupR2, r_lstR2, set_app_lt, kPA1_eq, kPA3_eq, wp_sFld, kFld1_eq, wp_sFldAug, kFA0_eq, kFA1_eq, kFA2_eq, wp_sFor, wp_iSeq, kSeq_tup, kSeq_fl, wp_iRg1, kRg1_eq, wp_iRg2, kRg2_eq, wp_iRgC, kRgC_eq,
  wp_eV, kV_some, wp_eC, wp_e2, k2a_eq, k2b_eq, wp_e1, k1_eq, wp_eCall, wp_aNil, wp_aCons, kC1_eq, kC2_eq, wp_eTup, kTup_eq, wp_eLst, kLst_eq, wp_eFn, kFn_eq, wp_tb, kTb_eq, wp_tTru, kTru_bl, wp_tAnd, kAnd_d, kAnd_n, kAnd_t, kAnd_f, wp_tOr, kOr_d, kOr_n, kOr_t, kOr_f, wp_tNot, kNot_eq, wp_eIf, kIf_d, kIf_n, kIf_t, kIf_f, wp_eAnd, kAndV_d, kAndV_n, kAndV_t, kAndV_f, wp_eOr, kOrV_d, kOrV_n, kOrV_t, kOrV_f, wp_eNot, kNotV_bl, wp_eChain, kCh1_eq, kCh2_eq, kCh3_eq, wp_eSl, kSl1_eq, kSl2_eq, kSl3_eq, wp_oNone, wp_oSome, kO_eq, wp_eBm, kBm_eq, kBm2_eq, wp_eBm0, kBm0_eq, wp_eMeth, kMt2_eq, wp_eMake, kMk_eq, kMkI_eq, wp_eDict, wp_pairs_nil, wp_pairs_cons, kP1_eq, kP2_eq, kP3_eq, wp_eLc, wp_allocO, fe_nx, fe_rt,
  r_add, r_addS, r_addT, r_iadd, r_sub, r_mul, r_fdiv, r_mod, r_pow, r_shl, r_shr, r_and, r_or, r_xor, r_neg, r_lt, r_le, r_gt, r_ge, r_eqI, r_eqS, r_eqB, r_neI, r_neS, r_neB, r_isB, r_isNB, r_is0, r_isI, r_isT, r_isNot0, r_isNotI, r_isNotT, r_int, r_intB, r_abs, r_max2, r_min2, r_lenT, r_lenF, r_lenR, kLen_lst, kLen_dk, kOpt_some, r_ixT, r_ixF, r_ixR, kIx_lst, kIx_dkS, kIx_dkI, look_cons, inr_inj, inl_inj, ofS_inj, String.reduceEq, reduceIte, kPutO_dkS, kPutO_dkI, r_append, sl_ref, kPA2_ref, kPAo_dkS, kPAo_dkI, kPA4_ref, kPDo_dkS, kPDo_dkI,
  List.getElem?_cons_zero, List.getElem?_cons_succ, List.set_cons_zero, List.set_cons_succ, List.length_cons, List.length_nil, List.map_cons, List.map_nil, List.cons_append, List.nil_append, List.replicate_succ, List.replicate_zero, decide_eq_true_eq, decide_eq_false_iff_not, decide_true, decide_false, Bool.not_true, Bool.not_false, Nat.reduceAdd, tyD_ref, beq_self_eq_true, Int.zero_add, Int.mul_one, Int.toNat_natCast, Nat.zero_add, wp_mkFn, eq_self, put8_0, put8_1, put8_2, put8_3, put8_4, cp_page, cp_loaded, cp_first, cp_second, r_mulT, r_fld, kFldO_ins, lk_nil, lk_cons, kFld2_ref, kFA3_ref, kFlO_ins, kMt_ref, kMtO_ins, kMtM_some, putA_nil, putA_cons, mem_one, mem_two, mem_three, or_true, true_or, kLsO_lst, r_pop0, r_popAt0, r_insert, r_extend, r_tupR, r_tupT, r_tupF, r_listR, r_listT, r_listF, r_addR, kSeq_refO, set_get, set_get', set_same, List.take_zero, List.drop_zero, r_mulR, List.flatten_replicate_singleton, wipe_nil, wipe_cons, wp_tYes, kSetT_ref, kSetT_tup, kSetT_nm, setG_nil, setG_cons, atI_0, atI_1, atI_2, atI_3, atI_4, atI_5, atI_6, atI_7, List.length_set, List.set_set, List.getElem?_append_left, List.head?_cons, List.tail_cons, sz_le, sz_lt, Nat.reduceLeDiff, Nat.reduceLT, Nat.reduceSub, lim64_of, lim62_of, cMod_of, cDiv_of, cNn_of, cPow_of, Int.reduceLT, Int.reduceLE, Int.reduceNeg, Int.reduceToNat, Int.reduceAdd, r_inT, r_ninT, flat_int, flat_str, flat_bl, eqF_int, eqF_str, dec_or, List.all_cons, List.all_nil, List.any_cons, List.any_nil, Bool.and_self, Bool.and_true, Bool.or_false, Bool.false_or, Bool.true_or, Bool.or_true, r_isi, kIsi_some, tyN_non, tyN_bl, tyN_int, tyN_str, tyN_tup, tyN_fl, tyN_ref, tyO_lst, tyO_dk, subN_int, subN_bool, subN_str, subN_tuple, subN_list, subN_dict, Option.bind_some, String.reduceBEq, r_isS, r_isBl, r_isR, r_isF, r_isNotS, r_isNotBl, r_isNotR, r_isNotF, reduceCtorEq, kDict_dk, kDk_some, keysD_nil, keysD_s, keysD_i, Option.map_some, dmerge_def, List.foldl_cons, List.foldl_nil, dput_nil, dput_n, dput_h, List.forall_mem_cons, List.not_mem_nil, true_imp_iff, false_imp_iff, implies_true, ne_eq, not_false_eq_true, not_true_eq_false, get_app, get_app0, set_app, set_app0, get_appE, get_appE0, set_appE, set_appE0, List.length_map, List.length_append, List.append_assoc, Nat.add_assoc, Nat.reduceEqDiff, true_and, and_true])
local macro_rules | `(tactic| walk_at "mirs") => `(tactic| simp -implicitDefEqProofs only [wp_ok, wp_sSeq, seq_nx, seq_rt, seq_ex, kx_seq, kx_mk, kRet_seq, kRet_mk, kRet_fe, kx_fe, fe_ex, seq_bk, seq_ct, wp_sNil, wp_sBreak, wp_sCont, wp_sRetN, wp_sExpr, kExpr_eq, wp_sRet, kRet_eq, wp_sSet, kSet_eq, wp_sSetT, wp_sIf, kIfS_d, kIfS_n, kIfS_t, kIfS_f, wp_sPar, kPar_eq, wp_sPar3, kPar3_eq, r_cix, r_sumT, wp_sAug, kAug_eq, kAug2_eq, wp_sPut, kPut1_eq, kPut2_eq, kPut3_ref, wp_sPutAug, wp_sSlc, kSc1_eq, kSc2_eq, kSc3_eq, kSc4_ref, r_tupR2, r_lstR2, set_app_lt, kPA1_eq, kPA3_eq, wp_sFld, kFld1_eq, wp_sFldAug, kFA0_eq, kFA1_eq, kFA2_eq, wp_sFor, wp_iSeq, kSeq_tup, kSeq_fl, wp_iRg1, kRg1_eq, wp_iRg2, kRg2_eq, wp_iRgC, kRgC_eq,
  wp_eV, kV_some, wp_eC, wp_e2, k2a_eq, k2b_eq, wp_e1, k1_eq, wp_eCall, wp_aNil, wp_aCons, kC1_eq, kC2_eq, wp_eTup, kTup_eq, wp_eLst, kLst_eq, wp_eFn, kFn_eq, wp_tb, kTb_eq, wp_tTru, kTru_bl, wp_tAnd, kAnd_d, kAnd_n, kAnd_t, kAnd_f, wp_tOr, kOr_d, kOr_n, kOr_t, kOr_f, wp_tNot, kNot_eq, wp_eIf, kIf_d, kIf_n, kIf_t, kIf_f, wp_eAnd, kAndV_d, kAndV_n, kAndV_t, kAndV_f, wp_eOr, kOrV_d, kOrV_n, kOrV_t, kOrV_f, wp_eNot, kNotV_bl, wp_eChain, kCh1_eq, kCh2_eq, kCh3_eq, wp_eSl, kSl1_eq, kSl2_eq, kSl3_eq, wp_oNone, wp_oSome, kO_eq, wp_eBm, kBm_eq, kBm2_eq, wp_eBm0, kBm0_eq, wp_eMeth, kMt2_eq, wp_eMake, kMk_eq, kMkI_eq, wp_eDict, wp_pairs_nil, wp_pairs_cons, kP1_eq, kP2_eq, kP3_eq, wp_eLc, wp_allocO, fe_nx, fe_rt,
  r_add, r_addS, r_addT, r_iadd, r_sub, r_mul, r_fdiv, r_mod, r_pow, r_shl, r_shr, r_and, r_or, r_xor, r_neg, r_lt, r_le, r_gt, r_ge, r_eqI, r_eqS, r_eqB, r_neI, r_neS, r_neB, r_isB, r_isNB, r_is0, r_isI, r_isT, r_isNot0, r_isNotI, r_isNotT, r_int, r_intB, r_abs, r_max2, r_min2, r_lenT, r_lenF, r_lenR, kLen_lst, kLen_dk, kOpt_some, r_ixT, r_ixF, r_ixR, kIx_lst, kIx_dkS, kIx_dkI, look_cons, inr_inj, inl_inj, ofS_inj, String.reduceEq, reduceIte, kPutO_dkS, kPutO_dkI, r_append, sl_ref, kPA2_ref, kPAo_dkS, kPAo_dkI, kPA4_ref, kPDo_dkS, kPDo_dkI,
  List.getElem?_cons_zero, List.getElem?_cons_succ, List.set_cons_zero, List.set_cons_succ, List.length_cons, List.length_nil, List.map_cons, List.map_nil, List.cons_append, List.nil_append, List.replicate_succ, List.replicate_zero, decide_eq_true_eq, decide_eq_false_iff_not, decide_true, decide_false, Bool.not_true, Bool.not_false, Nat.reduceAdd, tyD_ref, beq_self_eq_true, Int.zero_add, Int.mul_one, Int.toNat_natCast, Nat.zero_add, wp_mkFn, eq_self, put8_0, put8_1, put8_2, put8_3, put8_4, cp_page, cp_loaded, cp_first, cp_second, r_mulT, r_fld, kFldO_ins, lk_nil, lk_cons, kFld2_ref, kFA3_ref, kFlO_ins, kMt_ref, kMtO_ins, kMtM_some, putA_nil, putA_cons, mem_one, mem_two, mem_three, or_true, true_or, kLsO_lst, r_pop0, r_popAt0, r_insert, r_extend, r_tupR, r_tupT, r_tupF, r_listR, r_listT, r_listF, r_addR, kSeq_refO, set_get, set_get', set_same, List.take_zero, List.drop_zero, r_mulR, List.flatten_replicate_singleton, wipe_nil, wipe_cons, wp_tYes, kSetT_ref, kSetT_tup, kSetT_nm, setG_nil, setG_cons, atI_0, atI_1, atI_2, atI_3, atI_4, atI_5, atI_6, atI_7, List.length_set, List.set_set, List.getElem?_append_left, List.head?_cons, List.tail_cons, sz_le, sz_lt, Nat.reduceLeDiff, Nat.reduceLT, Nat.reduceSub, lim64_of, lim62_of, cMod_of, cDiv_of, cNn_of, cPow_of, Int.reduceLT, Int.reduceLE, Int.reduceNeg, Int.reduceToNat, Int.reduceAdd, r_inT, r_ninT, flat_int, flat_str, flat_bl, eqF_int, eqF_str, dec_or, List.all_cons, List.all_nil, List.any_cons, List.any_nil, Bool.and_self, Bool.and_true, Bool.or_false, Bool.false_or, Bool.true_or, Bool.or_true, r_isi, kIsi_some, tyN_non, tyN_bl, tyN_int, tyN_str, tyN_tup, tyN_fl, tyN_ref, tyO_lst, tyO_dk, subN_int, subN_bool, subN_str, subN_tuple, subN_list, subN_dict, Option.bind_some, String.reduceBEq, r_isS, r_isBl, r_isR, r_isF, r_isNotS, r_isNotBl, r_isNotR, r_isNotF, reduceCtorEq, kDict_dk, kDk_some, keysD_nil, keysD_s, keysD_i, Option.map_some, dmerge_def, List.foldl_cons, List.foldl_nil, dput_nil, dput_n, dput_h, List.forall_mem_cons, List.not_mem_nil, true_imp_iff, false_imp_iff, implies_true, ne_eq, not_false_eq_true, not_true_eq_false, get_app, get_app0, set_app, set_app0, get_appE, get_appE0, set_appE, set_appE0, List.length_map, List.length_append, List.append_assoc, Nat.add_assoc, Nat.reduceEqDiff, true_and, and_true, *])
local macro_rules | `(tactic| walk_at "sd") => `(tactic| first | with_reducible rfl | decide | (have hSZ : SZ = 16777216 := rfl; first | exact cMod_of (by omega) | exact lim64_l (by omega) (by omega) | exact lim64_r (by omega) (by omega) | exact cNn_of (by omega) | exact cDiv_of (by omega) (by omega) | exact cPow_of (by omega) (by omega) (by omega) (by omega) | exact lim62_of (by omega) (by omega) | exact lim64_of (by omega) (by omega) | omega | ((try simp only [List.length_map, List.length_append, List.length_cons, List.length_nil] at *); (have hSZ : SZ = 16777216 := rfl); omega)))
local macro_rules | `(tactic| walk_at "side") => `(tactic| repeat (with_reducible refine And.intro (by walk_at "sd") ?_))

section
theorem OkR.hS {c : Mc} {x y v n : Int} {a : Nat} (hx : c.ans = [.int x, .int y]) (hm : 16 + a < c.mem.length) (h : 16 + a < 65536) : ∀ i, i < 8 → ∃ r, (hearRows a)[(hS v x y n i).pc]? = some r ∧ OkR 9999 c x y (hS v x y n i) r
  | 0, _ => ⟨.load (16 + a), rfl, show 0 < 9999 by decide, show 0 < 10000 by decide, fun n e => (by cases e; exact ⟨hm, h⟩), fun n e => by cases e⟩
  | 1, _ => ⟨.rest, rfl, show 2 < 9999 by decide, show 0 < 10000 by decide, fun n e => (by cases e), fun n e => by cases e⟩
  | 2, _ => ⟨.time 3, rfl, show 3 < 9999 by decide, show 1 < 10000 by decide, fun n e => (by cases e), fun n e => by cases e; exact ⟨hx, .inl ⟨rfl, rfl⟩⟩⟩
  | 3, _ => ⟨.load (16 + a), rfl, show 4 < 9999 by decide, show 2 < 10000 by decide, fun n e => (by cases e; exact ⟨hm, h⟩), fun n e => by cases e⟩
  | 4, _ => ⟨.time 4, rfl, show 6 < 9999 by decide, show 2 < 10000 by decide, fun n e => (by cases e), fun n e => by cases e; exact ⟨hx, .inr ⟨rfl, rfl⟩⟩⟩
  | 5, _ => ⟨.sub, rfl, show 7 < 9999 by decide, show 3 < 10000 by decide, fun n e => (by cases e), fun n e => by cases e⟩
  | 6, _ => ⟨.rest, rfl, show 8 < 9999 by decide, show 3 < 10000 by decide, fun n e => (by cases e), fun n e => by cases e⟩
  | 7, _ => ⟨.fin, rfl, show 9 < 9999 by decide, show 4 < 10000 by decide, fun n e => (by cases e), fun n e => by cases e⟩
  | n + 8, h => absurd h (by omega)
theorem h_ok (x y : Int) (a sz : Nat) (h : 16 + a < 65536) (hs : a + 1 ≤ sz) (c : Mc) (hc : CnOf (hearRows a) sz [.int x, .int y] c) (i : Nat) (hw : (runM c x y (hearRows a) i).word = "") :
    ∃ r, (hearRows a)[(runM c x y (hearRows a) i).pc]? = some r ∧ OkR 9999 c x y (runM c x y (hearRows a) i) r := by
  have hm : 16 + a < c.mem.length := by
    rw [hc.mem, show (hearRows a).length = 8 from rfl, show up16 8 = 16 from rfl]
    unfold up16
    omega
  rcases Nat.lt_or_ge i 8 with g | g
  · rw [h_run c x y a i (by omega)]
    exact OkR.hS hc.ans hm h i g
  · rw [h_late c x y a g] at hw
    exact absurd hw (show ¬ (Str.ofString "done" = Str.ofString "") by decide)
variable {Q : D → Mir.ST → Prop} {X : XQ}
/-- a run of the listener -/
theorem hear_w {S : Mir.ST} (x y : Int) (a sz N : Nat) (h : 16 + a < 65536) (hs : a + 1 ≤ sz) (hz : sz ≤ 1000) (hN : N ≤ 1000)
    (k : ∀ (T3 : Mir.ST) (n0 : Nat) (c : Mc) (s : Ms) (v : Int), s = fin (hS v x y ((16 + a : Nat) : Int) (min N 8)) → (S ++ T3)[n0 + 1]? = some (c.dk n0 s) → (S ++ T3)[n0 + 3]? = some (.lst s.rl) → (S ++ T3)[n0 + 4]? = some (.lst s.deeds) → (S ++ T3)[n0 + 5]? = some (.lst s.met) → Q (.ref (n0 + 1)) (S ++ T3)) :
    wpR (m__law_code_ran [gst (hearRows a) sz, .tup [.int x, .int y], .int (N : Int)] S) Q X := by
  refine ran_w (hearRows a) sz [.int x, .int y] x y N (hear_ok a h) (by show 8 ≤ 42; omega) (by omega) hN (fun c hc i _ hw => h_ok x y a sz h hs c hc i hw) fun T3 n0 c s hc hs d1 d3 d4 d5 => ?_
  refine k T3 n0 c s (c.mem.getD (16 + a) 0) ?_ d1 d3 d4 d5
  rw [hs]
  rcases Nat.lt_or_ge N 8 with g | g
  · rw [h_run c x y a N (by omega), Nat.min_eq_left (by omega)]
  · rw [h_late c x y a g, Nat.min_eq_right g]
def ldA (a : Nat) : D := .tup [.str "load", .int ((16 + a : Nat) : Int)]
theorem h_deeds (a : Nat) : deedsO (hearRows a) (hM ((16 + a : Nat) : Int) 8) = [ldA a, rstD, .tup [.str "time"], ldA a, .tup [.str "time"], rstD] := by
  have h0 : (0 : Int) ≤ ((16 + a : Nat) : Int) := Int.natCast_nonneg _
  generalize hn : ((16 + a : Nat) : Int) = n at h0
  have e0 : dOf (hearRows a) (0, n) = [ldA a] := by
    show (if 0 ≤ n then [D.tup [.str "load", .int n]] else []) = _
    rw [if_pos h0]
    unfold ldA
    rw [hn]
  have e3 : dOf (hearRows a) (3, n) = [ldA a] := by
    show (if 0 ≤ n then [D.tup [.str "load", .int n]] else []) = _
    rw [if_pos h0]
    unfold ldA
    rw [hn]
  have f : deedsO (hearRows a) (hM n 8) = [] ++ (dOf (hearRows a) (0, n) ++ ([rstD] ++ ([.tup [.str "time"]] ++ ([] ++ (dOf (hearRows a) (3, n) ++ ([.tup [.str "time"]] ++ ([] ++ ([rstD] ++ ([] ++ []))))))))) := rfl
  rw [f, e0, e3]
  rfl
theorem hM_lt (n : Int) : ∀ p ∈ hM n 8, p.1 < 8 := by
  intro p hp
  simp only [hM, List.mem_cons, List.not_mem_nil, or_false] at hp
  rcases hp with rfl | rfl | rfl | rfl | rfl | rfl | rfl | rfl | rfl | rfl
  · decide
  · show 0 < 8; decide
  · decide
  · decide
  · decide
  · show 3 < 8; decide
  · decide
  · decide
  · decide
  · decide
theorem nb_1 {x : Str} (h : PyData.strOk x = true) : Nb 2 (.tup [.str x]) := by
  unfold Nb
  intro d hd
  rw [List.mem_singleton.mp hd]
  exact h
theorem nb_2 {x : Str} {i : Int} (h : PyData.strOk x = true) : Nb 2 (.tup [.str x, .int i]) := by
  unfold Nb
  intro d hd
  simp only [List.mem_cons, List.not_mem_nil, or_false] at hd
  rcases hd with rfl | rfl
  · exact h
  · exact True.intro
theorem nb_h6 (a : Nat) : ∀ d ∈ [ldA a, rstD, .tup [.str "time"], ldA a, .tup [.str "time"], rstD], Nb 2 d := by
  intro d hd
  simp only [List.mem_cons, List.not_mem_nil, or_false] at hd
  rcases hd with rfl | rfl | rfl | rfl | rfl | rfl
  · exact nb_2 (by decide +kernel)
  · exact nb_1 (by decide +kernel)
  · exact nb_1 (by decide +kernel)
  · exact nb_2 (by decide +kernel)
  · exact nb_1 (by decide +kernel)
  · exact nb_1 (by decide +kernel)
theorem nb_h4 (x y : Int) : ∀ d ∈ [rstD, timD x, timD y, rstD], Nb 2 d := by
  intro d hd
  simp only [List.mem_cons, List.not_mem_nil, or_false] at hd
  rcases hd with rfl | rfl | rfl | rfl
  · exact nb_1 (by decide +kernel)
  · exact nb_2 (by decide +kernel)
  · exact nb_2 (by decide +kernel)
  · exact nb_1 (by decide +kernel)
theorem h_len (v x y n : Int) : ∀ i, i ≤ 7 → ((fin (hS v x y n (min i 8))).deeds.length = 4 → (fin (hS v x y n (min i 8))).r1 = (y - x) % 4294967296) ∧ ((fin (hS v x y n (min i 8))).deeds.length ≠ 4 → i ≤ 6)
  | 0, _ => ⟨fun h => absurd h (show ¬ (0 = 4) by decide), fun _ => by omega⟩
  | 1, _ => ⟨fun h => absurd h (show ¬ (0 = 4) by decide), fun _ => by omega⟩
  | 2, _ => ⟨fun h => absurd h (show ¬ (1 = 4) by decide), fun _ => by omega⟩
  | 3, _ => ⟨fun h => absurd h (show ¬ (2 = 4) by decide), fun _ => by omega⟩
  | 4, _ => ⟨fun h => absurd h (show ¬ (2 = 4) by decide), fun _ => by omega⟩
  | 5, _ => ⟨fun h => absurd h (show ¬ (3 = 4) by decide), fun _ => by omega⟩
  | 6, _ => ⟨fun h => absurd h (show ¬ (3 = 4) by decide), fun _ => by omega⟩
  | 7, _ => ⟨fun _ => rfl, fun h => absurd (show (4 : Nat) = 4 from rfl) h⟩
  | n + 8, h => absurd h (by omega)
theorem is_listener_w {S : Mir.ST} {iw n : Nat} (d : DrawSt S iw n) (a many sz : Nat) (hz : sz = a + 16 * many + 1) (h1 : 1 ≤ many) (h2 : a + 16 * many ≤ 900) (k : ∀ S', DrawSt S' iw n → Q (.bl true) S') :
    wpR (m__law_is_listener [.ref iw, gst (hearRows a) sz, .int (a : Int), .int (many : Int)] S) Q X := by
  unfold m__law_is_listener
  walk_at "mir"
  unfold b__law_is_listener
  walk_at "mir"
  refine is_guest_w (hearRows a) sz (by omega) (by show 8 ≤ 42; omega) (by show 1 ≤ 8; omega) (hear_ok a (by omega)) fun T => ?_
  rw [gst_d]
  walk_at "mir"
  refine ⟨fun h => absurd h (by omega), fun _ => ⟨⟨by omega, by omega⟩, ?_⟩⟩
  refine w_neN (nb_rep sz) (nb_rep sz) (by decide) (fun _ => ?_) (fun h => absurd rfl h)
  walk_at "mir"
  rw [← gst_d]
  refine word_w (d.app T) fun x S1 hx0 hx1 d1 f1 => ?_
  walk_at "mir"
  refine word_w d1 fun y S2 hy0 hy1 d2 f2 => ?_
  walk_at "mir"
  refine hear_w x y a sz 40 (by omega) (by omega) (by omega) (by decide) fun T3 n0 c s v hs g1 g3 g4 g5 => ?_
  walk_at "mir"
  rw [gst_ix0]
  walk_at "mir"
  have hld : D.tup [D.str "load", D.int (((((hearRows a).length : Nat) : Int) + 15) / 16 * 16 + (a : Int))] = ldA a := by
    rw [show (hearRows a).length = 8 from rfl, show (((8 : Nat) : Int) + 15) / 16 * 16 + (a : Int) = ((16 + a : Nat) : Int) by omega]
    rfl
  rw [hld]
  have hs8 : s = hS v x y ((16 + a : Nat) : Int) 8 := by rw [hs]; rfl
  have hmet : s.met = (hM ((16 + a : Nat) : Int) 8).map gp := by rw [hs8]; rfl
  have hdd : s.deeds = [rstD, timD x, timD y, rstD] := by rw [hs8]; rfl
  have hwd : s.word = "done" := by rw [hs8]; rfl
  have d3 := d2.app T3
  clear hs hs8 hld
  generalize S2 ++ T3 = S5 at g1 g3 g4 g5 d3 ⊢
  have n5 : n0 + 5 < S5.length := (List.getElem?_eq_some_iff.mp g5).1
  refine deeds_w (hearRows a) sz c s (hM ((16 + a : Nat) : Int) 8) g1 g5 hmet (hM_lt _) (show 10 ≤ 2000 by decide) ?_
  rw [h_deeds]
  walk_at "mir"
  refine w_neL (ds := [ldA a, rstD, .tup [.str "time"], ldA a, .tup [.str "time"], rstD]) (es := [ldA a, rstD, .tup [.str "time"], ldA a, .tup [.str "time"], rstD]) (n := 2) (by walk_at "mir") (by walk_at "mir"; rfl) (nb_h6 a) (nb_h6 a) (by decide) (fun _ => ?_) (fun h => absurd rfl h)
  walk_at "mir"
  rw [List.getElem?_append_left (show n0 + 1 < S5.length by omega), g1]
  unfold Mc.dk
  rw [hwd]
  walk_at "mir"
  rw [List.getElem?_append_left (show n0 + 1 < S5.length by omega), g1]
  unfold Mc.dk
  walk_at "mir"
  refine w_neL (ds := s.deeds) (es := [rstD, timD x, timD y, rstD]) (n := 2) (by rw [List.getElem?_append_left (by omega)]; exact g4) (by walk_at "mir"; rfl) (by rw [hdd]; exact nb_h4 x y) (nb_h4 x y) (by decide) (fun _ => ?_) (fun h => absurd hdd h)
  walk_at "mir"
  refine for_rng (fun i G S' => i ≤ 7 ∧ ∃ g5 g7, G = [some (D.ref iw), some (gst (hearRows a) sz), some (D.int (a : Int)), some (D.int (many : Int)), some (D.tup [D.int x, D.int y]), g5, some (ldA a), g7] ∧ DrawSt S' iw n) ⟨by omega, _, _, rfl, d3.app _⟩ ?_ ?_
  · intro G S' hP
    exact absurd hP.1 (by omega)
  · intro i G S' hi hP
    obtain ⟨hi7, g5', g7, hG, d4⟩ := hP
    rw [hG]
    clear hG
    refine ⟨_, rfl, ?_⟩
    walk_at "mir"
    refine hear_w x y a sz i (by omega) (by omega) (by omega) (by omega) fun T4 n1 c1 s1 v1 hs1 e1 e3 e4 e5 => ?_
    have hh := h_len v1 x y ((16 + a : Nat) : Int) i hi7
    rw [← hs1] at hh
    have d5 := d4.app T4
    clear hs1
    generalize S' ++ T4 = S7 at e1 e3 e4 e5 d5 ⊢
    walk_at "mir"
    rw [e1]
    unfold Mc.dk
    walk_at "mir"
    rw [e4]
    walk_at "mir"
    refine ⟨fun hl => ?_, fun hl => ⟨hh.2 (by omega), _, _, rfl, d5⟩⟩
    have hr := hh.1 (by omega)
    rw [e1]
    unfold Mc.dk
    walk_at "mir"
    rw [e3]
    unfold Ms.rl
    walk_at "mir"
    rw [hr]
    have kk := k S7 d5
    have e : decide ((y - x) % 4294967296 = (y - x) % 4294967296) = true := decide_eq_true rfl
    rw [e]
    exact kk

end
section
section
variable {Q : D → Mir.ST → Prop} {X : XQ}
theorem nxt_w {S : Mir.ST} {iw n : Nat} (d : DrawSt S iw n) {many : Int} {m : Nat} (e : many = m) (hm : 0 < m) (k : ∀ (v : Nat) (S' : Mir.ST), v < m → DrawSt S' iw n → Q (.int v) S') : wpR (m__law_next [.ref iw, .int many] S) Q X := by
  refine next_w d (by omega) fun v S' h0 h1 d' _ => ?_
  have hv : v = ((v.toNat : Nat) : Int) := (Int.toNat_of_nonneg h0).symm
  rw [hv]
  exact k v.toNat S' (by omega) d'
theorem idle_w {S : Mir.ST} (k : Q (gst [.fin] 0) S) : wpR (m_idle [] S) Q X := by
  unfold m_idle
  walk_at "mir"
  unfold b_idle
  walk_at "mir"
  exact k
theorem fin_ok : ∀ r ∈ [Rw.fin], r.ok := by
  intro r hr
  rw [List.mem_singleton.mp hr]
  exact True.intro
theorem idle_run {S : Mir.ST} (k : ∀ (T3 : Mir.ST) (n0 : Nat) (c : Mc) (s : Ms), s.word = "done" → s.deeds = [] → (S ++ T3)[n0 + 1]? = some (c.dk n0 s) → (S ++ T3)[n0 + 4]? = some (.lst s.deeds) → Q (.ref (n0 + 1)) (S ++ T3)) :
    wpR (m__law_code_ran [gst [.fin] 0, .tup [], .int ((1 : Nat) : Int)] S) Q X := by
  refine ran_w [.fin] 0 [] 0 0 1 fin_ok (by decide) (by decide) (by decide) (fun c hc i hi _ => ?_) fun T3 n0 c s hc hs d1 d3 d4 d5 => k T3 n0 c s (by rw [hs]; rfl) (by rw [hs]; rfl) d1 d4
  have e : i = 0 := by omega
  rw [e]
  exact ⟨.fin, rfl, show 0 < 9999 by decide, show 0 < 10000 by decide, fun n e => (by cases e), fun n e => by cases e⟩
end
theorem law_true (ns : List Int) (h63 : ns.length ≤ 63) : ∃ S', m_law [.fl (ns.map D.int)] [] = .ok (.bl true) S' := by
  suffices h : wpR (m_law [.fl (ns.map D.int)] []) (fun r _ => r = .bl true) (fun _ _ _ => False) by
    obtain ⟨r, S', e, h2⟩ := wpR_eq h
    rw [h2] at e
    exact ⟨S', e⟩
  unfold m_law
  walk_at "mir"
  unfold b_law
  walk_at "mir"
  obtain ⟨n, xs, S1, e1, h1, hx, hl, hn, T, hT⟩ := draws_ok ns h63 200 (by decide) [.dk []]
  refine wpR_of ⟨_, _, e1, ?_⟩
  rw [hT] at h1 ⊢
  walk_at "mir"
  have d0 : DrawSt (O.dk [(Sum.inr (Str.ofString "draws"), D.ref n), (Sum.inr (Str.ofString "at"), D.int 0)] :: T) 0 n := by
    obtain ⟨m, rfl⟩ : ∃ m, n = m + 1 := ⟨n - 1, by have : 1 ≤ n := hn; omega⟩
    exact ⟨by omega, 0, xs, rfl, h1, by omega, hx, hl⟩
  clear h1 hT hx hl hn e1
  refine nxt_w d0 (m := 40) (by decide) (by decide) fun m S2 hm d2 => ?_
  walk_at "mir"
  rw [show (1 : Int) + (m : Int) = ((1 + m : Nat) : Int) by omega]
  refine ⟨cDiv_of (by omega) (by omega), ?_⟩
  have hmn : 1 ≤ 1 + m ∧ 1 + m ≤ 40 := by omega
  generalize 1 + m = mn at hmn ⊢
  have hdiv : (999 : Int) / (mn : Int) = ((999 / mn : Nat) : Int) := by rw [Int.natCast_ediv]; rfl
  have hpos : 1 ≤ 999 / mn := (Nat.le_div_iff_mul_le (by omega)).mpr (by omega)
  refine nxt_w d2 (m := min 40 (999 / mn)) (by rw [hdiv]; omega) (by omega) fun u S3 hu d3 => ?_
  walk_at "mir"
  rw [show (1 : Int) + (u : Int) = ((1 + u : Nat) : Int) by omega]
  have hst : 1 ≤ 1 + u ∧ 1 + u ≤ 999 / mn := by omega
  generalize 1 + u = st at hst ⊢
  have hms : mn * st ≤ 999 := by
    rw [Nat.mul_comm]
    exact (Nat.le_div_iff_mul_le (by omega)).mp hst.2
  refine caller_w mn st hmn.1 hmn.2 hst.1 hms fun T2 => ?_
  walk_at "mir"
  refine is_caller_w mn st (mn * st + 1) rfl hmn.1 hmn.2 hst.1 hms fun T3 => ?_
  walk_at "mir"
  refine nxt_w (m := 30) (d3.app (T2 ++ T3)) rfl (by decide) fun p S4 hp d4 => ?_
  walk_at "mir"
  rw [show (1 : Int) + (p : Int) = ((1 + p : Nat) : Int) by omega]
  have hq : 1 ≤ 1 + p ∧ 1 + p ≤ 30 := by omega
  generalize 1 + p = q at hq ⊢
  refine nxt_w (m := 1 + min 500 (900 - 16 * q)) d4 (by omega) (by omega) fun a S5 ha d5 => ?_
  walk_at "mir"
  refine listener_w a q hq.1 (by omega) ?_
  walk_at "mir"
  refine is_listener_w d5 a q (a + 16 * q + 1) rfl hq.1 (by omega) fun S6 d6 => ?_
  walk_at "mir"
  refine idle_w ?_
  walk_at "mir"
  refine idle_run fun T7 n0 c s hw hd g1 g4 => ?_
  generalize S6 ++ T7 = S7 at g1 g4 ⊢
  have l4 : n0 + 4 < S7.length := (List.getElem?_eq_some_iff.mp g4).1
  walk_at "mir"
  refine idle_w ?_
  walk_at "mir"
  refine is_guest_w [.fin] 0 (by decide) (by decide) (by decide) fin_ok fun T8 => ?_
  walk_at "mir"
  rw [List.getElem?_append_left (show n0 + 1 < S7.length by omega), g1]
  unfold Mc.dk
  rw [hw]
  walk_at "mir"
  rw [List.getElem?_append_left (show n0 + 1 < S7.length by omega), g1]
  unfold Mc.dk
  walk_at "mir"
  rw [hd] at g4
  refine w_eqL (ds := []) (es := []) (n := 1) (by rw [List.getElem?_append_left l4]; exact g4) (by rw [← List.append_assoc, ← List.length_append]; exact get_app0) (by simp) (by simp) (by decide) (fun _ => rfl) (fun h => absurd rfl h)

end
end Pf
namespace Pf
open PySem L2 PyProof.Rows Mir
set_option maxHeartbeats 0 in
theorem all_mk {l : PySem.W.OpenLaw} {w : World} {K : PySem.W.Frag} {h : Heap} {mg : Str → Option Value} {fa f_law f__law_next f__law_code_ran f__law_machine f__law_code_word f__law_number f__law_signs f__law_instruction f__law_operate f__law_met f__law_told f__law_draws f__law_is_caller f__law_is_guest f__law_is_number f__law_is_instruction f__law_deeds f__law_is_listener f__law_word f__law_pick f_idle f_caller f_data_base f_listener : Addr} (X : K.In h) (G : h.Ns mainGlobals mg) (hfa : mg "law" = some (.ref fa))
    {tk_PAGE : Tok} {tk_LOADED : Tok} {tk_FIRST : Tok} {tk_SECOND : Tok} {od_law an_law : Option Addr} {sl_law : Array (Option Value)} {oc_law kV_law dc_law pm_law cd_law ct_law : Value} {od__law_next an__law_next : Option Addr} {sl__law_next : Array (Option Value)} {oc__law_next kV__law_next dc__law_next pm__law_next cd__law_next ct__law_next : Value} {od__law_code_ran an__law_code_ran : Option Addr} {sl__law_code_ran : Array (Option Value)} {oc__law_code_ran kV__law_code_ran dc__law_code_ran pm__law_code_ran cd__law_code_ran ct__law_code_ran : Value} {od__law_machine an__law_machine : Option Addr} {sl__law_machine : Array (Option Value)} {oc__law_machine kV__law_machine dc__law_machine pm__law_machine cd__law_machine ct__law_machine : Value} {od__law_code_word an__law_code_word : Option Addr} {sl__law_code_word : Array (Option Value)} {oc__law_code_word kV__law_code_word dc__law_code_word pm__law_code_word cd__law_code_word ct__law_code_word : Value} {od__law_number an__law_number : Option Addr} {sl__law_number : Array (Option Value)} {oc__law_number kV__law_number dc__law_number pm__law_number cd__law_number ct__law_number : Value} {od__law_signs an__law_signs : Option Addr} {sl__law_signs : Array (Option Value)} {oc__law_signs kV__law_signs dc__law_signs pm__law_signs cd__law_signs ct__law_signs : Value} {od__law_instruction an__law_instruction : Option Addr} {sl__law_instruction : Array (Option Value)} {oc__law_instruction kV__law_instruction dc__law_instruction pm__law_instruction cd__law_instruction ct__law_instruction : Value} {od__law_operate an__law_operate : Option Addr} {sl__law_operate : Array (Option Value)} {oc__law_operate kV__law_operate dc__law_operate pm__law_operate cd__law_operate ct__law_operate : Value} {od__law_met an__law_met : Option Addr} {sl__law_met : Array (Option Value)} {oc__law_met kV__law_met dc__law_met pm__law_met cd__law_met ct__law_met : Value} {od__law_told an__law_told : Option Addr} {sl__law_told : Array (Option Value)} {oc__law_told kV__law_told dc__law_told pm__law_told cd__law_told ct__law_told : Value} {od__law_draws an__law_draws : Option Addr} {sl__law_draws : Array (Option Value)} {oc__law_draws kV__law_draws dc__law_draws pm__law_draws cd__law_draws ct__law_draws : Value} {od__law_is_caller an__law_is_caller : Option Addr} {sl__law_is_caller : Array (Option Value)} {oc__law_is_caller kV__law_is_caller dc__law_is_caller pm__law_is_caller cd__law_is_caller ct__law_is_caller : Value} {od__law_is_guest an__law_is_guest : Option Addr} {sl__law_is_guest : Array (Option Value)} {oc__law_is_guest kV__law_is_guest dc__law_is_guest pm__law_is_guest cd__law_is_guest ct__law_is_guest : Value} {od__law_is_number an__law_is_number : Option Addr} {sl__law_is_number : Array (Option Value)} {oc__law_is_number kV__law_is_number dc__law_is_number pm__law_is_number cd__law_is_number ct__law_is_number : Value} {od__law_is_instruction an__law_is_instruction : Option Addr} {sl__law_is_instruction : Array (Option Value)} {oc__law_is_instruction kV__law_is_instruction dc__law_is_instruction pm__law_is_instruction cd__law_is_instruction ct__law_is_instruction : Value} {od__law_deeds an__law_deeds : Option Addr} {sl__law_deeds : Array (Option Value)} {oc__law_deeds kV__law_deeds dc__law_deeds pm__law_deeds cd__law_deeds ct__law_deeds : Value} {od__law_is_listener an__law_is_listener : Option Addr} {sl__law_is_listener : Array (Option Value)} {oc__law_is_listener kV__law_is_listener dc__law_is_listener pm__law_is_listener cd__law_is_listener ct__law_is_listener : Value} {od__law_word an__law_word : Option Addr} {sl__law_word : Array (Option Value)} {oc__law_word kV__law_word dc__law_word pm__law_word cd__law_word ct__law_word : Value} {od__law_pick an__law_pick : Option Addr} {sl__law_pick : Array (Option Value)} {oc__law_pick kV__law_pick dc__law_pick pm__law_pick cd__law_pick ct__law_pick : Value} {od_idle an_idle : Option Addr} {sl_idle : Array (Option Value)} {oc_idle kV_idle dc_idle pm_idle cd_idle ct_idle : Value} {od_caller an_caller : Option Addr} {sl_caller : Array (Option Value)} {oc_caller kV_caller dc_caller pm_caller cd_caller ct_caller : Value} {od_data_base an_data_base : Option Addr} {sl_data_base : Array (Option Value)} {oc_data_base kV_data_base dc_data_base pm_data_base cd_data_base ct_data_base : Value} {od_listener an_listener : Option Addr} {sl_listener : Array (Option Value)} {oc_listener kV_listener dc_listener pm_listener cd_listener ct_listener : Value}
    (z_len : PySem.W.nsIn K mainGlobals "len" = some none)
    (z_int : PySem.W.nsIn K mainGlobals "int" = some none)
    (z_list : PySem.W.nsIn K mainGlobals "list" = some none)
    (z_range : PySem.W.nsIn K mainGlobals "range" = some none)
    (z_abs : PySem.W.nsIn K mainGlobals "abs" = some none)
    (z_bool : PySem.W.nsIn K mainGlobals "bool" = some none)
    (z_isinstance : PySem.W.nsIn K mainGlobals "isinstance" = some none)
    (z_str : PySem.W.nsIn K mainGlobals "str" = some none)
    (z_tuple : PySem.W.nsIn K mainGlobals "tuple" = some none)
    (v_PAGE : PySem.W.nsIn K mainGlobals "PAGE" = some (some (.int 16 tk_PAGE)))
    (v_LOADED : PySem.W.nsIn K mainGlobals "LOADED" = some (some (.int 2 tk_LOADED)))
    (v_FIRST : PySem.W.nsIn K mainGlobals "FIRST" = some (some (.int 3 tk_FIRST)))
    (v_SECOND : PySem.W.nsIn K mainGlobals "SECOND" = some (some (.int 4 tk_SECOND)))
    (z_min : PySem.W.nsIn K mainGlobals "min" = some none)
    (a_law : PySem.W.nsIn K mainGlobals "law" = some (some (.ref f_law)))
    (l_law : K.lookup f_law = some ⟨oc_law, od_law, .func (PySem.W.fnOf "law" "law" (defArgs (top 29)) (defBody (top 29)) (defScope (top 29)) .none kV_law dc_law pm_law an_law cd_law ct_law), sl_law⟩)
    (c_law : PySem.W.codeIn K cd_law "law" = true)
    (k_law : PySem.W.keepIn K (.ref f_law) = true)
    (a__law_next : PySem.W.nsIn K mainGlobals "_law_next" = some (some (.ref f__law_next)))
    (l__law_next : K.lookup f__law_next = some ⟨oc__law_next, od__law_next, .func (PySem.W.fnOf "_law_next" "_law_next" (defArgs (top 11)) (defBody (top 11)) (defScope (top 11)) .none kV__law_next dc__law_next pm__law_next an__law_next cd__law_next ct__law_next), sl__law_next⟩)
    (c__law_next : PySem.W.codeIn K cd__law_next "_law_next" = true)
    (k__law_next : PySem.W.keepIn K (.ref f__law_next) = true)
    (a__law_code_ran : PySem.W.nsIn K mainGlobals "_law_code_ran" = some (some (.ref f__law_code_ran)))
    (l__law_code_ran : K.lookup f__law_code_ran = some ⟨oc__law_code_ran, od__law_code_ran, .func (PySem.W.fnOf "_law_code_ran" "_law_code_ran" (defArgs (top 22)) (defBody (top 22)) (defScope (top 22)) .none kV__law_code_ran dc__law_code_ran pm__law_code_ran an__law_code_ran cd__law_code_ran ct__law_code_ran), sl__law_code_ran⟩)
    (c__law_code_ran : PySem.W.codeIn K cd__law_code_ran "_law_code_ran" = true)
    (k__law_code_ran : PySem.W.keepIn K (.ref f__law_code_ran) = true)
    (a__law_machine : PySem.W.nsIn K mainGlobals "_law_machine" = some (some (.ref f__law_machine)))
    (l__law_machine : K.lookup f__law_machine = some ⟨oc__law_machine, od__law_machine, .func (PySem.W.fnOf "_law_machine" "_law_machine" (defArgs (top 18)) (defBody (top 18)) (defScope (top 18)) .none kV__law_machine dc__law_machine pm__law_machine an__law_machine cd__law_machine ct__law_machine), sl__law_machine⟩)
    (c__law_machine : PySem.W.codeIn K cd__law_machine "_law_machine" = true)
    (k__law_machine : PySem.W.keepIn K (.ref f__law_machine) = true)
    (a__law_code_word : PySem.W.nsIn K mainGlobals "_law_code_word" = some (some (.ref f__law_code_word)))
    (l__law_code_word : K.lookup f__law_code_word = some ⟨oc__law_code_word, od__law_code_word, .func (PySem.W.fnOf "_law_code_word" "_law_code_word" (defArgs (top 17)) (defBody (top 17)) (defScope (top 17)) .none kV__law_code_word dc__law_code_word pm__law_code_word an__law_code_word cd__law_code_word ct__law_code_word), sl__law_code_word⟩)
    (c__law_code_word : PySem.W.codeIn K cd__law_code_word "_law_code_word" = true)
    (k__law_code_word : PySem.W.keepIn K (.ref f__law_code_word) = true)
    (a__law_number : PySem.W.nsIn K mainGlobals "_law_number" = some (some (.ref f__law_number)))
    (l__law_number : K.lookup f__law_number = some ⟨oc__law_number, od__law_number, .func (PySem.W.fnOf "_law_number" "_law_number" (defArgs (top 16)) (defBody (top 16)) (defScope (top 16)) .none kV__law_number dc__law_number pm__law_number an__law_number cd__law_number ct__law_number), sl__law_number⟩)
    (c__law_number : PySem.W.codeIn K cd__law_number "_law_number" = true)
    (k__law_number : PySem.W.keepIn K (.ref f__law_number) = true)
    (a__law_signs : PySem.W.nsIn K mainGlobals "_law_signs" = some (some (.ref f__law_signs)))
    (l__law_signs : K.lookup f__law_signs = some ⟨oc__law_signs, od__law_signs, .func (PySem.W.fnOf "_law_signs" "_law_signs" (defArgs (top 14)) (defBody (top 14)) (defScope (top 14)) .none kV__law_signs dc__law_signs pm__law_signs an__law_signs cd__law_signs ct__law_signs), sl__law_signs⟩)
    (c__law_signs : PySem.W.codeIn K cd__law_signs "_law_signs" = true)
    (k__law_signs : PySem.W.keepIn K (.ref f__law_signs) = true)
    (a__law_instruction : PySem.W.nsIn K mainGlobals "_law_instruction" = some (some (.ref f__law_instruction)))
    (l__law_instruction : K.lookup f__law_instruction = some ⟨oc__law_instruction, od__law_instruction, .func (PySem.W.fnOf "_law_instruction" "_law_instruction" (defArgs (top 21)) (defBody (top 21)) (defScope (top 21)) .none kV__law_instruction dc__law_instruction pm__law_instruction an__law_instruction cd__law_instruction ct__law_instruction), sl__law_instruction⟩)
    (c__law_instruction : PySem.W.codeIn K cd__law_instruction "_law_instruction" = true)
    (k__law_instruction : PySem.W.keepIn K (.ref f__law_instruction) = true)
    (a__law_operate : PySem.W.nsIn K mainGlobals "_law_operate" = some (some (.ref f__law_operate)))
    (l__law_operate : K.lookup f__law_operate = some ⟨oc__law_operate, od__law_operate, .func (PySem.W.fnOf "_law_operate" "_law_operate" (defArgs (top 15)) (defBody (top 15)) (defScope (top 15)) .none kV__law_operate dc__law_operate pm__law_operate an__law_operate cd__law_operate ct__law_operate), sl__law_operate⟩)
    (c__law_operate : PySem.W.codeIn K cd__law_operate "_law_operate" = true)
    (k__law_operate : PySem.W.keepIn K (.ref f__law_operate) = true)
    (a__law_met : PySem.W.nsIn K mainGlobals "_law_met" = some (some (.ref f__law_met)))
    (l__law_met : K.lookup f__law_met = some ⟨oc__law_met, od__law_met, .func (PySem.W.fnOf "_law_met" "_law_met" (defArgs (top 19)) (defBody (top 19)) (defScope (top 19)) .none kV__law_met dc__law_met pm__law_met an__law_met cd__law_met ct__law_met), sl__law_met⟩)
    (c__law_met : PySem.W.codeIn K cd__law_met "_law_met" = true)
    (k__law_met : PySem.W.keepIn K (.ref f__law_met) = true)
    (a__law_told : PySem.W.nsIn K mainGlobals "_law_told" = some (some (.ref f__law_told)))
    (l__law_told : K.lookup f__law_told = some ⟨oc__law_told, od__law_told, .func (PySem.W.fnOf "_law_told" "_law_told" (defArgs (top 20)) (defBody (top 20)) (defScope (top 20)) .none kV__law_told dc__law_told pm__law_told an__law_told cd__law_told ct__law_told), sl__law_told⟩)
    (c__law_told : PySem.W.codeIn K cd__law_told "_law_told" = true)
    (k__law_told : PySem.W.keepIn K (.ref f__law_told) = true)
    (a__law_draws : PySem.W.nsIn K mainGlobals "_law_draws" = some (some (.ref f__law_draws)))
    (l__law_draws : K.lookup f__law_draws = some ⟨oc__law_draws, od__law_draws, .func (PySem.W.fnOf "_law_draws" "_law_draws" (defArgs (top 10)) (defBody (top 10)) (defScope (top 10)) .none kV__law_draws dc__law_draws pm__law_draws an__law_draws cd__law_draws ct__law_draws), sl__law_draws⟩)
    (c__law_draws : PySem.W.codeIn K cd__law_draws "_law_draws" = true)
    (k__law_draws : PySem.W.keepIn K (.ref f__law_draws) = true)
    (a__law_is_caller : PySem.W.nsIn K mainGlobals "_law_is_caller" = some (some (.ref f__law_is_caller)))
    (l__law_is_caller : K.lookup f__law_is_caller = some ⟨oc__law_is_caller, od__law_is_caller, .func (PySem.W.fnOf "_law_is_caller" "_law_is_caller" (defArgs (top 27)) (defBody (top 27)) (defScope (top 27)) .none kV__law_is_caller dc__law_is_caller pm__law_is_caller an__law_is_caller cd__law_is_caller ct__law_is_caller), sl__law_is_caller⟩)
    (c__law_is_caller : PySem.W.codeIn K cd__law_is_caller "_law_is_caller" = true)
    (k__law_is_caller : PySem.W.keepIn K (.ref f__law_is_caller) = true)
    (a__law_is_guest : PySem.W.nsIn K mainGlobals "_law_is_guest" = some (some (.ref f__law_is_guest)))
    (l__law_is_guest : K.lookup f__law_is_guest = some ⟨oc__law_is_guest, od__law_is_guest, .func (PySem.W.fnOf "_law_is_guest" "_law_is_guest" (defArgs (top 25)) (defBody (top 25)) (defScope (top 25)) .none kV__law_is_guest dc__law_is_guest pm__law_is_guest an__law_is_guest cd__law_is_guest ct__law_is_guest), sl__law_is_guest⟩)
    (c__law_is_guest : PySem.W.codeIn K cd__law_is_guest "_law_is_guest" = true)
    (k__law_is_guest : PySem.W.keepIn K (.ref f__law_is_guest) = true)
    (a__law_is_number : PySem.W.nsIn K mainGlobals "_law_is_number" = some (some (.ref f__law_is_number)))
    (l__law_is_number : K.lookup f__law_is_number = some ⟨oc__law_is_number, od__law_is_number, .func (PySem.W.fnOf "_law_is_number" "_law_is_number" (defArgs (top 23)) (defBody (top 23)) (defScope (top 23)) .none kV__law_is_number dc__law_is_number pm__law_is_number an__law_is_number cd__law_is_number ct__law_is_number), sl__law_is_number⟩)
    (c__law_is_number : PySem.W.codeIn K cd__law_is_number "_law_is_number" = true)
    (k__law_is_number : PySem.W.keepIn K (.ref f__law_is_number) = true)
    (a__law_is_instruction : PySem.W.nsIn K mainGlobals "_law_is_instruction" = some (some (.ref f__law_is_instruction)))
    (l__law_is_instruction : K.lookup f__law_is_instruction = some ⟨oc__law_is_instruction, od__law_is_instruction, .func (PySem.W.fnOf "_law_is_instruction" "_law_is_instruction" (defArgs (top 24)) (defBody (top 24)) (defScope (top 24)) .none kV__law_is_instruction dc__law_is_instruction pm__law_is_instruction an__law_is_instruction cd__law_is_instruction ct__law_is_instruction), sl__law_is_instruction⟩)
    (c__law_is_instruction : PySem.W.codeIn K cd__law_is_instruction "_law_is_instruction" = true)
    (k__law_is_instruction : PySem.W.keepIn K (.ref f__law_is_instruction) = true)
    (a__law_deeds : PySem.W.nsIn K mainGlobals "_law_deeds" = some (some (.ref f__law_deeds)))
    (l__law_deeds : K.lookup f__law_deeds = some ⟨oc__law_deeds, od__law_deeds, .func (PySem.W.fnOf "_law_deeds" "_law_deeds" (defArgs (top 26)) (defBody (top 26)) (defScope (top 26)) .none kV__law_deeds dc__law_deeds pm__law_deeds an__law_deeds cd__law_deeds ct__law_deeds), sl__law_deeds⟩)
    (c__law_deeds : PySem.W.codeIn K cd__law_deeds "_law_deeds" = true)
    (k__law_deeds : PySem.W.keepIn K (.ref f__law_deeds) = true)
    (a__law_is_listener : PySem.W.nsIn K mainGlobals "_law_is_listener" = some (some (.ref f__law_is_listener)))
    (l__law_is_listener : K.lookup f__law_is_listener = some ⟨oc__law_is_listener, od__law_is_listener, .func (PySem.W.fnOf "_law_is_listener" "_law_is_listener" (defArgs (top 28)) (defBody (top 28)) (defScope (top 28)) .none kV__law_is_listener dc__law_is_listener pm__law_is_listener an__law_is_listener cd__law_is_listener ct__law_is_listener), sl__law_is_listener⟩)
    (c__law_is_listener : PySem.W.codeIn K cd__law_is_listener "_law_is_listener" = true)
    (k__law_is_listener : PySem.W.keepIn K (.ref f__law_is_listener) = true)
    (a__law_word : PySem.W.nsIn K mainGlobals "_law_word" = some (some (.ref f__law_word)))
    (l__law_word : K.lookup f__law_word = some ⟨oc__law_word, od__law_word, .func (PySem.W.fnOf "_law_word" "_law_word" (defArgs (top 13)) (defBody (top 13)) (defScope (top 13)) .none kV__law_word dc__law_word pm__law_word an__law_word cd__law_word ct__law_word), sl__law_word⟩)
    (c__law_word : PySem.W.codeIn K cd__law_word "_law_word" = true)
    (k__law_word : PySem.W.keepIn K (.ref f__law_word) = true)
    (a__law_pick : PySem.W.nsIn K mainGlobals "_law_pick" = some (some (.ref f__law_pick)))
    (l__law_pick : K.lookup f__law_pick = some ⟨oc__law_pick, od__law_pick, .func (PySem.W.fnOf "_law_pick" "_law_pick" (defArgs (top 12)) (defBody (top 12)) (defScope (top 12)) .none kV__law_pick dc__law_pick pm__law_pick an__law_pick cd__law_pick ct__law_pick), sl__law_pick⟩)
    (c__law_pick : PySem.W.codeIn K cd__law_pick "_law_pick" = true)
    (k__law_pick : PySem.W.keepIn K (.ref f__law_pick) = true)
    (a_idle : PySem.W.nsIn K mainGlobals "idle" = some (some (.ref f_idle)))
    (l_idle : K.lookup f_idle = some ⟨oc_idle, od_idle, .func (PySem.W.fnOf "idle" "idle" (defArgs (top 5)) (defBody (top 5)) (defScope (top 5)) .none kV_idle dc_idle pm_idle an_idle cd_idle ct_idle), sl_idle⟩)
    (c_idle : PySem.W.codeIn K cd_idle "idle" = true)
    (k_idle : PySem.W.keepIn K (.ref f_idle) = true)
    (a_caller : PySem.W.nsIn K mainGlobals "caller" = some (some (.ref f_caller)))
    (l_caller : K.lookup f_caller = some ⟨oc_caller, od_caller, .func (PySem.W.fnOf "caller" "caller" (defArgs (top 7)) (defBody (top 7)) (defScope (top 7)) .none kV_caller dc_caller pm_caller an_caller cd_caller ct_caller), sl_caller⟩)
    (c_caller : PySem.W.codeIn K cd_caller "caller" = true)
    (k_caller : PySem.W.keepIn K (.ref f_caller) = true)
    (a_data_base : PySem.W.nsIn K mainGlobals "data_base" = some (some (.ref f_data_base)))
    (l_data_base : K.lookup f_data_base = some ⟨oc_data_base, od_data_base, .func (PySem.W.fnOf "data_base" "data_base" (defArgs (top 6)) (defBody (top 6)) (defScope (top 6)) .none kV_data_base dc_data_base pm_data_base an_data_base cd_data_base ct_data_base), sl_data_base⟩)
    (c_data_base : PySem.W.codeIn K cd_data_base "data_base" = true)
    (k_data_base : PySem.W.keepIn K (.ref f_data_base) = true)
    (a_listener : PySem.W.nsIn K mainGlobals "listener" = some (some (.ref f_listener)))
    (l_listener : K.lookup f_listener = some ⟨oc_listener, od_listener, .func (PySem.W.fnOf "listener" "listener" (defArgs (top 8)) (defBody (top 8)) (defScope (top 8)) .none kV_listener dc_listener pm_listener an_listener cd_listener ct_listener), sl_listener⟩)
    (c_listener : PySem.W.codeIn K cd_listener "listener" = true)
    (k_listener : PySem.W.keepIn K (.ref f_listener) = true) :
    ∃ fd : FuncData, (∀ (s : Shared) (v : Value), BindsTo s fd ⟨[v], []⟩ [("script", v)]) ∧ ∀ base : Heap, K.In base → base.Ns mainGlobals mg → FnOk l.prog w K mg base CX0 6 fa fd ["script"] (spLaw K) := by
  have e := hfa.symm.trans (PySem.W.mg_of X G a_law)
  cases e
  have F_law := fun_mk (st := (top 29)) l_law c_law k_law
  have b_law := F_law.binds (ps := ["script"]) fun _ _ _ _ _ _ us hl => match us, hl with | [_], _ => rfl
  have F__law_next := fun_mk (st := (top 11)) l__law_next c__law_next k__law_next
  have b__law_next := F__law_next.binds (ps := ["w", "many"]) fun _ _ _ _ _ _ us hl => match us, hl with | [_, _], _ => rfl
  have D__law_next : DefAt K mg "_law_next" "_law_next" (top 11) ["w", "many"] := ⟨_, _, F__law_next, b__law_next, PySem.W.mg_of X G a__law_next⟩
  have F__law_code_ran := fun_mk (st := (top 22)) l__law_code_ran c__law_code_ran k__law_code_ran
  have b__law_code_ran := F__law_code_ran.binds (ps := ["guest", "answers", "steps"]) fun _ _ _ _ _ _ us hl => match us, hl with | [_, _, _], _ => rfl
  have D__law_code_ran : DefAt K mg "_law_code_ran" "_law_code_ran" (top 22) ["guest", "answers", "steps"] := ⟨_, _, F__law_code_ran, b__law_code_ran, PySem.W.mg_of X G a__law_code_ran⟩
  have F__law_machine := fun_mk (st := (top 18)) l__law_machine c__law_machine k__law_machine
  have b__law_machine := F__law_machine.binds (ps := ["guest", "answers"]) fun _ _ _ _ _ _ us hl => match us, hl with | [_, _], _ => rfl
  have D__law_machine : DefAt K mg "_law_machine" "_law_machine" (top 18) ["guest", "answers"] := ⟨_, _, F__law_machine, b__law_machine, PySem.W.mg_of X G a__law_machine⟩
  have F__law_code_word := fun_mk (st := (top 17)) l__law_code_word c__law_code_word k__law_code_word
  have b__law_code_word := F__law_code_word.binds (ps := ["row"]) fun _ _ _ _ _ _ us hl => match us, hl with | [_], _ => rfl
  have D__law_code_word : DefAt K mg "_law_code_word" "_law_code_word" (top 17) ["row"] := ⟨_, _, F__law_code_word, b__law_code_word, PySem.W.mg_of X G a__law_code_word⟩
  have F__law_number := fun_mk (st := (top 16)) l__law_number c__law_number k__law_number
  have b__law_number := F__law_number.binds (ps := ["kind"]) fun _ _ _ _ _ _ us hl => match us, hl with | [_], _ => rfl
  have D__law_number : DefAt K mg "_law_number" "_law_number" (top 16) ["kind"] := ⟨_, _, F__law_number, b__law_number, PySem.W.mg_of X G a__law_number⟩
  have F__law_signs := fun_mk (st := (top 14)) l__law_signs c__law_signs k__law_signs
  have b__law_signs := F__law_signs.binds (ps := []) fun _ _ _ _ _ _ us hl => match us, hl with | [], _ => rfl
  have D__law_signs : DefAt K mg "_law_signs" "_law_signs" (top 14) [] := ⟨_, _, F__law_signs, b__law_signs, PySem.W.mg_of X G a__law_signs⟩
  have F__law_instruction := fun_mk (st := (top 21)) l__law_instruction c__law_instruction k__law_instruction
  have b__law_instruction := F__law_instruction.binds (ps := ["m", "row"]) fun _ _ _ _ _ _ us hl => match us, hl with | [_, _], _ => rfl
  have D__law_instruction : DefAt K mg "_law_instruction" "_law_instruction" (top 21) ["m", "row"] := ⟨_, _, F__law_instruction, b__law_instruction, PySem.W.mg_of X G a__law_instruction⟩
  have F__law_operate := fun_mk (st := (top 15)) l__law_operate c__law_operate k__law_operate
  have b__law_operate := F__law_operate.binds (ps := ["sign", "a", "b"]) fun _ _ _ _ _ _ us hl => match us, hl with | [_, _, _], _ => rfl
  have D__law_operate : DefAt K mg "_law_operate" "_law_operate" (top 15) ["sign", "a", "b"] := ⟨_, _, F__law_operate, b__law_operate, PySem.W.mg_of X G a__law_operate⟩
  have F__law_met := fun_mk (st := (top 19)) l__law_met c__law_met k__law_met
  have b__law_met := F__law_met.binds (ps := ["m", "row"]) fun _ _ _ _ _ _ us hl => match us, hl with | [_, _], _ => rfl
  have D__law_met : DefAt K mg "_law_met" "_law_met" (top 19) ["m", "row"] := ⟨_, _, F__law_met, b__law_met, PySem.W.mg_of X G a__law_met⟩
  have F__law_told := fun_mk (st := (top 20)) l__law_told c__law_told k__law_told
  have b__law_told := F__law_told.binds (ps := ["m", "row"]) fun _ _ _ _ _ _ us hl => match us, hl with | [_, _], _ => rfl
  have D__law_told : DefAt K mg "_law_told" "_law_told" (top 20) ["m", "row"] := ⟨_, _, F__law_told, b__law_told, PySem.W.mg_of X G a__law_told⟩
  have F__law_draws := fun_mk (st := (top 10)) l__law_draws c__law_draws k__law_draws
  have b__law_draws := F__law_draws.binds (ps := ["script", "many"]) fun _ _ _ _ _ _ us hl => match us, hl with | [_, _], _ => rfl
  have D__law_draws : DefAt K mg "_law_draws" "_law_draws" (top 10) ["script", "many"] := ⟨_, _, F__law_draws, b__law_draws, PySem.W.mg_of X G a__law_draws⟩
  have F__law_is_caller := fun_mk (st := (top 27)) l__law_is_caller c__law_is_caller k__law_is_caller
  have b__law_is_caller := F__law_is_caller.binds (ps := ["guest", "many", "stride"]) fun _ _ _ _ _ _ us hl => match us, hl with | [_, _, _], _ => rfl
  have D__law_is_caller : DefAt K mg "_law_is_caller" "_law_is_caller" (top 27) ["guest", "many", "stride"] := ⟨_, _, F__law_is_caller, b__law_is_caller, PySem.W.mg_of X G a__law_is_caller⟩
  have F__law_is_guest := fun_mk (st := (top 25)) l__law_is_guest c__law_is_guest k__law_is_guest
  have b__law_is_guest := F__law_is_guest.binds (ps := ["thing"]) fun _ _ _ _ _ _ us hl => match us, hl with | [_], _ => rfl
  have D__law_is_guest : DefAt K mg "_law_is_guest" "_law_is_guest" (top 25) ["thing"] := ⟨_, _, F__law_is_guest, b__law_is_guest, PySem.W.mg_of X G a__law_is_guest⟩
  have F__law_is_number := fun_mk (st := (top 23)) l__law_is_number c__law_is_number k__law_is_number
  have b__law_is_number := F__law_is_number.binds (ps := ["thing", "most"]) fun _ _ _ _ _ _ us hl => match us, hl with | [_, _], _ => rfl
  have D__law_is_number : DefAt K mg "_law_is_number" "_law_is_number" (top 23) ["thing", "most"] := ⟨_, _, F__law_is_number, b__law_is_number, PySem.W.mg_of X G a__law_is_number⟩
  have F__law_is_instruction := fun_mk (st := (top 24)) l__law_is_instruction c__law_is_instruction k__law_is_instruction
  have b__law_is_instruction := F__law_is_instruction.binds (ps := ["row"]) fun _ _ _ _ _ _ us hl => match us, hl with | [_], _ => rfl
  have D__law_is_instruction : DefAt K mg "_law_is_instruction" "_law_is_instruction" (top 24) ["row"] := ⟨_, _, F__law_is_instruction, b__law_is_instruction, PySem.W.mg_of X G a__law_is_instruction⟩
  have F__law_deeds := fun_mk (st := (top 26)) l__law_deeds c__law_deeds k__law_deeds
  have b__law_deeds := F__law_deeds.binds (ps := ["guest", "m"]) fun _ _ _ _ _ _ us hl => match us, hl with | [_, _], _ => rfl
  have D__law_deeds : DefAt K mg "_law_deeds" "_law_deeds" (top 26) ["guest", "m"] := ⟨_, _, F__law_deeds, b__law_deeds, PySem.W.mg_of X G a__law_deeds⟩
  have F__law_is_listener := fun_mk (st := (top 28)) l__law_is_listener c__law_is_listener k__law_is_listener
  have b__law_is_listener := F__law_is_listener.binds (ps := ["w", "guest", "at", "many"]) fun _ _ _ _ _ _ us hl => match us, hl with | [_, _, _, _], _ => rfl
  have D__law_is_listener : DefAt K mg "_law_is_listener" "_law_is_listener" (top 28) ["w", "guest", "at", "many"] := ⟨_, _, F__law_is_listener, b__law_is_listener, PySem.W.mg_of X G a__law_is_listener⟩
  have F__law_word := fun_mk (st := (top 13)) l__law_word c__law_word k__law_word
  have b__law_word := F__law_word.binds (ps := ["w"]) fun _ _ _ _ _ _ us hl => match us, hl with | [_], _ => rfl
  have D__law_word : DefAt K mg "_law_word" "_law_word" (top 13) ["w"] := ⟨_, _, F__law_word, b__law_word, PySem.W.mg_of X G a__law_word⟩
  have F__law_pick := fun_mk (st := (top 12)) l__law_pick c__law_pick k__law_pick
  have b__law_pick := F__law_pick.binds (ps := ["w", "rows"]) fun _ _ _ _ _ _ us hl => match us, hl with | [_, _], _ => rfl
  have D__law_pick : DefAt K mg "_law_pick" "_law_pick" (top 12) ["w", "rows"] := ⟨_, _, F__law_pick, b__law_pick, PySem.W.mg_of X G a__law_pick⟩
  have F_idle := fun_mk (st := (top 5)) l_idle c_idle k_idle
  have b_idle := F_idle.binds (ps := []) fun _ _ _ _ _ _ us hl => match us, hl with | [], _ => rfl
  have D_idle : DefAt K mg "idle" "idle" (top 5) [] := ⟨_, _, F_idle, b_idle, PySem.W.mg_of X G a_idle⟩
  have F_caller := fun_mk (st := (top 7)) l_caller c_caller k_caller
  have b_caller := F_caller.binds (ps := ["many", "stride"]) fun _ _ _ _ _ _ us hl => match us, hl with | [_, _], _ => rfl
  have D_caller : DefAt K mg "caller" "caller" (top 7) ["many", "stride"] := ⟨_, _, F_caller, b_caller, PySem.W.mg_of X G a_caller⟩
  have F_data_base := fun_mk (st := (top 6)) l_data_base c_data_base k_data_base
  have b_data_base := F_data_base.binds (ps := ["many"]) fun _ _ _ _ _ _ us hl => match us, hl with | [_], _ => rfl
  have D_data_base : DefAt K mg "data_base" "data_base" (top 6) ["many"] := ⟨_, _, F_data_base, b_data_base, PySem.W.mg_of X G a_data_base⟩
  have F_listener := fun_mk (st := (top 8)) l_listener c_listener k_listener
  have b_listener := F_listener.binds (ps := ["at", "many"]) fun _ _ _ _ _ _ us hl => match us, hl with | [_, _], _ => rfl
  have D_listener : DefAt K mg "listener" "listener" (top 8) ["at", "many"] := ⟨_, _, F_listener, b_listener, PySem.W.mg_of X G a_listener⟩
  have Z : Zs K mg := ⟨PySem.W.mg_none_of X G z_len, PySem.W.mg_none_of X G z_int, PySem.W.mg_none_of X G z_list, PySem.W.mg_none_of X G z_range, PySem.W.mg_none_of X G z_abs, PySem.W.mg_none_of X G z_bool, PySem.W.mg_none_of X G z_isinstance, PySem.W.mg_none_of X G z_str, PySem.W.mg_none_of X G z_tuple, ⟨.int 16, _, PySem.W.mg_of X G v_PAGE, ⟨_, rfl⟩, fun _ _ => VR_int.mpr rfl⟩, ⟨.int 2, _, PySem.W.mg_of X G v_LOADED, ⟨_, rfl⟩, fun _ _ => VR_int.mpr rfl⟩, ⟨.int 3, _, PySem.W.mg_of X G v_FIRST, ⟨_, rfl⟩, fun _ _ => VR_int.mpr rfl⟩, ⟨.int 4, _, PySem.W.mg_of X G v_SECOND, ⟨_, rfl⟩, fun _ _ => VR_int.mpr rfl⟩, PySem.W.mg_none_of X G z_min⟩
  refine ⟨PySem.W.fnOf "law" "law" (defArgs (top 29)) (defBody (top 29)) (defScope (top 29)) .none kV_law dc_law pm_law an_law cd_law ct_law, fun s v => .of_eq rfl, fun base _ _ => ?_⟩
  have h__law_next := ok__law_next (P := l.prog) (w := w) (base := base) Z D__law_next
  have h__law_number := ok__law_number (P := l.prog) (w := w) (base := base) Z D__law_number
  have h__law_signs := ok__law_signs (P := l.prog) (w := w) (base := base) Z D__law_signs
  have h__law_code_word := ok__law_code_word (P := l.prog) (w := w) (base := base) Z D__law_code_word h__law_number h__law_signs
  have h__law_machine := ok__law_machine (P := l.prog) (w := w) (base := base) Z D__law_machine h__law_code_word
  have h__law_operate := ok__law_operate (P := l.prog) (w := w) (base := base) Z D__law_operate
  have h__law_met := ok__law_met (P := l.prog) (w := w) (base := base) Z D__law_met
  have h__law_told := ok__law_told (P := l.prog) (w := w) (base := base) Z D__law_told
  have h__law_instruction := ok__law_instruction (P := l.prog) (w := w) (base := base) Z D__law_instruction h__law_operate h__law_met h__law_told
  have h__law_code_ran := ok__law_code_ran (P := l.prog) (w := w) (base := base) Z D__law_code_ran h__law_machine h__law_instruction
  have h__law_draws := ok__law_draws (P := l.prog) (w := w) (base := base) Z D__law_draws
  have h__law_is_number := ok__law_is_number (P := l.prog) (w := w) (base := base) Z D__law_is_number
  have h__law_is_instruction := ok__law_is_instruction (P := l.prog) (w := w) (base := base) Z D__law_is_instruction h__law_signs h__law_is_number
  have h__law_is_guest := ok__law_is_guest (P := l.prog) (w := w) (base := base) Z D__law_is_guest h__law_is_number h__law_is_instruction
  have h__law_deeds := ok__law_deeds (P := l.prog) (w := w) (base := base) Z D__law_deeds
  have h__law_is_caller := ok__law_is_caller (P := l.prog) (w := w) (base := base) Z D__law_is_caller h__law_code_ran h__law_is_guest h__law_deeds
  have h__law_pick := ok__law_pick (P := l.prog) (w := w) (base := base) Z D__law_pick h__law_next
  have h__law_word := ok__law_word (P := l.prog) (w := w) (base := base) Z D__law_word h__law_next h__law_pick
  have h__law_is_listener := ok__law_is_listener (P := l.prog) (w := w) (base := base) Z D__law_is_listener h__law_code_ran h__law_word h__law_is_guest h__law_deeds
  have h_idle := ok_idle (P := l.prog) (w := w) (base := base) Z D_idle
  have h_data_base := ok_data_base (P := l.prog) (w := w) (base := base) Z D_data_base
  have h_caller := ok_caller (P := l.prog) (w := w) (base := base) Z D_caller h_data_base
  have h_listener := ok_listener (P := l.prog) (w := w) (base := base) Z D_listener h_data_base
  exact law_fn (law_ok (P := l.prog) (w := w) (base := base) Z F_law h__law_next h__law_code_ran h__law_draws h__law_is_caller h__law_is_listener h_idle h__law_is_guest h_caller h_listener) law_true
theorem walk {l : PySem.W.OpenLaw} {q : Program} {loose : List Str} {XP : (Str → Option Value) → Heap → Prop} {YP : World → Heap → Prop} {d : DefRec} {K : Params → PySem.W.Frag} (hn : l.most = some 63) (hdf : d.params.defaults = [])
    (hY : ∀ (w : World) (h : Heap), YP w h → (K w.params).In h)
    (F : ∀ (w : World) (mg : Str → Option Value) (fa : Addr) (h : Heap), (K w.params).In h → h.Ns mainGlobals mg → mg d.name = some (.ref fa) →
      ∃ fd : FuncData, (∀ (s : Shared) (u : Value), BindsTo s fd ⟨[u], []⟩ [("script", u)]) ∧ ∀ base : Heap, (K w.params).In base → base.Ns mainGlobals mg → FnOk l.prog w (K w.params) mg base CX0 6 fa fd ["script"] (spLaw (K w.params))) :
    PySem.W.WalkO q loose XP YP l.row.toRowW d [] (fun f vs => PySem.call f vs) :=
  L2.walk_of (n := 63) (k := 6) (x := "script") (CX := fun _ => CX0) (sp := fun w => spLaw (K w.params)) hn (by decide) hdf ⟨rfl, by decide, by decide⟩ hY F (fun _ H a ns hl ho hS => ⟨a, ns, rfl, ho, hS, hl, fun _ => rfl⟩) fun _ _ _ _ _ z => z
end Pf
open PySem PySem.W PyProof.Rows
set_option maxRecDepth 100000 in
set_option maxHeartbeats 0 in
theorem PySem.Challenge.cw_nowhisper_k77_callers_and_listeners_holds : PySem.Challenge.rw_nowhisper_k77_callers_and_listeners.Holds := by
  refine Pf.hd ?_
  w_on
  k_fill
  refine Pf.walk (l := PySem.Challenge.rw_nowhisper_k77_callers_and_listeners) rfl rfl (fun w h Y => PySem.W.kIn_of Y) ?F
  case F =>
    intro w mg fa h KX G hmg
    refine' Pf.all_mk KX G hmg ?z_len ?z_int ?z_list ?z_range ?z_abs ?z_bool ?z_isinstance ?z_str ?z_tuple ?v_PAGE ?v_LOADED ?v_FIRST ?v_SECOND ?z_min ?a_law ?l_law ?c_law ?k_law ?a__law_next ?l__law_next ?c__law_next ?k__law_next ?a__law_code_ran ?l__law_code_ran ?c__law_code_ran ?k__law_code_ran ?a__law_machine ?l__law_machine ?c__law_machine ?k__law_machine ?a__law_code_word ?l__law_code_word ?c__law_code_word ?k__law_code_word ?a__law_number ?l__law_number ?c__law_number ?k__law_number ?a__law_signs ?l__law_signs ?c__law_signs ?k__law_signs ?a__law_instruction ?l__law_instruction ?c__law_instruction ?k__law_instruction ?a__law_operate ?l__law_operate ?c__law_operate ?k__law_operate ?a__law_met ?l__law_met ?c__law_met ?k__law_met ?a__law_told ?l__law_told ?c__law_told ?k__law_told ?a__law_draws ?l__law_draws ?c__law_draws ?k__law_draws ?a__law_is_caller ?l__law_is_caller ?c__law_is_caller ?k__law_is_caller ?a__law_is_guest ?l__law_is_guest ?c__law_is_guest ?k__law_is_guest ?a__law_is_number ?l__law_is_number ?c__law_is_number ?k__law_is_number ?a__law_is_instruction ?l__law_is_instruction ?c__law_is_instruction ?k__law_is_instruction ?a__law_deeds ?l__law_deeds ?c__law_deeds ?k__law_deeds ?a__law_is_listener ?l__law_is_listener ?c__law_is_listener ?k__law_is_listener ?a__law_word ?l__law_word ?c__law_word ?k__law_word ?a__law_pick ?l__law_pick ?c__law_pick ?k__law_pick ?a_idle ?l_idle ?c_idle ?k_idle ?a_caller ?l_caller ?c_caller ?k_caller ?a_data_base ?l_data_base ?c_data_base ?k_data_base ?a_listener ?l_listener ?c_listener ?k_listener
    (case z_len => k_is)
    (case z_int => k_is)
    (case z_list => k_is)
    (case z_range => k_is)
    (case z_abs => k_is)
    (case z_bool => k_is)
    (case z_isinstance => k_is)
    (case z_str => k_is)
    (case z_tuple => k_is)
    (case v_PAGE => k_is)
    (case v_LOADED => k_is)
    (case v_FIRST => k_is)
    (case v_SECOND => k_is)
    (case z_min => k_is)
    (case a_law => k_is)
    (case l_law => k_is)
    (case c_law => k_is)
    (case k_law => k_is)
    (case a__law_next => k_is)
    (case l__law_next => k_is)
    (case c__law_next => k_is)
    (case k__law_next => k_is)
    (case a__law_code_ran => k_is)
    (case l__law_code_ran => k_is)
    (case c__law_code_ran => k_is)
    (case k__law_code_ran => k_is)
    (case a__law_machine => k_is)
    (case l__law_machine => k_is)
    (case c__law_machine => k_is)
    (case k__law_machine => k_is)
    (case a__law_code_word => k_is)
    (case l__law_code_word => k_is)
    (case c__law_code_word => k_is)
    (case k__law_code_word => k_is)
    (case a__law_number => k_is)
    (case l__law_number => k_is)
    (case c__law_number => k_is)
    (case k__law_number => k_is)
    (case a__law_signs => k_is)
    (case l__law_signs => k_is)
    (case c__law_signs => k_is)
    (case k__law_signs => k_is)
    (case a__law_instruction => k_is)
    (case l__law_instruction => k_is)
    (case c__law_instruction => k_is)
    (case k__law_instruction => k_is)
    (case a__law_operate => k_is)
    (case l__law_operate => k_is)
    (case c__law_operate => k_is)
    (case k__law_operate => k_is)
    (case a__law_met => k_is)
    (case l__law_met => k_is)
    (case c__law_met => k_is)
    (case k__law_met => k_is)
    (case a__law_told => k_is)
    (case l__law_told => k_is)
    (case c__law_told => k_is)
    (case k__law_told => k_is)
    (case a__law_draws => k_is)
    (case l__law_draws => k_is)
    (case c__law_draws => k_is)
    (case k__law_draws => k_is)
    (case a__law_is_caller => k_is)
    (case l__law_is_caller => k_is)
    (case c__law_is_caller => k_is)
    (case k__law_is_caller => k_is)
    (case a__law_is_guest => k_is)
    (case l__law_is_guest => k_is)
    (case c__law_is_guest => k_is)
    (case k__law_is_guest => k_is)
    (case a__law_is_number => k_is)
    (case l__law_is_number => k_is)
    (case c__law_is_number => k_is)
    (case k__law_is_number => k_is)
    (case a__law_is_instruction => k_is)
    (case l__law_is_instruction => k_is)
    (case c__law_is_instruction => k_is)
    (case k__law_is_instruction => k_is)
    (case a__law_deeds => k_is)
    (case l__law_deeds => k_is)
    (case c__law_deeds => k_is)
    (case k__law_deeds => k_is)
    (case a__law_is_listener => k_is)
    (case l__law_is_listener => k_is)
    (case c__law_is_listener => k_is)
    (case k__law_is_listener => k_is)
    (case a__law_word => k_is)
    (case l__law_word => k_is)
    (case c__law_word => k_is)
    (case k__law_word => k_is)
    (case a__law_pick => k_is)
    (case l__law_pick => k_is)
    (case c__law_pick => k_is)
    (case k__law_pick => k_is)
    (case a_idle => k_is)
    (case l_idle => k_is)
    (case c_idle => k_is)
    (case k_idle => k_is)
    (case a_caller => k_is)
    (case l_caller => k_is)
    (case c_caller => k_is)
    (case k_caller => k_is)
    (case a_data_base => k_is)
    (case l_data_base => k_is)
    (case c_data_base => k_is)
    (case k_data_base => k_is)
    (case a_listener => k_is)
    (case l_listener => k_is)
    (case c_listener => k_is)
    (case k_listener => k_is)

