import PyProof.Rows.All
import Wide.All
import OpenK.AllK
import Wide.FinOn
import HandS.ForMost
import HandS.ForExc
import HandS.Deep
import HandS.Flow
import HandS.IsInst
import HandS.Style
import HandS.TupAny
import HandS.TupLe
import HandS.Wide
import HandS.More
import HandS.Walk
import HandS.SortInts
import HandS.SetFor
import HandS.NoneIn
import HandS.Small
import HandS.CallSlots
import HandS.Conv
import HandS.Strs
import KE.KTupSum
import HandS.TupMul
import HandS.ExcInit
import HandS.ExcField
import HandS.ExcIs
import HandS.TryOnly
import HandS.Zip
import HandS.Sort
import KE.DatumOrd
import PySem.Challenge.RW_nowhisper_k60_plans_that_can_be_kept
import KE.KBits
import KE.OsRunLaw
set_option Elab.async false
set_option linter.all false
set_option maxRecDepth 100000
local macro_rules | `(tactic| k_head) => `(tactic| k_headL)
namespace Pf
set_option maxHeartbeats 0 in
open_top hd for PySem.Challenge.rw_nowhisper_k60_plans_that_can_be_kept
end Pf
namespace Mir
open PySem L2

/-! ### data, objects, results -/
inductive D where
  | non | bl (b : Bool) | int (i : Int) | str (x : Str) | tup (xs : List D) | fl (xs : List D) | ref (n : Nat) | opq (v : V)

inductive O where
  | lst (xs : List D)
  | dk (kvs : List (Key × D))
  | dt (kvs : List (List Key × D))
  | ins (c : Str) (fs : List (Str × D))

inductive R (α : Type) where
  | ok (a : α) (S : List O)
  | exc (c : Str) (fs : List (Str × D)) (S : List O)
  | bad

abbrev GE := List (Option D)
abbrev ST := List O
/-- a computation -/
abbrev C (α : Type) := ST → R α
def R.bind {α β : Type} (r : R α) (f : α → ST → R β) : R β := match r with
  | .ok a S => f a S
  | .exc c fs S => .exc c fs S
  | .bad => .bad
@[simp] theorem R.bind_ok {α β : Type} (a : α) (S : ST) (f : α → ST → R β) : (R.ok a S).bind f = f a S := rfl
@[simp] theorem R.bind_exc {α β : Type} (c : Str) (fs) (S : ST) (f : α → ST → R β) : (R.exc c fs S : R α).bind f = .exc c fs S := rfl
@[simp] theorem R.bind_bad {α β : Type} (f : α → ST → R β) : (R.bad : R α).bind f = .bad := rfl

/-- a statement's result -/
inductive RS where
  | nx (G : GE) (S : ST)
  | rt (d : D) (S : ST)
  | bk (G : GE) (S : ST)
  | ct (G : GE) (S : ST)
  | exc (c : Str) (fs : List (Str × D)) (G : GE) (S : ST)
  | bad

abbrev ME := GE → ST → R D
abbrev MA := GE → ST → R (List D)
abbrev MT := GE → ST → R Bool
abbrev MS := GE → ST → RS
abbrev Fn := List D → ST → R D

/-! ### the relations -/
section
variable (K : PySem.W.Frag)
/-- a list that is read, never written -/
def FrL (H : Hp) (a : Addr) (xs : List V) : Prop :=
  (∃ o, H a = some (.frz o (.lst xs))) ∨
    ∃ (o : Obj) (its : Array Value) (n : Nat), K.lookup a = some o ∧ o.cls = .type "list" ∧ o.dict = none ∧ o.data = .seq its n ∧ its.size ≤ sizeLine ∧ Vals xs its.toList
mutual
def VR (ρ : List Addr) (H : Hp) : D → V → Prop
  | .non, v => v = .non
  | .bl b, v => v = .bl b
  | .int i, v => v = .int i
  | .str x, v => v = .str x
  | .tup ds, v => ∃ a vs, v = .ref a ∧ SqT K H a vs ∧ VRs ρ H ds vs
  | .fl ds, v => ∃ a vs, v = .ref a ∧ FrL K H a vs ∧ VRs ρ H ds vs
  | .ref n, v => ∃ a, ρ[n]? = some a ∧ v = .ref a
  | .opq u, v => v = u
def VRs (ρ : List Addr) (H : Hp) : List D → List V → Prop
  | [], vs => vs = []
  | d :: ds, vs => ∃ v r, vs = v :: r ∧ VR ρ H d v ∧ VRs ρ H ds r
end
end

/-- what never changes stands as before -/
structure Keep (H H' : Hp) : Prop where
  tup : ∀ a xs, H a = some (.tup xs) → H' a = some (.tup xs)
  frz : ∀ a o u, H a = some (.frz o u) → H' a = some (.frz o u)
theorem Keep.refl (H : Hp) : Keep H H := ⟨fun _ _ h => h, fun _ _ _ h => h⟩
theorem Keep.trans {H H1 H2 : Hp} (a : Keep H H1) (b : Keep H1 H2) : Keep H H2 := ⟨fun x y h => b.tup x y (a.tup x y h), fun x y z h => b.frz x y z (a.frz x y z h)⟩
structure Ext (ρ : List Addr) (H : Hp) (ρ' : List Addr) (H' : Hp) : Prop where
  pre : ρ <+: ρ'
  kp : Keep H H'
theorem Ext.refl (ρ : List Addr) (H : Hp) : Ext ρ H ρ H := ⟨List.prefix_refl _, .refl H⟩
theorem Ext.trans {ρ ρ1 ρ2 : List Addr} {H H1 H2 : Hp} (a : Ext ρ H ρ1 H1) (b : Ext ρ1 H1 ρ2 H2) : Ext ρ H ρ2 H2 := ⟨a.pre.trans b.pre, a.kp.trans b.kp⟩
theorem Ext.get {ρ ρ' : List Addr} {H H' : Hp} (e : Ext ρ H ρ' H') {n : Nat} {a : Addr} (h : ρ[n]? = some a) : ρ'[n]? = some a := by
  obtain ⟨t, rfl⟩ := e.pre
  have : n < ρ.length := (List.getElem?_eq_some_iff.mp h).1
  rw [List.getElem?_append_left this]; exact h
theorem Keep.sqt {K : PySem.W.Frag} {H H' : Hp} (k : Keep H H') {a : Addr} {xs : List V} (h : SqT K H a xs) : SqT K H' a xs := by
  rcases h with (h | ⟨o, h⟩) | h
  · exact .inl (.inl (k.tup _ _ h))
  · exact .inl (.inr ⟨o, k.frz _ _ _ h⟩)
  · exact .inr h
theorem Keep.frl {K : PySem.W.Frag} {H H' : Hp} (k : Keep H H') {a : Addr} {xs : List V} (h : FrL K H a xs) : FrL K H' a xs := by
  rcases h with ⟨o, h⟩ | h
  · exact .inl ⟨o, k.frz _ _ _ h⟩
  · exact .inr h
theorem FrL.sql {K : PySem.W.Frag} {H : Hp} {a : Addr} {xs : List V} (h : FrL K H a xs) : SqL K H a xs := by
  rcases h with ⟨o, h⟩ | h
  · exact .inl (.inr ⟨o, h⟩)
  · exact .inr h

section
variable {K : PySem.W.Frag} {ρ ρ' : List Addr} {H H' : Hp}
mutual
theorem VR.mono (e : Ext ρ H ρ' H') : ∀ {d : D} {v : V}, VR K ρ H d v → VR K ρ' H' d v
  | .non, v, h => by simpa [VR] using h
  | .bl b, v, h => by simpa [VR] using h
  | .int i, v, h => by simpa [VR] using h
  | .str x, v, h => by simpa [VR] using h
  | .opq u, v, h => by simpa [VR] using h
  | .tup ds, v, h => by
    unfold VR at h ⊢
    obtain ⟨a, vs, h1, h2, h3⟩ := h
    exact ⟨a, vs, h1, e.kp.sqt h2, VRs.mono e h3⟩
  | .fl ds, v, h => by
    unfold VR at h ⊢
    obtain ⟨a, vs, h1, h2, h3⟩ := h
    exact ⟨a, vs, h1, e.kp.frl h2, VRs.mono e h3⟩
  | .ref n, v, h => by
    unfold VR at h ⊢
    obtain ⟨a, h1, h2⟩ := h
    exact ⟨a, e.get h1, h2⟩
theorem VRs.mono (e : Ext ρ H ρ' H') : ∀ {ds : List D} {vs : List V}, VRs K ρ H ds vs → VRs K ρ' H' ds vs
  | [], vs, h => by simpa [VRs] using h
  | d :: ds, vs, h => by
    unfold VRs at h ⊢
    obtain ⟨v, r, h1, h2, h3⟩ := h
    exact ⟨v, r, h1, VR.mono e h2, VRs.mono e h3⟩
end
theorem VRs.nil : VRs K ρ H [] [] := by simp [VRs]
theorem VRs.cons {d : D} {v : V} {ds : List D} {vs : List V} (h : VR K ρ H d v) (t : VRs K ρ H ds vs) : VRs K ρ H (d :: ds) (v :: vs) := by
  unfold VRs; exact ⟨v, vs, rfl, h, t⟩
theorem VRs.cons_inv {d : D} {v : V} {ds : List D} {vs : List V} (h : VRs K ρ H (d :: ds) (v :: vs)) : VR K ρ H d v ∧ VRs K ρ H ds vs := by
  unfold VRs at h
  obtain ⟨a, b, e, h1, h2⟩ := h
  cases e
  exact ⟨h1, h2⟩
theorem VRs.cons_l {d : D} {ds : List D} {vs : List V} (h : VRs K ρ H (d :: ds) vs) : ∃ v r, vs = v :: r ∧ VR K ρ H d v ∧ VRs K ρ H ds r := by
  unfold VRs at h; exact h
theorem VRs.nil_l {vs : List V} (h : VRs K ρ H [] vs) : vs = [] := by unfold VRs at h; exact h
theorem VRs.length : ∀ {ds : List D} {vs : List V}, VRs K ρ H ds vs → ds.length = vs.length
  | [], vs, h => by rw [h.nil_l]; rfl
  | d :: ds, vs, h => by
    obtain ⟨v, r, rfl, _, h2⟩ := h.cons_l
    simp [VRs.length h2]
theorem VRs.get : ∀ {ds : List D} {vs : List V} {i : Nat} {d : D}, VRs K ρ H ds vs → ds[i]? = some d → ∃ v, vs[i]? = some v ∧ VR K ρ H d v
  | [], vs, i, d, h, e => by simp at e
  | d :: ds, vs, 0, d', h, e => by
    obtain ⟨v, r, rfl, h1, h2⟩ := h.cons_l
    simp at e; subst e
    exact ⟨v, rfl, h1⟩
  | d :: ds, vs, i + 1, d', h, e => by
    obtain ⟨v, r, rfl, h1, h2⟩ := h.cons_l
    simpa using VRs.get (i := i) h2 (by simpa using e)
theorem VRs.append : ∀ {ds es : List D} {vs ws : List V}, VRs K ρ H ds vs → VRs K ρ H es ws → VRs K ρ H (ds ++ es) (vs ++ ws)
  | [], es, vs, ws, h, t => by rw [h.nil_l]; exact t
  | d :: ds, es, vs, ws, h, t => by
    obtain ⟨v, r, rfl, h1, h2⟩ := h.cons_l
    exact .cons h1 (VRs.append h2 t)
theorem VRs.take : ∀ {ds : List D} {vs : List V} (n : Nat), VRs K ρ H ds vs → VRs K ρ H (ds.take n) (vs.take n)
  | ds, vs, 0, h => by simpa using VRs.nil
  | [], vs, n + 1, h => by rw [h.nil_l]; simpa using VRs.nil
  | d :: ds, vs, n + 1, h => by
    obtain ⟨v, r, rfl, h1, h2⟩ := h.cons_l
    exact .cons h1 (VRs.take n h2)
theorem VRs.drop : ∀ {ds : List D} {vs : List V} (n : Nat), VRs K ρ H ds vs → VRs K ρ H (ds.drop n) (vs.drop n)
  | ds, vs, 0, h => h
  | [], vs, n + 1, h => by rw [h.nil_l]; simpa using VRs.nil
  | d :: ds, vs, n + 1, h => by
    obtain ⟨v, r, rfl, h1, h2⟩ := h.cons_l
    exact VRs.drop n h2
theorem VRs.set : ∀ {ds : List D} {vs : List V} {d : D} {v : V} (i : Nat), VRs K ρ H ds vs → VR K ρ H d v → VRs K ρ H (ds.set i d) (vs.set i v)
  | [], vs, d, v, i, h, k => by rw [h.nil_l]; simpa using VRs.nil
  | e :: ds, vs, d, v, 0, h, k => by
    obtain ⟨v', r, rfl, h1, h2⟩ := h.cons_l
    exact .cons k h2
  | e :: ds, vs, d, v, i + 1, h, k => by
    obtain ⟨v', r, rfl, h1, h2⟩ := h.cons_l
    exact .cons h1 (VRs.set i h2 k)
theorem VRs.eraseIdx : ∀ {ds : List D} {vs : List V} (i : Nat), VRs K ρ H ds vs → VRs K ρ H (ds.eraseIdx i) (vs.eraseIdx i)
  | [], vs, i, h => by rw [h.nil_l]; simpa using VRs.nil
  | e :: ds, vs, 0, h => by
    obtain ⟨v', r, rfl, h1, h2⟩ := h.cons_l
    exact h2
  | e :: ds, vs, i + 1, h => by
    obtain ⟨v', r, rfl, h1, h2⟩ := h.cons_l
    exact .cons h1 (VRs.eraseIdx i h2)
theorem VRs.dropLast {ds : List D} {vs : List V} (h : VRs K ρ H ds vs) : VRs K ρ H ds.dropLast vs.dropLast := by
  rw [List.dropLast_eq_take, List.dropLast_eq_take, h.length]; exact h.take _
theorem VRs.insertIdx : ∀ {ds : List D} {vs : List V} {d : D} {v : V} (i : Nat), VRs K ρ H ds vs → VR K ρ H d v → VRs K ρ H (ds.insertIdx i d) (vs.insertIdx i v)
  | ds, vs, d, v, 0, h, k => by simpa using VRs.cons k h
  | [], vs, d, v, i + 1, h, k => by rw [h.nil_l]; simpa using VRs.nil
  | e :: ds, vs, d, v, i + 1, h, k => by
    obtain ⟨v', r, rfl, h1, h2⟩ := h.cons_l
    simpa using VRs.cons h1 (VRs.insertIdx i h2 k)
theorem VRs.reverse : ∀ {ds : List D} {vs : List V}, VRs K ρ H ds vs → VRs K ρ H ds.reverse vs.reverse
  | [], vs, h => by rw [h.nil_l]; simpa using VRs.nil
  | d :: ds, vs, h => by
    obtain ⟨v, r, rfl, h1, h2⟩ := h.cons_l
    rw [List.reverse_cons, List.reverse_cons]
    exact (VRs.reverse h2).append (.cons h1 .nil)
theorem VRs.ints : ∀ {ns : List Int} {vs : List V}, VRs K ρ H (ns.map D.int) vs → vs = ns.map V.int
  | [], vs, h => h.nil_l
  | n :: ns, vs, h => by
    obtain ⟨v, r, rfl, h1, h2⟩ := h.cons_l
    have : v = V.int n := by simpa [VR] using h1
    rw [this, VRs.ints h2]; rfl
theorem VRs.of_ints : ∀ (ns : List Int), VRs K ρ H (ns.map D.int) (ns.map V.int)
  | [] => .nil
  | n :: ns => .cons (by simp [VR]) (VRs.of_ints ns)
end

/-- names and values -/
def FR {α : Type} (K : PySem.W.Frag) (ρ : List Addr) (H : Hp) (fs : List (α × D)) (gs : List (α × V)) : Prop := fs.map (·.1) = gs.map (·.1) ∧ VRs K ρ H (fs.map (·.2)) (gs.map (·.2))
theorem FR.mono {α : Type} {K : PySem.W.Frag} {ρ ρ' : List Addr} {H H' : Hp} (e : Ext ρ H ρ' H') {fs : List (α × D)} {gs : List (α × V)} (h : FR K ρ H fs gs) : FR K ρ' H' fs gs := ⟨h.1, h.2.mono e⟩

/-- how an object of the store lies in the heap -/
def OR (K : PySem.W.Frag) (mg : Str → Option Value) (ρ : List Addr) (H : Hp) (a : Addr) : O → Prop
  | .lst ds => ∃ vs, H a = some (.lst vs) ∧ VRs K ρ H ds vs
  | .dk kvs => ∃ ws, H a = some (.dK ws) ∧ FR K ρ H kvs ws
  | .dt kvs => ∃ ws, H a = some (.dT ws) ∧ FR K ρ H kvs ws
  | .ins c fs => ∃ C dx gs, mg c = some (.ref C) ∧ H a = some (.ins C dx gs) ∧ FR K ρ H fs gs
theorem OR.mono {K : PySem.W.Frag} {mg : Str → Option Value} {ρ ρ' : List Addr} {H H' : Hp} {a : Addr} (e : Ext ρ H ρ' H') (ha : H' a = H a) : ∀ {o : O}, OR K mg ρ H a o → OR K mg ρ' H' a o
  | .lst ds, ⟨vs, h1, h2⟩ => ⟨vs, ha.trans h1, h2.mono e⟩
  | .dk kvs, ⟨ws, h1, h2⟩ => ⟨ws, ha.trans h1, h2.mono e⟩
  | .dt kvs, ⟨ws, h1, h2⟩ => ⟨ws, ha.trans h1, h2.mono e⟩
  | .ins c fs, ⟨C, dx, gs, h0, h1, h2⟩ => ⟨C, dx, gs, h0, ha.trans h1, h2.mono e⟩
theorem OR.some {K : PySem.W.Frag} {mg : Str → Option Value} {ρ : List Addr} {H : Hp} {a : Addr} : ∀ {o : O}, OR K mg ρ H a o → ∃ ho, H a = Option.some ho ∧ Mut (H a)
  | .lst ds, ⟨vs, h1, h2⟩ => ⟨_, h1, by rw [h1]; exact True.intro⟩
  | .dk kvs, ⟨ws, h1, h2⟩ => ⟨_, h1, by rw [h1]; exact True.intro⟩
  | .dt kvs, ⟨ws, h1, h2⟩ => ⟨_, h1, by rw [h1]; exact True.intro⟩
  | .ins c fs, ⟨C, dx, gs, h0, h1, h2⟩ => ⟨_, h1, by rw [h1]; exact True.intro⟩

structure Sim (K : PySem.W.Frag) (mg : Str → Option Value) (ρ : List Addr) (S : ST) (H : Hp) : Prop where
  nd : ρ.Nodup
  len : ρ.length = S.length
  obj : ∀ (n : Nat) (a : Addr) (o : O), ρ[n]? = some a → S[n]? = some o → OR K mg ρ H a o
section
variable {K : PySem.W.Frag} {mg : Str → Option Value} {ρ : List Addr} {S : ST} {H : Hp}
theorem Sim.addr (s : Sim K mg ρ S H) {n : Nat} {o : O} (h : S[n]? = some o) : ∃ a, ρ[n]? = some a ∧ OR K mg ρ H a o := by
  have hn : n < ρ.length := by rw [s.len]; exact (List.getElem?_eq_some_iff.mp h).1
  exact ⟨ρ[n], List.getElem?_eq_getElem hn, s.obj n _ o (List.getElem?_eq_getElem hn) h⟩
theorem Sim.ref (s : Sim K mg ρ S H) {n : Nat} {o : O} {v : V} (r : VR K ρ H (.ref n) v) (h : S[n]? = some o) : ∃ a, v = .ref a ∧ ρ[n]? = some a ∧ OR K mg ρ H a o := by
  unfold VR at r
  obtain ⟨a, h1, h2⟩ := r
  exact ⟨a, h2, h1, s.obj n a o h1 h⟩
theorem Sim.mem (s : Sim K mg ρ S H) {a : Addr} (h : a ∈ ρ) : ∃ ho, H a = some ho ∧ Mut (H a) := by
  obtain ⟨n, hn, e⟩ := List.getElem_of_mem h
  have hn' : n < S.length := by rw [← s.len]; exact hn
  exact (s.obj n a S[n] (by rw [List.getElem?_eq_getElem hn, e]) (List.getElem?_eq_getElem hn')).some
theorem Keep.new {p : Addr} {o : HO} (h : H p = none) : Keep H (upd H p o) :=
  ⟨fun a xs e => by rw [upd_ne (ne_of_none e h)]; exact e, fun a x u e => by rw [upd_ne (ne_of_none e h)]; exact e⟩
theorem Keep.write {p : Addr} {o : HO} (h : Mut (H p)) : Keep H (upd H p o) :=
  ⟨fun a xs e => by rw [upd_ne (fun z => by subst z; rw [e] at h; exact h)]; exact e, fun a x u e => by rw [upd_ne (fun z => by subst z; rw [e] at h; exact h)]; exact e⟩
/-- a new object that nobody of the store knows -/
theorem Sim.junk (s : Sim K mg ρ S H) {p : Addr} {o : HO} (h : H p = none) : Sim K mg ρ S (upd H p o) := by
  refine ⟨s.nd, s.len, fun n a ob h1 h2 => ?_⟩
  have q := s.obj n a ob h1 h2
  obtain ⟨ho, e, _⟩ := q.some
  exact q.mono ⟨List.prefix_refl _, .new h⟩ (upd_ne (ne_of_none e h))
theorem Sim.free (s : Sim K mg ρ S H) {p : Addr} (h : H p = none) : p ∉ ρ := fun z => by
  obtain ⟨ho, e, _⟩ := s.mem z
  rw [h] at e; cases e
theorem Ext.alloc {p : Addr} {o : HO} (h : H p = none) : Ext ρ H (ρ ++ [p]) (upd H p o) := ⟨List.prefix_append _ _, .new h⟩
theorem Sim.alloc (s : Sim K mg ρ S H) {p : Addr} {ho : HO} {o : O} (h : H p = none) (q : OR K mg (ρ ++ [p]) (upd H p ho) p o) : Sim K mg (ρ ++ [p]) (S ++ [o]) (upd H p ho) := by
  have hp := s.free h
  refine ⟨?_, by simp [s.len], fun n a ob h1 h2 => ?_⟩
  · rw [List.nodup_append]
    refine ⟨s.nd, by simp, fun a ha b hb => ?_⟩
    simp at hb; subst hb
    exact fun e => hp (e ▸ ha)
  · by_cases hn : n < ρ.length
    · rw [List.getElem?_append_left hn] at h1
      rw [List.getElem?_append_left (by rw [← s.len]; exact hn)] at h2
      have q := s.obj n a ob h1 h2
      obtain ⟨hh, e, _⟩ := q.some
      exact q.mono (.alloc h) (upd_ne (ne_of_none e h))
    · have hn' : ρ.length ≤ n := by omega
      rw [List.getElem?_append_right hn'] at h1
      rw [List.getElem?_append_right (by rw [← s.len]; exact hn')] at h2
      have e0 : n - ρ.length = 0 := by
        have := (List.getElem?_eq_some_iff.mp h1).1
        simp at this; omega
      rw [e0] at h1
      rw [← s.len, e0] at h2
      simp at h1 h2
      subst h1 h2
      exact q
theorem VR.alloc (s : Sim K mg ρ S H) {p : Addr} {ho : HO} : VR K (ρ ++ [p]) (upd H p ho) (.ref S.length) (.ref p) := by
  unfold VR
  exact ⟨p, by rw [← s.len]; simp, rfl⟩
theorem Sim.write (s : Sim K mg ρ S H) {n : Nat} {a : Addr} {ho : HO} {o : O} (h1 : ρ[n]? = some a) (hm : Mut (H a)) (q : OR K mg ρ (upd H a ho) a o) : Sim K mg ρ (S.set n o) (upd H a ho) := by
  refine ⟨s.nd, by simp [s.len], fun m b ob hb hs => ?_⟩
  by_cases e : n = m
  · subst e
    rw [h1] at hb; cases hb
    have hn : n < S.length := by rw [← s.len]; exact (List.getElem?_eq_some_iff.mp h1).1
    rw [List.getElem?_set_self hn] at hs
    cases hs
    exact q
  · rw [List.getElem?_set_ne e] at hs
    have q' := s.obj m b ob hb hs
    refine q'.mono ⟨List.prefix_refl _, .write hm⟩ (upd_ne ?_)
    intro z
    subst z
    have hn := (List.getElem?_eq_some_iff.mp h1)
    have hm' := (List.getElem?_eq_some_iff.mp hb)
    obtain ⟨l1, e1⟩ := hn
    obtain ⟨l2, e2⟩ := hm'
    exact e ((List.getElem_inj s.nd).mp (e1.trans e2.symm))
theorem Ext.write {a : Addr} {ho : HO} (hm : Mut (H a)) : Ext ρ H ρ (upd H a ho) := ⟨List.prefix_refl _, .write hm⟩
theorem Ext.junk {a : Addr} {ho : HO} (hm : H a = none) : Ext ρ H ρ (upd H a ho) := ⟨List.prefix_refl _, .new hm⟩
end

/-- the slots -/
structure GR (K : PySem.W.Frag) (ρ : List Addr) (H : Hp) (G : GE) (σ : St) : Prop where
  len : G.length = σ.length
  get : ∀ (i : Nat) (d : D), G[i]? = some (some d) → ∃ v, σ[i]? = some (some v) ∧ VR K ρ H d v
theorem GR.mono {K : PySem.W.Frag} {ρ ρ' : List Addr} {H H' : Hp} {G : GE} {σ : St} (g : GR K ρ H G σ) (e : Ext ρ H ρ' H') : GR K ρ' H' G σ :=
  ⟨g.len, fun i d h => let ⟨v, h1, h2⟩ := g.get i d h; ⟨v, h1, h2.mono e⟩⟩
theorem GR.set {K : PySem.W.Frag} {ρ : List Addr} {H : Hp} {G : GE} {σ : St} (g : GR K ρ H G σ) {d : D} {v : V} (i : Nat) (r : VR K ρ H d v) : GR K ρ H (G.set i (some d)) (σ.set i (some v)) := by
  refine ⟨by simp [g.len], fun j e h => ?_⟩
  by_cases hj : i = j
  · subst hj
    have hi : i < G.length := by
      have := (List.getElem?_eq_some_iff.mp h).1
      simpa using this
    rw [List.getElem?_set_self hi] at h
    cases h
    exact ⟨v, List.getElem?_set_self (by rw [← g.len]; exact hi), r⟩
  · rw [List.getElem?_set_ne hj] at h ⊢
    exact g.get j e h
def wipeG (G : GE) : List Nat → GE
  | [] => G
  | v :: vs => (wipeG G vs).set v none
theorem GR.wipe {K : PySem.W.Frag} {ρ : List Addr} {H : Hp} {G : GE} {σ : St} (g : GR K ρ H G σ) : ∀ vs : List Nat, GR K ρ H (wipeG G vs) (L2.wipe σ vs)
  | [] => g
  | v :: vs => by
    have q := GR.wipe g vs
    refine ⟨by simp [wipeG, L2.wipe, q.len], fun i d h => ?_⟩
    unfold wipeG at h
    by_cases hj : v = i
    · subst hj
      have hi : v < (wipeG G vs).length := by
        have := (List.getElem?_eq_some_iff.mp h).1
        simpa using this
      rw [List.getElem?_set_self hi] at h
      cases h
    · rw [List.getElem?_set_ne hj] at h
      unfold L2.wipe
      rw [List.getElem?_set_ne hj]
      exact q.get i d h

/-! ### ends -/
/-- how an exception of the mirror lies in the heap -/
def ExR (K : PySem.W.Frag) (mg : Str → Option Value) (ρ : List Addr) (H : Hp) (c : Str) (fs : List (Str × D)) (cls : Value) (dx : Option Addr) : Prop :=
  ∃ C, mg c = some (.ref C) ∧ cls = .ref C ∧ ((fs = [] ∧ dx = none) ∨ ∃ a gs, dx = some a ∧ H a = some (.xd gs) ∧ FR K ρ H fs gs)
def OutK {α β : Type} (K : PySem.W.Frag) (mg : Str → Option Value) (W : WX) (rel : List Addr → Hp → α → β → Prop) (ρ : List Addr) (σ : St) (H : Hp) (r : R α) (Q : β → Hp → Prop) : Prop := match r with
  | .ok d S' => ∀ ρ' H' v, Ext ρ H ρ' H' → Sim K mg ρ' S' H' → rel ρ' H' d v → Q v H'
  | .exc c fs S' => ∀ ρ' H' cls dx, Ext ρ H ρ' H' → Sim K mg ρ' S' H' → ExR K mg ρ' H' c fs cls dx → W cls dx σ H'
  | .bad => False
abbrev OutG {α β : Type} (X : Cx) (W : WX) (rel : List Addr → Hp → α → β → Prop) (ρ : List Addr) (σ : St) (H : Hp) (r : R α) (Q : β → Hp → Prop) : Prop := OutK X.K X.mg W rel ρ σ H r Q
def tG {α β : Type} (X : Cx) (W : WX) (rel : List Addr → Hp → α → β → Prop) (f : GE → ST → R α) (σ : St) (H : Hp) (Q : β → Hp → Prop) : Prop :=
  ∃ ρ G S, GR X.K ρ H G σ ∧ Sim X.K X.mg ρ S H ∧ OutG X W rel ρ σ H (f G S) Q
section
variable {X : Cx} {W : WX} {α β γ δ : Type} {rel : List Addr → Hp → α → β → Prop} {rel' : List Addr → Hp → γ → δ → Prop} {ρ ρ' : List Addr} {σ : St} {H H' : Hp}
theorem OutG.mono {r : R α} {Q Q' : β → Hp → Prop} (h : OutG X W rel ρ σ H r Q) (e : Ext ρ H ρ' H') (q : ∀ v H, Q v H → Q' v H) : OutG X W rel ρ' σ H' r Q' := by
  cases r with
  | ok d S => exact fun ρ2 H2 v e2 s2 r2 => q _ _ (h ρ2 H2 v (e.trans e2) s2 r2)
  | exc c fs S => exact fun ρ2 H2 cls dx e2 s2 r2 => h ρ2 H2 cls dx (e.trans e2) s2 r2
  | bad => exact h
theorem tG_mono {f : GE → ST → R α} {Q Q' : β → Hp → Prop} (h : tG X W rel f σ H Q) (q : ∀ v H, Q v H → Q' v H) : tG X W rel f σ H Q' := by
  obtain ⟨ρ, G, S, h1, h2, h3⟩ := h
  exact ⟨ρ, G, S, h1, h2, h3.mono (.refl _ _) q⟩
/-- one thing, then the rest -/
theorem tG_bind {f : GE → ST → R α} {g : α → GE → ST → R γ} {Q : δ → Hp → Prop} (h : tG X W rel' (fun G S => (f G S).bind fun a S1 => g a G S1) σ H Q) :
    tG X W rel f σ H fun x H1 => ∃ ρ G S a, GR X.K ρ H1 G σ ∧ Sim X.K X.mg ρ S H1 ∧ rel ρ H1 a x ∧ OutG X W rel' ρ σ H1 (g a G S) Q := by
  obtain ⟨ρ, G, S, h1, h2, h3⟩ := h
  refine ⟨ρ, G, S, h1, h2, ?_⟩
  dsimp only at h3
  cases e : f G S with
  | ok a S1 =>
    rw [e] at h3
    exact fun ρ1 H1 x e1 s1 r1 => ⟨ρ1, G, S1, a, h1.mono e1, s1, r1, OutG.mono (r := g a G S1) h3 e1 fun _ _ z => z⟩
  | exc c fs S1 =>
    rw [e] at h3
    exact h3
  | bad =>
    rw [e] at h3
    exact h3
/-- the same from what an end leaves -/
theorem out_tG {f : GE → ST → R α} {G : GE} {S : ST} {Q : β → Hp → Prop} (g : GR X.K ρ H G σ) (s : Sim X.K X.mg ρ S H) (h : OutG X W rel ρ σ H (f G S) Q) : tG X W rel f σ H Q := ⟨ρ, G, S, g, s, h⟩
theorem out_bind {f : R α} {g : α → ST → R γ} {Q : δ → Hp → Prop} (h : OutG X W rel' ρ σ H (f.bind g) Q) :
    OutG X W rel ρ σ H f fun x H1 => ∃ ρ1 S1 a, Ext ρ H ρ1 H1 ∧ Sim X.K X.mg ρ1 S1 H1 ∧ rel ρ1 H1 a x ∧ OutG X W rel' ρ1 σ H1 (g a S1) Q := by
  cases f with
  | ok a S1 => exact fun ρ1 H1 x e1 s1 r1 => ⟨ρ1, S1, a, e1, s1, r1, OutG.mono (r := g a S1) h e1 fun _ _ z => z⟩
  | exc c fs S1 => exact h
  | bad => exact h
end

abbrev rV (X : Cx) : List Addr → Hp → D → V → Prop := fun ρ H => VR X.K ρ H
abbrev rVs (X : Cx) : List Addr → Hp → List D → List V → Prop := fun ρ H => VRs X.K ρ H
abbrev rB : List Addr → Hp → Bool → Bool → Prop := fun _ _ a b => b = a
abbrev tE (X : Cx) (W : WX) (f : ME) : TE := tG X W (rV X) f
abbrev tA (X : Cx) (W : WX) (f : MA) : TA := tG X W (rVs X) f
abbrev tT (X : Cx) (W : WX) (f : MT) : TT := tG X W rB f
def OutS (X : Cx) (W : WX) (ρ : List Addr) (H : Hp) (r : RS) (Dn : Ends) : Prop := match r with
  | .nx G' S' => ∀ ρ' H' σ', Ext ρ H ρ' H' → Sim X.K X.mg ρ' S' H' → GR X.K ρ' H' G' σ' → Dn.nx σ' H'
  | .bk G' S' => ∀ ρ' H' σ', Ext ρ H ρ' H' → Sim X.K X.mg ρ' S' H' → GR X.K ρ' H' G' σ' → Dn.bk σ' H'
  | .ct G' S' => ∀ ρ' H' σ', Ext ρ H ρ' H' → Sim X.K X.mg ρ' S' H' → GR X.K ρ' H' G' σ' → Dn.ct σ' H'
  | .rt d S' => ∀ ρ' H' v, Ext ρ H ρ' H' → Sim X.K X.mg ρ' S' H' → VR X.K ρ' H' d v → Dn.rt v H'
  | .exc c fs G' S' => ∀ ρ' H' σ' cls dx, Ext ρ H ρ' H' → Sim X.K X.mg ρ' S' H' → GR X.K ρ' H' G' σ' → ExR X.K X.mg ρ' H' c fs cls dx → W cls dx σ' H'
  | .bad => False
def tS (X : Cx) (W : WX) (f : MS) : TS := fun Dn σ H => ∃ ρ G S, GR X.K ρ H G σ ∧ Sim X.K X.mg ρ S H ∧ OutS X W ρ H (f G S) Dn
theorem OutS.mono {X : Cx} {W : WX} {ρ ρ' : List Addr} {H H' : Hp} {r : RS} {Dn : Ends} (h : OutS X W ρ H r Dn) (e : Ext ρ H ρ' H') : OutS X W ρ' H' r Dn := by
  cases r with
  | nx G S => exact fun ρ2 H2 v e2 s2 r2 => h ρ2 H2 v (e.trans e2) s2 r2
  | bk G S => exact fun ρ2 H2 v e2 s2 r2 => h ρ2 H2 v (e.trans e2) s2 r2
  | ct G S => exact fun ρ2 H2 v e2 s2 r2 => h ρ2 H2 v (e.trans e2) s2 r2
  | rt d S => exact fun ρ2 H2 v e2 s2 r2 => h ρ2 H2 v (e.trans e2) s2 r2
  | exc c fs G S => exact fun ρ2 H2 v cls dx e2 s2 r2 => h ρ2 H2 v cls dx (e.trans e2) s2 r2
  | bad => exact h

abbrev DE (X : Cx) (W : WX) (e : Expr) (f : ME) : Prop := PE X e (tE X W f)
abbrev DT (X : Cx) (W : WX) (e : Expr) (f : MT) : Prop := PT X e (tT X W f)
abbrev DW (X : Cx) (W : WX) (e : Expr) (f : MT) : Prop := PW X e (tT X W f)
abbrev DA (X : Cx) (W : WX) (es : List Expr) (f : MA) : Prop := PA X es (tA X W f)
abbrev DS (X : Cx) (W : WX) (st : Stmt) (f : MS) : Prop := PS X st (tS X W f)
abbrev DSs (X : Cx) (W : WX) (st : List Stmt) (f : MS) : Prop := PSs X st (tS X W f)

theorem PE.weak {X : Cx} {e : Expr} {t t' : TE} (h : PE X e t) (i : ∀ σ H Q, t' σ H Q → t σ H Q) : PE X e t' := ⟨fun pins s σ H Q I q => h.run pins s σ H Q I (i σ H Q q)⟩
theorem PT.weak {X : Cx} {e : Expr} {t t' : TT} (h : PT X e t) (i : ∀ σ H Q, t' σ H Q → t σ H Q) : PT X e t' := ⟨fun pins s σ H Q I q => h.run pins s σ H Q I (i σ H Q q)⟩
theorem PW.weak {X : Cx} {e : Expr} {t t' : TT} (h : PW X e t) (i : ∀ σ H Q, t' σ H Q → t σ H Q) : PW X e t' := ⟨fun wh pins s σ H Q I q => h.run wh pins s σ H Q I (i σ H Q q)⟩
theorem PA.weak {X : Cx} {e : List Expr} {t t' : TA} (h : PA X e t) (i : ∀ σ H Q, t' σ H Q → t σ H Q) : PA X e t' := ⟨fun pos pins s σ H Q I q => h.run pos pins s σ H Q I (i σ H Q q)⟩
theorem PS.weak {X : Cx} {e : Stmt} {t t' : TS} (h : PS X e t) (i : ∀ D σ H, t' D σ H → t D σ H) : PS X e t' := ⟨fun pins s σ H D I q => h.run pins s σ H D I (i D σ H q)⟩
theorem PSs.weak {X : Cx} {e : List Stmt} {t t' : TS} (h : PSs X e t) (i : ∀ D σ H, t' D σ H → t D σ H) : PSs X e t' := ⟨fun pins s σ H D I q => h.run pins s σ H D I (i D σ H q)⟩
theorem PG.weak {X : Cx} {e : Expr} {t t' : TG} (h : PG X e t) (i : ∀ v σ H Q, t' v σ H Q → t v σ H Q) : PG X e t' := ⟨fun pins s σ H v u Q I r q => h.run pins s σ H v u Q I r (i v σ H Q q)⟩
theorem PGs.weak {X : Cx} {e : List Expr} {t t' : TGs} (h : PGs X e t) (i : ∀ v σ H Q, t' v σ H Q → t v σ H Q) : PGs X e t' := ⟨fun pins s σ H v u Q I r q => h.run pins s σ H v u Q I r (i v σ H Q q)⟩
theorem PE.orr {X : Cx} {e : Expr} {t t' : TE} (h : PE X e t) (h' : PE X e t') : PE X e (fun σ H Q => t σ H Q ∨ t' σ H Q) := ⟨fun pins s σ H Q I q => q.elim (h.run pins s σ H Q I) (h'.run pins s σ H Q I)⟩
theorem PS.orr {X : Cx} {e : Stmt} {t t' : TS} (h : PS X e t) (h' : PS X e t') : PS X e (fun D σ H => t D σ H ∨ t' D σ H) := ⟨fun pins s σ H Q I q => q.elim (h.run pins s σ H Q I) (h'.run pins s σ H Q I)⟩
end Mir

namespace Mir
open PySem L2
section
variable {K : PySem.W.Frag} {ρ : List Addr} {H : Hp} {v : V}
theorem VR_non : VR K ρ H .non v ↔ v = .non := by simp [VR]
theorem VR_bl {b} : VR K ρ H (.bl b) v ↔ v = .bl b := by simp [VR]
theorem VR_int {i} : VR K ρ H (.int i) v ↔ v = .int i := by simp [VR]
theorem VR_str {x} : VR K ρ H (.str x) v ↔ v = .str x := by simp [VR]
theorem VR_opq {x} : VR K ρ H (.opq x) v ↔ v = x := by simp [VR]
theorem VR_tup {ds} : VR K ρ H (.tup ds) v ↔ ∃ a vs, v = .ref a ∧ SqT K H a vs ∧ VRs K ρ H ds vs := by rw [VR]
theorem VR_fl {ds} : VR K ρ H (.fl ds) v ↔ ∃ a vs, v = .ref a ∧ FrL K H a vs ∧ VRs K ρ H ds vs := by rw [VR]
theorem VR_ref {n} : VR K ρ H (.ref n) v ↔ ∃ a, ρ[n]? = some a ∧ v = .ref a := by rw [VR]
end

/-! ### operations by values -/
/-- a two-place operation: f keeps what m says -/
def Op2 (X : Cx) (W : WX) (f : Value → Value → Sem Value) (m : D → D → C D) : Prop :=
  ∃ r : R2, OpR X f r ∧ ∀ (ρ : List Addr) (S : ST) (H : Hp) (σ : St) (d e : D) (x y : V) (Q : VK), Sim X.K X.mg ρ S H → VR X.K ρ H d x → VR X.K ρ H e y → OutG X W (rV X) ρ σ H (m d e S) Q → r x y H Q
def Op1 (X : Cx) (W : WX) (f : Value → Sem Value) (m : D → C D) : Prop :=
  ∃ r : V → Hp → VK → Prop, UnR X f r ∧ ∀ (ρ : List Addr) (S : ST) (H : Hp) (σ : St) (d : D) (x : V) (Q : VK), Sim X.K X.mg ρ S H → VR X.K ρ H d x → OutG X W (rV X) ρ σ H (m d S) Q → r x H Q
section
variable {X : Cx} {W : WX} {a b c : Expr} {fa fb fc : ME} {pos : Pos}

def e2 (m : D → D → C D) (fa fb : ME) : ME := fun G S => (fa G S).bind fun a S1 => (fb G S1).bind fun b S2 => m a b S2
def e1 (m : D → C D) (fa : ME) : ME := fun G S => (fa G S).bind fun a S1 => m a S1
theorem two {m : D → D → C D} {r : R2} {σ : St} {H : Hp} {Q : VK}
    (hr : ∀ (ρ : List Addr) (S : ST) (H : Hp) (σ : St) (d e : D) (x y : V) (Q : VK), Sim X.K X.mg ρ S H → VR X.K ρ H d x → VR X.K ρ H e y → OutG X W (rV X) ρ σ H (m d e S) Q → r x y H Q)
    (h : tE X W (e2 m fa fb) σ H Q) : tOp r (tE X W fa) (tE X W fb) σ H Q := by
  refine tG_mono (tG_bind (f := fa) (g := fun a G S1 => (fb G S1).bind fun b S2 => m a b S2) h) fun x H1 q => ?_
  obtain ⟨ρ, G, S, d, g, s, r1, o⟩ := q
  refine ⟨ρ, G, S, g, s, OutG.mono (out_bind (rel := rV X) o) (.refl _ _) fun y H2 q2 => ?_⟩
  obtain ⟨ρ2, S2, e, x2, s2, r2, o2⟩ := q2
  exact hr ρ2 S2 H2 σ d e x y Q s2 (VR.mono x2 r1) r2 o2
theorem one {m : D → C D} {r : V → Hp → VK → Prop} {σ : St} {H : Hp} {Q : VK}
    (hr : ∀ (ρ : List Addr) (S : ST) (H : Hp) (σ : St) (d : D) (x : V) (Q : VK), Sim X.K X.mg ρ S H → VR X.K ρ H d x → OutG X W (rV X) ρ σ H (m d S) Q → r x H Q)
    (h : tE X W (e1 m fa) σ H Q) : tUn r (tE X W fa) σ H Q := by
  refine tG_mono (tG_bind (f := fa) (g := fun a G S1 => m a S1) h) fun x H1 q => ?_
  obtain ⟨ρ, G, S, d, g, s, r1, o⟩ := q
  exact hr ρ S H1 σ d x Q s r1 o
theorem de_bin {op : Operator} {m : D → D → C D} (ho : Op2 X W (binaryOp op) m) (ha : DE X W a fa) (hb : DE X W b fb) : DE X W (.BinOp a op b pos) (e2 m fa fb) := by
  obtain ⟨r, h1, h2⟩ := ho
  exact PE.weak (pe_op h1 ha hb) fun σ H Q h => two h2 h
theorem de_un {op : UnaryOp} {m : D → C D} (ho : Op1 X W (unaryOp op) m) (ha : DE X W a fa) : DE X W (.UnaryOp op a pos) (e1 m fa) := by
  obtain ⟨r, h1, h2⟩ := ho
  exact PE.weak (pe_un h1 ha) fun σ H Q h => one h2 h
theorem de_cmp {op : CmpOp} {m : D → D → C D} (ho : Op2 X W (compareOp op) m) (ha : DE X W a fa) (hb : DE X W b fb) (hm : behindInMarks op b = false := by first | exact nomark _ (by decide) (by decide) | rfl) : DE X W (.Compare a [op] [b] pos) (e2 m fa fb) := by
  obtain ⟨r, h1, h2⟩ := ho
  exact PE.weak (pe_cmpR h1 ha hb hm) fun σ H Q h => two h2 h
/-- a truth value as a test -/
def tb (f : ME) : MT := fun G S => (f G S).bind fun d S1 => match d with | .bl b => .ok b S1 | _ => .bad
theorem tb_test {t : TE} {f : ME} {σ : St} {H : Hp} {Q : Bool → Hp → Prop} (ht : ∀ Q, tE X W f σ H Q → t σ H Q) (h : tT X W (tb f) σ H Q) : tTest t σ H Q := by
  refine ht _ (tG_mono (tG_bind (f := f) (g := fun d G S1 => match d with | .bl b => R.ok b S1 | _ => .bad) h) fun x H1 q => ?_)
  obtain ⟨ρ, G, S, d, g, s, r1, o⟩ := q
  cases d <;> first | exact o.elim | skip
  rename_i b
  exact ⟨b, VR_bl.mp r1, o ρ H1 b (.refl _ _) s rfl⟩
theorem dt_cmp {op : CmpOp} {m : D → D → C D} (ho : Op2 X W (compareOp op) m) (ha : DE X W a fa) (hb : DE X W b fb) (hm : behindInMarks op b = false := by first | exact nomark _ (by decide) (by decide) | rfl) : DT X W (.Compare a [op] [b] pos) (tb (e2 m fa fb)) := by
  obtain ⟨r, h1, h2⟩ := ho
  exact PT.weak (pt_cmpR h1 ha hb hm) fun σ H Q h => tb_test (fun Q h => two h2 h) h

/-! ### names, constants -/
def eV (i : Nat) : ME := fun G S => match G[i]? with | some (some d) => .ok d S | _ => .bad
def eC (d : D) : ME := fun _ S => .ok d S
theorem de_v (i : Nat) {x : Str} {pos : Pos} (hN : X.N[i]? = some x := by rfl) (hv : Vis X.env.scope x := by first | exact Or.inl rfl | exact Or.inr (Or.inl rfl) | exact Or.inr (Or.inr rfl)) (hd : (x == ("__debug__" : Str)) = false := by decide)
    (hcd : (x == ("__classdict__" : Str)) = false := by decide) : DE X W (.Name x pos) (eV i) := by
  refine PE.weak (pe_var hN hv hd hcd) fun σ H Q h => ?_
  obtain ⟨ρ, G, S, g, s, o⟩ := h
  unfold eV at o
  split at o
  · rename_i d e
    obtain ⟨v, e1, r⟩ := g.get i d e
    exact ⟨v, e1, o ρ H v (.refl _ _) s r⟩
  · exact o.elim
theorem eC_ok {d : D} {v : V} {σ : St} {H : Hp} {Q : VK} (r : ∀ ρ, VR X.K ρ H d v) (h : tE X W (eC d) σ H Q) : tC v σ H Q := by
  obtain ⟨ρ, G, S, g, s, o⟩ := h
  exact o ρ H v (.refl _ _) s (r ρ)
theorem de_int {i j} : DE X W (.Constant (.int i) j pos) (eC (.int i)) := PE.weak pe_int fun σ H Q h => eC_ok (fun ρ => VR_int.mpr rfl) h
theorem de_bl {b j} : DE X W (.Constant (.bool b) j pos) (eC (.bl b)) := PE.weak pe_bl fun σ H Q h => eC_ok (fun ρ => VR_bl.mpr rfl) h
theorem de_non {j} : DE X W (.Constant .none j pos) (eC .non) := PE.weak pe_non fun σ H Q h => eC_ok (fun ρ => VR_non.mpr rfl) h
theorem de_str {x j} : DE X W (.Constant (.str x) j pos) (eC (.str x)) := PE.weak pe_str fun σ H Q h => eC_ok (fun ρ => VR_str.mpr rfl) h
/-- a module's constant -/
theorem de_glob {x : Str} {d : D} {v : V} {u : Value} (hg : Gl X x) (hm : X.mg x = some u) (r : RelV v u) (hd : ∀ ρ H, VR X.K ρ H d v) (hdb : (x == ("__debug__" : Str)) = false := by decide) : DE X W (.Name x pos) (eC d) :=
  PE.weak (pe_glob hg hm r hdb) fun σ H Q h => eC_ok (fun ρ => hd ρ H) h

/-! ### numbers -/
def lim64 (i : Int) : Bool := decide (-18446744073709551616 < i) && decide (i < 18446744073709551616)
theorem lim64_iff {i : Int} : lim64 i = true ↔ (-(2 ^ 64) < i ∧ i < 2 ^ 64) := by simp [lim64]
def mI (g : Int → Int → Int) : D → D → C D := fun a b S => match a, b with | .int i, .int j => .ok (.int (g i j)) S | _, _ => .bad
def mIc (c : Int → Int → Bool) (g : Int → Int → Int) : D → D → C D := fun a b S => match a, b with | .int i, .int j => if c i j = true then .ok (.int (g i j)) S else .bad | _, _ => .bad
theorem op2_I {f : Value → Value → Sem Value} {g : Int → Int → Int} (h : OpR X f (rI0 fun i j => .int (g i j))) : Op2 X W f (mI g) := by
  refine ⟨_, h, fun ρ S H σ d e x y Q s r1 r2 o => ?_⟩
  unfold mI at o
  split at o
  · exact ⟨_, _, VR_int.mp r1, VR_int.mp r2, o ρ H _ (.refl _ _) s (VR_int.mpr rfl)⟩
  · exact o.elim
theorem op2_Ic {f : Value → Value → Sem Value} {P : Int → Int → Prop} {c : Int → Int → Bool} {g : Int → Int → Int} (h : OpR X f (rI P fun i j => .int (g i j))) (hc : ∀ i j, c i j = true → P i j) : Op2 X W f (mIc c g) := by
  refine ⟨_, h, fun ρ S H σ d e x y Q s r1 r2 o => ?_⟩
  unfold mIc at o
  split at o
  · split at o
    · rename_i k
      exact ⟨_, _, VR_int.mp r1, VR_int.mp r2, hc _ _ k, o ρ H _ (.refl _ _) s (VR_int.mpr rfl)⟩
    · exact o.elim
  · exact o.elim
def mSub : D → D → C D := mI fun i j => i - j
theorem op2_sub : Op2 X W (binaryOp .Sub) mSub := op2_I op_sub
theorem op2_isub : Op2 X W (inplaceOp .Sub) mSub := op2_I iop_sub
def cDiv (i j : Int) : Bool := decide (0 < j) && decide (j < 18446744073709551616)
def mFDiv : D → D → C D := mIc cDiv fun i j => i / j
theorem op2_fdiv : Op2 X W (binaryOp .FloorDiv) mFDiv := op2_Ic op_fdivW fun i j h => by
  simp [cDiv] at h
  exact wide_div (b := 64) h.1 (by omega) (by decide) (by decide)
def cMod (_ j : Int) : Bool := decide (0 < j)
def mMod : D → D → C D := mIc cMod fun i j => i % j
theorem op2_mod : Op2 X W (binaryOp .Mod) mMod := op2_Ic op_mod fun i j h => by simpa [cMod] using h
def cPow (i j : Int) : Bool := decide (0 ≤ j) && decide (j ≤ 1000000) && lim64 i
theorem cPow_ok {i j : Int} (h : cPow i j = true) : CPow i j := by
  simp [cPow, lim64] at h
  exact ⟨h.1.1, h.1.2, by omega⟩
def mPow : D → D → C D := mIc cPow fun i j => i ^ j.toNat
theorem op2_pow : Op2 X W (binaryOp .Pow) mPow := op2_Ic op_pow fun i j h => cPow_ok h
def mShl : D → D → C D := mIc cPow fun i j => i * 2 ^ j.toNat
theorem op2_shl : Op2 X W (binaryOp .LShift) mShl := op2_Ic op_shl fun i j h => cPow_ok h
def cNn (_ j : Int) : Bool := decide (0 ≤ j)
def mShr : D → D → C D := mIc cNn fun i j => i / 2 ^ j.toNat
theorem op2_shr : Op2 X W (binaryOp .RShift) mShr := op2_Ic op_shr fun i j h => by simpa [cNn] using h
def mAnd : D → D → C D := mI fun i j => Builtin.bitAnd i j
theorem op2_and : Op2 X W (binaryOp .BitAnd) mAnd := op2_I op_and
def mOr : D → D → C D := mI fun i j => Builtin.bitOr i j
theorem op2_or : Op2 X W (binaryOp .BitOr) mOr := op2_I op_or
def mXor : D → D → C D := mI fun i j => Builtin.bitXor i j
theorem op2_xor : Op2 X W (binaryOp .BitXor) mXor := op2_I op_xor
def mNeg : D → C D := fun a S => match a with | .int i => .ok (.int (-i)) S | _ => .bad
theorem op1_neg : Op1 X W (unaryOp .USub) mNeg := by
  refine ⟨_, un_neg, fun ρ S H σ d x Q s r1 o => ?_⟩
  unfold mNeg at o
  split at o
  · exact ⟨_, VR_int.mp r1, o ρ H _ (.refl _ _) s (VR_int.mpr rfl)⟩
  · exact o.elim

/-! ### + and * -/
def allocO (o : O) : C D := fun S => .ok (.ref S.length) (S ++ [o])
/-- a new object by the rule «for any free address» -/
theorem alloc_ok {ρ : List Addr} {S : ST} {H : Hp} {σ : St} {o : O} {ho : HO} {Q : VK} (s : Sim X.K X.mg ρ S H) (h : OutG X W (rV X) ρ σ H (allocO o S) Q)
    (q : ∀ p, H p = none → OR X.K X.mg (ρ ++ [p]) (upd H p ho) p o) : ∀ p, H p = none → Q (.ref p) (upd H p ho) := fun p hp =>
  h (ρ ++ [p]) _ _ (.alloc hp) (s.alloc hp (q p hp)) (VR.alloc s)
theorem alloc_lst {ρ : List Addr} {S : ST} {H : Hp} {σ : St} {ds : List D} {vs : List V} {Q : VK} (s : Sim X.K X.mg ρ S H) (h : OutG X W (rV X) ρ σ H (allocO (.lst ds) S) Q)
    (r : VRs X.K ρ H ds vs) : ∀ p, H p = none → Q (.ref p) (upd H p (.lst vs)) := alloc_ok s h fun p hp => ⟨vs, upd_same, r.mono (.alloc hp)⟩
/-- a new tuple -/
theorem new_tup {ρ : List Addr} {S : ST} {H : Hp} {σ : St} {ds : List D} {vs : List V} {Q : VK} (s : Sim X.K X.mg ρ S H) (h : OutG X W (rV X) ρ σ H (.ok (.tup ds) S) Q)
    (r : VRs X.K ρ H ds vs) : ∀ p, H p = none → Q (.ref p) (upd H p (.tup vs)) := fun p hp =>
  h ρ _ _ (.junk hp) (s.junk hp) (VR_tup.mpr ⟨p, vs, rfl, .inl (.inl upd_same), r.mono (.junk hp)⟩)
abbrev SZ : Nat := 16777216
def mAdd : D → D → C D := fun a b S => match a, b with
  | .int i, .int j => .ok (.int (i + j)) S
  | .str x, .str y => if x.length + y.length ≤ SZ then .ok (.str (x ++ y)) S else .bad
  | .tup xs, .tup ys => if xs.length + ys.length ≤ SZ then .ok (.tup (xs ++ ys)) S else .bad
  | .ref m, .ref n => match S[m]?, S[n]? with
    | some (.lst xs), some (.lst ys) => if xs.length + ys.length ≤ SZ then allocO (.lst (xs ++ ys)) S else .bad
    | _, _ => .bad
  | .int i, .bl k => .ok (.int (i + if k then 1 else 0)) S
  | _, _ => .bad
theorem op2_add : Op2 X W (binaryOp .Add) mAdd := by
  refine ⟨_, op_add.or (op_add_str.or (op_catA.or (op_cat.or op_add_ib))), fun ρ S H σ d e x y Q s r1 r2 o => ?_⟩
  unfold mAdd at o
  split at o
  · exact .inl ⟨_, _, VR_int.mp r1, VR_int.mp r2, o ρ H _ (.refl _ _) s (VR_int.mpr rfl)⟩
  · split at o
    · rename_i k
      exact .inr (.inl ⟨_, _, VR_str.mp r1, VR_str.mp r2, by rw [sizeLine_eq]; exact k, o ρ H _ (.refl _ _) s (VR_str.mpr rfl)⟩)
    · exact o.elim
  · split at o
    · rename_i xs ys k
      obtain ⟨a, vs, e1, q1, v1⟩ := VR_tup.mp r1
      obtain ⟨b, ws, e2, q2, v2⟩ := VR_tup.mp r2
      refine .inr (.inr (.inl ⟨a, b, vs, ws, e1, e2, q1, q2, ?_, fun z => ?_, fun z1 z2 => ?_, fun z1 z2 => new_tup s o (v1.append v2)⟩))
      · rw [sizeLine_eq, ← v1.length, ← v2.length]; exact k
      · subst z
        refine o ρ H _ (.refl _ _) s (VR_tup.mpr ⟨b, _, rfl, q2, ?_⟩)
        have := v1.length
        have hx : xs = [] := List.length_eq_zero_iff.mp (by simpa using this)
        rw [hx]; exact v2
      · subst z2
        refine o ρ H _ (.refl _ _) s (VR_tup.mpr ⟨a, _, rfl, q1, ?_⟩)
        have := v2.length
        have hx : ys = [] := List.length_eq_zero_iff.mp (by simpa using this)
        rw [hx, List.append_nil]; exact v1
    · exact o.elim
  · rename_i m n
    split at o
    · rename_i xs ys h1 h2
      split at o
      · rename_i k
        obtain ⟨a, e1, p1, vs, w1, v1⟩ := s.ref r1 h1
        obtain ⟨b, e2, p2, ws, w2, v2⟩ := s.ref r2 h2
        refine .inr (.inr (.inr (.inl ⟨a, b, vs, ws, e1, e2, w1, w2, ?_, alloc_lst s o (v1.append v2)⟩)))
        rw [sizeLine_eq, ← v1.length, ← v2.length]; exact k
      · exact o.elim
    · exact o.elim
  · exact .inr (.inr (.inr (.inr ⟨_, _, VR_int.mp r1, VR_bl.mp r2, o ρ H _ (.refl _ _) s (VR_int.mpr rfl)⟩)))
  · exact o.elim
theorem op_add_bi : OpR X (inplaceOp .Add) (rI0 fun i j => .int (i + j)) := iop_add
def mIAdd : D → D → C D := fun a b S => match a, b with
  | .int i, .int j => .ok (.int (i + j)) S
  | .str x, .str y => if x.length + y.length ≤ SZ then .ok (.str (x ++ y)) S else .bad
  | .ref m, .ref n => match S[m]?, S[n]? with
    | some (.lst xs), some (.lst ys) => if xs.length + ys.length ≤ SZ then .ok (.ref m) (S.set m (.lst (xs ++ ys))) else .bad
    | _, _ => .bad
  | _, _ => .bad
theorem op2_iadd : Op2 X W (inplaceOp .Add) mIAdd := by
  refine ⟨_, iop_add.or (iop_add_str.or iop_ext), fun ρ S H σ d e x y Q s r1 r2 o => ?_⟩
  unfold mIAdd at o
  split at o
  · exact .inl ⟨_, _, VR_int.mp r1, VR_int.mp r2, o ρ H _ (.refl _ _) s (VR_int.mpr rfl)⟩
  · split at o
    · rename_i k
      exact .inr (.inl ⟨_, _, VR_str.mp r1, VR_str.mp r2, by rw [sizeLine_eq]; exact k, o ρ H _ (.refl _ _) s (VR_str.mpr rfl)⟩)
    · exact o.elim
  · rename_i m n
    split at o
    · rename_i xs ys h1 h2
      split at o
      · rename_i k
        obtain ⟨a, e1, p1, vs, w1, v1⟩ := s.ref r1 h1
        obtain ⟨b, e2, p2, ws, w2, v2⟩ := s.ref r2 h2
        refine .inr (.inr ⟨a, b, vs, ws, e1, e2, w1, w2, ?_, ?_⟩)
        · rw [sizeLine_eq, ← v1.length, ← v2.length]; exact k
        · have hm : Mut (H a) := by rw [w1]; exact True.intro
          refine o ρ _ _ (.write hm) (s.write p1 hm ⟨_, upd_same, (v1.append v2).mono (.write hm)⟩) (VR_ref.mpr ⟨a, p1, rfl⟩)
      · exact o.elim
    · exact o.elim
  · exact o.elim
def mMul : D → D → C D := fun a b S => match a, b with
  | .int i, .int j => if (lim64 i || lim64 j) = true then .ok (.int (i * j)) S else .bad
  | .ref m, .int k => match S[m]? with
    | some (.lst xs) => if 0 ≤ k ∧ k < 16777217 ∧ xs.length * k.toNat ≤ SZ then allocO (.lst (List.replicate k.toNat xs).flatten) S else .bad
    | _ => .bad
  | _, _ => .bad
theorem VRs.rep {K : PySem.W.Frag} {ρ : List Addr} {H : Hp} {ds : List D} {vs : List V} (h : VRs K ρ H ds vs) : ∀ k : Nat, VRs K ρ H (List.replicate k ds).flatten (List.replicate k vs).flatten
  | 0 => by simpa using VRs.nil
  | k + 1 => by rw [List.replicate_succ, List.replicate_succ, List.flatten_cons, List.flatten_cons]; exact h.append (VRs.rep h k)
theorem op2_mul : Op2 X W (binaryOp .Mult) mMul := by
  refine ⟨_, op_mul.or op_rep, fun ρ S H σ d e x y Q s r1 r2 o => ?_⟩
  unfold mMul at o
  split at o
  · split at o
    · rename_i k
      rw [Bool.or_eq_true, lim64_iff, lim64_iff] at k
      exact .inl ⟨_, _, VR_int.mp r1, VR_int.mp r2, k, o ρ H _ (.refl _ _) s (VR_int.mpr rfl)⟩
    · exact o.elim
  · rename_i m k
    split at o
    · rename_i xs h1
      split at o
      · rename_i c
        obtain ⟨a, e1, p1, vs, w1, v1⟩ := s.ref r1 h1
        refine .inr ⟨a, k, vs, e1, VR_int.mp r2, w1, by omega, by omega, ?_, alloc_lst s o (v1.rep _)⟩
        rw [sizeLine_eq, ← v1.length]; exact c.2.2
      · exact o.elim
    · exact o.elim
  · exact o.elim

/-! ### comparisons of numbers and texts -/
def mCmp (p : Int → Int → Bool) (q : List Nat → List Nat → Bool) : D → D → C D := fun a b S => match a, b with
  | .int i, .int j => .ok (.bl (p i j)) S
  | .str x, .str y => .ok (.bl (q x.cps.toList y.cps.toList)) S
  | _, _ => .bad
theorem op2_cmp {f : Value → Value → Sem Value} {p : Int → Int → Bool} {q : List Nat → List Nat → Bool} (h : OpR X f (rI0 fun i j => .bl (p i j))) (h' : OpR X f (fun x y H Q => ∃ i j, x = .str i ∧ y = .str j ∧ Q (.bl (q i.cps.toList j.cps.toList)) H)) : Op2 X W f (mCmp p q) := by
  refine ⟨_, h.or h', fun ρ S H σ d e x y Q s r1 r2 o => ?_⟩
  unfold mCmp at o
  split at o
  · exact .inl ⟨_, _, VR_int.mp r1, VR_int.mp r2, o ρ H _ (.refl _ _) s (VR_bl.mpr rfl)⟩
  · exact .inr ⟨_, _, VR_str.mp r1, VR_str.mp r2, o ρ H _ (.refl _ _) s (VR_bl.mpr rfl)⟩
  · exact o.elim
def mLt : D → D → C D := mCmp (fun i j => decide (i < j)) fun x y => decide (x < y)
def mLe : D → D → C D := mCmp (fun i j => decide (i ≤ j)) fun x y => !decide (y < x)
def mGt : D → D → C D := mCmp (fun i j => decide (j < i)) fun x y => decide (y < x)
def mGe : D → D → C D := mCmp (fun i j => decide (j ≤ i)) fun x y => !decide (x < y)
theorem op2_lt : Op2 X W (compareOp .Lt) mLt := op2_cmp op_lt op_lt_str
theorem op2_le : Op2 X W (compareOp .LtE) mLe := op2_cmp op_le op_le_str
theorem op2_gt : Op2 X W (compareOp .Gt) mGt := op2_cmp op_gt op_gt_str
theorem op2_ge : Op2 X W (compareOp .GtE) mGe := op2_cmp op_ge op_ge_str

/-! ### == -/
mutual
def D.py : D → Option PyData
  | .non => some .none
  | .bl b => some (.bool b)
  | .int i => some (.int i)
  | .str x => some (.str x)
  | .tup ds => (D.pys ds).map .tuple
  | .fl ds => (D.pys ds).map .list
  | .ref _ => none
  | .opq _ => none
def D.pys : List D → Option (List PyData)
  | [] => some []
  | d :: ds => match D.py d, D.pys ds with | some p, some ps => some (p :: ps) | _, _ => none
end
/-- one list deep in the store -/
def D.pyS (S : ST) : D → Option PyData
  | .ref n => match S[n]? with | some (.lst ds) => (D.pys ds).map .list | _ => none
  | d => d.py
section
variable {ρ : List Addr} {H : Hp}
mutual
theorem VR.dp {K : PySem.W.Frag} : ∀ {d : D} {v : V} {p : PyData}, VR K ρ H d v → d.py = some p → Dp K H v p
  | .non, v, p, h, e => by rw [VR_non] at h; subst h; simp [D.py] at e; subst e; exact .non
  | .bl b, v, p, h, e => by rw [VR_bl] at h; subst h; simp [D.py] at e; subst e; exact .bl _
  | .int i, v, p, h, e => by rw [VR_int] at h; subst h; simp [D.py] at e; subst e; exact .int _
  | .str x, v, p, h, e => by rw [VR_str] at h; subst h; simp [D.py] at e; subst e; exact .str _
  | .tup ds, v, p, h, e => by
    obtain ⟨a, vs, rfl, q, r⟩ := VR_tup.mp h
    simp [D.py] at e
    obtain ⟨ps, e1, rfl⟩ := e
    exact .tup q (VRs.dp r e1)
  | .fl ds, v, p, h, e => by
    obtain ⟨a, vs, rfl, q, r⟩ := VR_fl.mp h
    simp [D.py] at e
    obtain ⟨ps, e1, rfl⟩ := e
    exact .lst q.sql (VRs.dp r e1)
  | .ref n, v, p, h, e => by simp [D.py] at e
  | .opq x, v, p, h, e => by simp [D.py] at e
theorem VRs.dp {K : PySem.W.Frag} : ∀ {ds : List D} {vs : List V} {ps : List PyData}, VRs K ρ H ds vs → D.pys ds = some ps → DpAll K H vs ps
  | [], vs, ps, h, e => by
    rw [h.nil_l]
    simp [D.pys] at e; subst e
    exact .nil
  | d :: ds, vs, ps, h, e => by
    obtain ⟨v, r, rfl, h1, h2⟩ := h.cons_l
    unfold D.pys at e
    split at e
    · rename_i p ps' e1 e2
      cases e
      exact .cons (VR.dp h1 e1) (VRs.dp h2 e2)
    · cases e
end
theorem VR.dpS {K : PySem.W.Frag} {mg : Str → Option Value} {S : ST} (s : Sim K mg ρ S H) {d : D} {v : V} {p : PyData} (h : VR K ρ H d v) (e : d.pyS S = some p) : Dp K H v p := by
  cases d with
  | ref n =>
    unfold D.pyS at e
    dsimp only at e
    split at e
    · rename_i ds h1
      obtain ⟨a, rfl, p1, vs, w1, v1⟩ := s.ref h h1
      simp at e
      obtain ⟨ps, e1, rfl⟩ := e
      exact .lst (SqL.of w1) (v1.dp e1)
    · cases e
  | _ => exact VR.dp h e
end
def mEqB (a b : D) (S : ST) : Option Bool := match a, b with
  | .int i, .int j => some (decide (i = j))
  | .str x, .str y => some (decide (x = y))
  | .bl x, .bl y => some (decide (x = y))
  | _, _ => match a.pyS S, b.pyS S with
    | some p, some q => if (SeqAt.shaped p && SeqAt.shaped q) = true then some (PyData.eqv p q) else none
    | _, _ => none
def mEq : D → D → C D := fun a b S => match mEqB a b S with | some k => .ok (.bl k) S | none => .bad
def mNe : D → D → C D := fun a b S => match mEqB a b S with | some k => .ok (.bl (!k)) S | none => .bad
theorem op2_eqs {f : Value → Value → Sem Value} {g : Bool → Bool} (h1 : OpR X f (fun x y H Q => scal x y = true ∧ Q (.bl (g (decide (x = y)))) H))
    (h2 : OpR X f (fun x y H Q => ∃ d e, Dp X.K H x d ∧ Dp X.K H y e ∧ SeqAt.shaped d = true ∧ SeqAt.shaped e = true ∧ Q (.bl (g (PyData.eqv d e))) H)) : Op2 X W f (fun a b S => match mEqB a b S with | some k => .ok (.bl (g k)) S | none => .bad) := by
  refine ⟨_, h1.or h2, fun ρ S H σ d e x y Q s r1 r2 o => ?_⟩
  dsimp only at o
  split at o
  · rename_i k hk
    unfold mEqB at hk
    split at hk
    · rename_i i j
      cases hk
      rw [VR_int] at r1 r2; subst r1 r2
      refine .inl ⟨rfl, ?_⟩
      have := o ρ H _ (.refl _ _) s (VR_bl.mpr rfl)
      rwa [show decide (V.int i = V.int j) = decide (i = j) by simp]
    · rename_i i j
      cases hk
      rw [VR_str] at r1 r2; subst r1 r2
      refine .inl ⟨rfl, ?_⟩
      have := o ρ H _ (.refl _ _) s (VR_bl.mpr rfl)
      rwa [show decide (V.str i = V.str j) = decide (i = j) by simp]
    · rename_i i j
      cases hk
      rw [VR_bl] at r1 r2; subst r1 r2
      refine .inl ⟨rfl, ?_⟩
      have := o ρ H _ (.refl _ _) s (VR_bl.mpr rfl)
      rwa [show decide (V.bl i = V.bl j) = decide (i = j) by simp]
    · split at hk
      · rename_i p q e1 e2
        split at hk
        · rename_i c
          rw [Bool.and_eq_true] at c
          cases hk
          exact .inr ⟨p, q, VR.dpS s r1 e1, VR.dpS s r2 e2, c.1, c.2, o ρ H _ (.refl _ _) s (VR_bl.mpr rfl)⟩
        · cases hk
      · cases hk
  · exact o.elim
theorem op2_eq (hu : X.A.units + 64 < cLine) : Op2 X W (compareOp .Eq) mEq := op2_eqs (g := id) op_eq (op_eqD hu)
theorem op2_ne (hu : X.A.units + 64 < cLine) : Op2 X W (compareOp .NotEq) mNe := op2_eqs (g := not) op_ne (op_neD hu)

/-! ### is -/
def mIsB (a b : D) : Option Bool := match b, a with
  | .bl y, .bl x => some (decide (x = y))
  | .non, .non => some true
  | .non, .opq _ => none
  | .non, _ => some false
  | _, _ => none
def mIs : D → D → C D := fun a b S => match mIsB a b with | some k => .ok (.bl k) S | none => .bad
def mIsNot : D → D → C D := fun a b S => match mIsB a b with | some k => .ok (.bl (!k)) S | none => .bad
theorem VR.nonD {K : PySem.W.Frag} {ρ : List Addr} {H : Hp} {d : D} {v : V} (h : VR K ρ H d v) (hd : d ≠ .non) (ho : ∀ u, d ≠ .opq u) : v ≠ .non := by
  cases d with
  | non => exact absurd rfl hd
  | bl b => rw [VR_bl] at h; subst h; intro z; cases z
  | int b => rw [VR_int] at h; subst h; intro z; cases z
  | str b => rw [VR_str] at h; subst h; intro z; cases z
  | tup b => obtain ⟨a, vs, rfl, _⟩ := VR_tup.mp h; intro z; cases z
  | fl b => obtain ⟨a, vs, rfl, _⟩ := VR_fl.mp h; intro z; cases z
  | ref b => obtain ⟨a, _, rfl⟩ := VR_ref.mp h; intro z; cases z
  | opq u => exact absurd rfl (ho u)
theorem op2_iss {f : Value → Value → Sem Value} {g : Bool → Bool} (h1 : OpR X f (fun x y H Q => ∃ a b, x = .bl a ∧ y = .bl b ∧ Q (.bl (g (decide (a = b)))) H))
    (h2 : OpR X f (fun x y H Q => y = .non ∧ Q (.bl (g (decide (x = .non)))) H)) : Op2 X W f (fun a b S => match mIsB a b with | some k => .ok (.bl (g k)) S | none => .bad) := by
  refine ⟨_, h1.or h2, fun ρ S H σ d e x y Q s r1 r2 o => ?_⟩
  dsimp only at o
  split at o
  · rename_i k hk
    have o' := o ρ H _ (.refl _ _) s (VR_bl.mpr rfl)
    unfold mIsB at hk
    split at hk
    · cases hk
      exact .inl ⟨_, _, VR_bl.mp r1, VR_bl.mp r2, o'⟩
    · cases hk
      rw [VR_non] at r1 r2; subst r1 r2
      exact .inr ⟨rfl, o'⟩
    · cases hk
    · rename_i n1 n2
      cases hk
      refine .inr ⟨VR_non.mp r2, ?_⟩
      rwa [decide_eq_false (VR.nonD r1 n1 n2)]
    · cases hk
  · exact o.elim
theorem op2_is : Op2 X W (compareOp .Is) mIs := op2_iss (g := id) op_is_bl op_isN
theorem op2_isNot : Op2 X W (compareOp .IsNot) mIsNot := op2_iss (g := not) op_isnot_bl op_notN
end
end Mir

namespace Mir
open PySem L2
section
variable {X : Cx} {W : WX} {a b c : Expr} {fa fb fc : ME} {pos : Pos}

/-! ### sequences -/
/-- the items of a list or tuple -/
def D.items (S : ST) : D → Option (List D)
  | .tup ds => some ds
  | .fl ds => some ds
  | .ref n => match S[n]? with | some (.lst ds) => some ds | _ => none
  | _ => none
theorem items_ok {ρ : List Addr} {S : ST} {H : Hp} {d : D} {v : V} {ds : List D} (s : Sim X.K X.mg ρ S H) (r : VR X.K ρ H d v) (h : d.items S = some ds) :
    ∃ p vs, v = .ref p ∧ (SqL X.K H p vs ∨ SqT X.K H p vs) ∧ VRs X.K ρ H ds vs := by
  unfold D.items at h
  split at h
  · cases h
    obtain ⟨p, vs, e, q, r⟩ := VR_tup.mp r
    exact ⟨p, vs, e, .inr q, r⟩
  · cases h
    obtain ⟨p, vs, e, q, r⟩ := VR_fl.mp r
    exact ⟨p, vs, e, .inl q.sql, r⟩
  · split at h
    · rename_i h1
      cases h
      obtain ⟨p, e, p1, vs, w1, v1⟩ := s.ref r h1
      exact ⟨p, vs, e, .inl (SqL.of w1), v1⟩
    · cases h
  · cases h

/-! ### in -/
def D.flat : D → Bool
  | .non => true | .bl _ => true | .int _ => true | .str _ => true | _ => false
def D.toV : D → V
  | .non => .non | .bl b => .bl b | .int i => .int i | .str x => .str x | _ => .non
def eqF : D → D → Bool
  | .int i, .int j => decide (i = j)
  | .str x, .str y => decide (x = y)
  | .bl x, .bl y => decide (x = y)
  | .non, .non => true
  | .bl x, .int j => decide ((if x then 1 else 0) = j)
  | .int i, .bl y => decide (i = if y then 1 else 0)
  | _, _ => false
theorem VR.flat {K : PySem.W.Frag} {ρ : List Addr} {H : Hp} {d : D} {v : V} (h : VR K ρ H d v) (f : d.flat = true) : v = d.toV ∧ flatV v = true := by
  cases d <;> first | (simp [D.flat] at f; done) | skip
  · rw [VR_non] at h; subst h; exact ⟨rfl, rfl⟩
  · rw [VR_bl] at h; subst h; exact ⟨rfl, rfl⟩
  · rw [VR_int] at h; subst h; exact ⟨rfl, rfl⟩
  · rw [VR_str] at h; subst h; exact ⟨rfl, rfl⟩
theorem VRs.flat {K : PySem.W.Frag} {ρ : List Addr} {H : Hp} : ∀ {ds : List D} {vs : List V}, VRs K ρ H ds vs → ds.all D.flat = true → vs = ds.map D.toV ∧ vs.all flatV = true
  | [], vs, h, f => by rw [h.nil_l]; exact ⟨rfl, rfl⟩
  | d :: ds, vs, h, f => by
    obtain ⟨v, r, rfl, h1, h2⟩ := h.cons_l
    rw [List.all_cons, Bool.and_eq_true] at f
    obtain ⟨e1, e2⟩ := h1.flat f.1
    obtain ⟨e3, e4⟩ := VRs.flat h2 f.2
    refine ⟨by rw [List.map_cons, ← e1, ← e3], by rw [List.all_cons, e2, e4]; rfl⟩
theorem eqV_toV {d e : D} (f : d.flat = true) (g : e.flat = true) : eqV d.toV e.toV = eqF d e := by
  cases d <;> first | (simp [D.flat] at f; done) | skip
  all_goals (cases e <;> first | (simp [D.flat] at g; done) | skip)
  all_goals first | rfl | (simp [D.toV, eqV, eqF, Bool.beq_eq_decide_eq])
theorem inV_toV {d : D} (f : d.flat = true) : ∀ {ds : List D}, ds.all D.flat = true → inV d.toV (ds.map D.toV) = ds.any fun y => eqF y d
  | [], _ => rfl
  | e :: ds, g => by
    rw [List.all_cons, Bool.and_eq_true] at g
    have ih := inV_toV f g.2
    unfold inV at ih ⊢
    rw [List.map_cons, List.any_cons, List.any_cons, ih, eqV_toV g.1 f]
def look {κ α : Type} [DecidableEq κ] (kvs : List (κ × α)) (k : κ) : Option α := (kvs.find? fun kv => decide (kv.1 = k)).map (·.2)
def VRo (K : PySem.W.Frag) (ρ : List Addr) (H : Hp) : Option D → Option V → Prop
  | some d, some v => VR K ρ H d v
  | none, none => True
  | _, _ => False
theorem FR.look {κ : Type} [DecidableEq κ] {K : PySem.W.Frag} {ρ : List Addr} {H : Hp} : ∀ {kvs : List (κ × D)} {ws : List (κ × V)} (k : κ), FR K ρ H kvs ws →
    VRo K ρ H (Mir.look kvs k) (valV ws k)
  | [], ws, k, h => by
    have : ws = [] := by
      have := h.1
      cases ws with
      | nil => rfl
      | cons _ _ => simp at this
    subst this
    simp [Mir.look, valV, VRo]
  | (j, d) :: kvs, [], k, h => by
    have := h.1
    simp at this
  | (j, d) :: kvs, (j', v) :: ws, k, h => by
    obtain ⟨h1, h2⟩ := h
    simp only [List.map_cons, List.cons.injEq] at h1 h2
    obtain ⟨rfl, h1⟩ := h1
    obtain ⟨r1, r2⟩ := h2.cons_inv
    by_cases e : j = k
    · subst e
      simp [Mir.look, valV, List.find?_cons]
      exact r1
    · have ih := FR.look (kvs := kvs) (ws := ws) k ⟨h1, r2⟩
      have e1 : Mir.look ((j, d) :: kvs) k = Mir.look kvs k := by simp [Mir.look, List.find?_cons, e]
      rw [e1, valV_neg e]
      exact ih
def D.key : D → Option Key
  | .int i => some (.inl i)
  | .str x => some (.inr x)
  | _ => none
theorem VR.key {K : PySem.W.Frag} {ρ : List Addr} {H : Hp} {d : D} {v : V} {k : Key} (h : VR K ρ H d v) (e : d.key = some k) : v = kV k := by
  unfold D.key at e
  split at e
  · cases e; exact VR_int.mp h
  · cases e; exact VR_str.mp h
  · cases e
/-- what a dict holds -/
def D.isDict (S : ST) : D → Bool
  | .ref n => match S[n]? with | some (.dk _) => true | some (.dt _) => true | _ => false
  | _ => false
def dGet (S : ST) (d k : D) : Option (Option D) := match d with
  | .ref n => match S[n]? with
    | some (.dk kvs) => k.key.map fun k => look kvs k
    | _ => none
  | _ => none
theorem dGet_ok {ρ : List Addr} {S : ST} {H : Hp} {d k : D} {v u : V} {o : Option D} (s : Sim X.K X.mg ρ S H) (r : VR X.K ρ H d v) (rk : VR X.K ρ H k u) (h : dGet S d k = some o) :
    ∃ a w, v = .ref a ∧ DGet H a u w ∧ VRo X.K ρ H o w := by
  cases d with
  | ref n =>
    unfold dGet at h
    dsimp only at h
    split at h
    · rename_i h1
      obtain ⟨a, e, p1, ws, w1, v1⟩ := s.ref r h1
      simp only [Option.map_eq_some_iff] at h
      obtain ⟨k', e1, rfl⟩ := h
      have e2 := rk.key e1
      subst e2
      exact ⟨a, _, e, DGet.k w1, v1.look k'⟩
    · cases h
  | _ => cases h
def inB (S : ST) (a b : D) : Option Bool := match b with
  | .str z => match a with
    | .str x => if x.cps.size = 1 then some (decide (x.cps.getD 0 0 ∈ z.cps.toList)) else some (!(Builtin.Str.occurrences z x 0 z.length 1).isEmpty)
    | _ => none
  | b => match b.items S with
    | some ds => if (a.flat && ds.all D.flat) = true then some (ds.any fun y => eqF y a) else
        match b.pyS S, a.py with
        | some (.list ps), some p => if (SeqAt.shaped p && SeqAt.shaped (.list ps)) = true then some (ps.any fun z => PyData.eqv z p) else none
        | _, _ => none
    | none => none
def mInG (g : Bool → Bool) : D → D → C D := fun a b S => if b.isDict S = true then (match dGet S b a with | some o => .ok (.bl (g o.isSome)) S | none => .bad) else match inB S a b with | some k => .ok (.bl (g k)) S | none => .bad
def mIn : D → D → C D := mInG id
def mNotIn : D → D → C D := mInG not
theorem str_one {x : Str} (h : x.cps.size = 1) : x = ⟨#[x.cps.getD 0 0]⟩ := by
  obtain ⟨⟨l⟩⟩ := x
  match l, h with
  | [c], _ => rfl
abbrev rInA (X : Cx) (g : Bool → Bool) : R2 := fun x y H Q => (∃ (c : Nat) (z : Str), x = .str ⟨#[c]⟩ ∧ y = .str z ∧ Q (.bl (g (decide (c ∈ z.cps.toList)))) H) ∨
  (∃ i j, x = .str i ∧ y = .str j ∧ Q (.bl (g (!(Builtin.Str.occurrences j i 0 j.length 1).isEmpty))) H) ∨
  (∃ p xs, y = .ref p ∧ (SqL X.K H p xs ∨ SqT X.K H p xs) ∧ flatV x = true ∧ xs.all flatV = true ∧ Q (.bl (g (inV x xs))) H) ∨
  (∃ d ds, Dp X.K H x d ∧ Dp X.K H y (.list ds) ∧ SeqAt.shaped d = true ∧ SeqAt.shaped (.list ds) = true ∧ Q (.bl (g (ds.any fun z => PyData.eqv z d))) H)
theorem in_split {g : Bool → Bool} {ρ : List Addr} {S : ST} {H : Hp} {d e : D} {x y : V} {Q : VK} {k : Bool} (s : Sim X.K X.mg ρ S H) (r1 : VR X.K ρ H d x) (r2 : VR X.K ρ H e y) (hk : inB S d e = some k) (q : Q (.bl (g k)) H) :
    rInA X g x y H Q := by
  unfold inB at hk
  split at hk
  · split at hk
    · rename_i z x'
      rw [VR_str] at r1 r2
      subst r1 r2
      split at hk
      · rename_i h1
        cases hk
        refine .inl ⟨_, _, ?_, rfl, q⟩
        rw [← str_one h1]
      · cases hk
        exact .inr (.inl ⟨_, _, rfl, rfl, q⟩)
    · cases hk
  · split at hk
    · rename_i ds hi
      obtain ⟨p, vs, e1, q1, v1⟩ := items_ok s r2 hi
      split at hk
      · rename_i hf
        rw [Bool.and_eq_true] at hf
        cases hk
        obtain ⟨e2, f2⟩ := r1.flat hf.1
        obtain ⟨e3, f3⟩ := v1.flat hf.2
        refine .inr (.inr (.inl ⟨p, vs, e1, q1, f2, f3, ?_⟩))
        rw [e2, e3, inV_toV hf.1 hf.2]
        exact q
      · split at hk
        · rename_i ps p' h1 h2
          split at hk
          · rename_i c
            rw [Bool.and_eq_true] at c
            cases hk
            exact .inr (.inr (.inr ⟨_, _, VR.dp r1 h2, VR.dpS s r2 h1, c.1, c.2, q⟩))
          · cases hk
        · cases hk
    · cases hk
theorem e2_or {m m1 m2 : D → D → C D} {σ : St} {H : Hp} {Q : VK} (hm : ∀ a b S, m a b S = m1 a b S ∨ m a b S = m2 a b S) (h : tE X W (e2 m fa fb) σ H Q) : tE X W (e2 m1 fa fb) σ H Q ∨ tE X W (e2 m2 fa fb) σ H Q := by
  obtain ⟨ρ, G, S, g, s, o⟩ := h
  have key : e2 m fa fb G S = e2 m1 fa fb G S ∨ e2 m fa fb G S = e2 m2 fa fb G S := by
    unfold e2
    cases fa G S with
    | ok a S1 =>
      simp only [R.bind_ok]
      cases fb G S1 with
      | ok b S2 => simp only [R.bind_ok]; exact hm a b S2
      | exc c fs S => exact .inl rfl
      | bad => exact .inl rfl
    | exc c fs S => exact .inl rfl
    | bad => exact .inl rfl
  rcases key with k | k
  · rw [k] at o; exact .inl ⟨ρ, G, S, g, s, o⟩
  · rw [k] at o; exact .inr ⟨ρ, G, S, g, s, o⟩
def mInS (g : Bool → Bool) : D → D → C D := fun a b S => match inB S a b with | some k => .ok (.bl (g k)) S | none => .bad
def mInD (g : Bool → Bool) : D → D → C D := fun a b S => match dGet S b a with | some o => .ok (.bl (g o.isSome)) S | none => .bad
theorem mInG_or (g : Bool → Bool) (a b : D) (S : ST) : mInG g a b S = mInS g a b S ∨ mInG g a b S = mInD g a b S := by
  unfold mInG
  split
  · exact .inr rfl
  · exact .inl rfl
theorem inS_end {g : Bool → Bool} (ρ : List Addr) (S : ST) (H : Hp) (σ : St) (d e : D) (x y : V) (Q : VK) (s : Sim X.K X.mg ρ S H) (r1 : VR X.K ρ H d x) (r2 : VR X.K ρ H e y) (o : OutG X W (rV X) ρ σ H (mInS g d e S) Q) : rInA X g x y H Q := by
  unfold mInS at o
  split at o
  · rename_i k hk
    exact in_split s r1 r2 hk (o ρ H _ (.refl _ _) s (VR_bl.mpr rfl))
  · exact o.elim
theorem inD_end {g : Bool → Bool} (ρ : List Addr) (S : ST) (H : Hp) (σ : St) (d e : D) (x y : V) (Q : VK) (s : Sim X.K X.mg ρ S H) (r1 : VR X.K ρ H d x) (r2 : VR X.K ρ H e y) (o : OutG X W (rV X) ρ σ H (mInD g d e S) Q) :
    ∃ a o, y = .ref a ∧ DGet H a x o ∧ Q (.bl (g o.isSome)) H := by
  unfold mInD at o
  split at o
  · rename_i o' hk
    obtain ⟨a, w, e2, g1, m⟩ := dGet_ok s r2 r1 hk
    refine ⟨a, w, e2, g1, ?_⟩
    have : w.isSome = o'.isSome := by
      cases o' <;> cases w <;> first | rfl | exact m.elim
    rw [this]
    exact o ρ H _ (.refl _ _) s (VR_bl.mpr rfl)
  · exact o.elim
theorem op_inA (hu : X.A.units + 65 < cLine) : OpR X (compareOp .In) (rInA X id) := op_in_sign.or (op_in_str.or (op_in_seq.or (op_inD hu)))
theorem op_notInA (hu : X.A.units + 65 < cLine) : OpR X (compareOp .NotIn) (rInA X not) := op_notIn_sign.or (op_notin_str.or (op_notIn_seq.or (op_notInD hu)))
theorem de_in (hu : X.A.units + 65 < cLine) (ha : DE X W a fa) (hb : DE X W b fb) (hm : behindInMarks .In b = false := by rfl) : DE X W (.Compare a [.In] [b] pos) (e2 mIn fa fb) :=
  PE.weak (PE.orr (pe_cmpR (op_inA hu) ha hb hm) (pe_cmp (pc_din (by omega) ha hb) hm)) fun σ H Q h =>
    (e2_or (mInG_or id) h).elim (fun h => .inl (two inS_end h)) fun h => .inr (two (r := fun x y H Q => ∃ a o, y = .ref a ∧ DGet H a x o ∧ Q (.bl (id o.isSome)) H) inD_end h)
theorem de_notIn (hu : X.A.units + 65 < cLine) (ha : DE X W a fa) (hb : DE X W b fb) (hm : behindInMarks .NotIn b = false := by rfl) : DE X W (.Compare a [.NotIn] [b] pos) (e2 mNotIn fa fb) :=
  PE.weak (PE.orr (pe_cmpR (op_notInA hu) ha hb hm) (pe_cmp (pc_dnotin (by omega) ha hb) hm)) fun σ H Q h =>
    (e2_or (mInG_or not) h).elim (fun h => .inl (two inS_end h)) fun h => .inr (two (r := fun x y H Q => ∃ a o, y = .ref a ∧ DGet H a x o ∧ Q (.bl (not o.isSome)) H) inD_end h)
theorem dt_in (hu : X.A.units + 65 < cLine) (ha : DE X W a fa) (hb : DE X W b fb) (hm : behindInMarks .In b = false := by rfl) : DT X W (.Compare a [.In] [b] pos) (tb (e2 mIn fa fb)) :=
  ⟨fun pins s σ H Q I q => by
    have q1 : tTest (tOp (rInA X id) (tE X W fa) (tE X W fb)) σ H Q ∨ tTest (tDIn (tE X W fa) (tE X W fb)) σ H Q := by
      obtain ⟨ρ, G, S, g, s', o⟩ := q
      have o1 : tE X W (e2 mIn fa fb) σ H (fun x H' => ∃ k, x = .bl k ∧ Q k H') := by
        refine tb_test (t := tE X W (e2 mIn fa fb)) (fun Q h => h) ⟨ρ, G, S, g, s', o⟩
      exact (e2_or (mInG_or id) o1).elim (fun h => .inl (two inS_end h)) fun h => .inr (two (r := fun x y H Q => ∃ a o, y = .ref a ∧ DGet H a x o ∧ Q (.bl (id o.isSome)) H) inD_end h)
    exact q1.elim ((pt_cmpR (op_inA hu) ha hb hm).run pins s σ H Q I) ((pt_cmp (pc_din (by omega) ha hb) hm).run pins s σ H Q I)⟩
theorem dt_notIn (hu : X.A.units + 65 < cLine) (ha : DE X W a fa) (hb : DE X W b fb) (hm : behindInMarks .NotIn b = false := by rfl) : DT X W (.Compare a [.NotIn] [b] pos) (tb (e2 mNotIn fa fb)) :=
  ⟨fun pins s σ H Q I q => by
    have q1 : tTest (tOp (rInA X not) (tE X W fa) (tE X W fb)) σ H Q ∨ tTest (tDNotIn (tE X W fa) (tE X W fb)) σ H Q := by
      have o1 : tE X W (e2 mNotIn fa fb) σ H (fun x H' => ∃ k, x = .bl k ∧ Q k H') := tb_test (t := tE X W (e2 mNotIn fa fb)) (fun Q h => h) q
      exact (e2_or (mInG_or not) o1).elim (fun h => .inl (two inS_end h)) fun h => .inr (two (r := fun x y H Q => ∃ a o, y = .ref a ∧ DGet H a x o ∧ Q (.bl (not o.isSome)) H) inD_end h)
    exact q1.elim ((pt_cmpR (op_notInA hu) ha hb hm).run pins s σ H Q I) ((pt_cmp (pc_dnotin (by omega) ha hb) hm).run pins s σ H Q I)⟩

/-! ### subscripts -/
theorem VRs.atI {K : PySem.W.Frag} {ρ : List Addr} {H : Hp} {ds : List D} {vs : List V} {i : Int} {d : D} (h : VRs K ρ H ds vs) (e : atI ds i = some d) : ∃ v, L2.atI vs i = some v ∧ VR K ρ H d v := by
  unfold L2.atI at e ⊢
  rw [← h.length]
  cases q : ixN ds.length i with
  | none => rw [q] at e; cases e
  | some j =>
    rw [q] at e
    exact h.get (i := j) e
def ixS (S : ST) (a b : D) : Option D := match b with
  | .int i => match a with
    | .str z => if z.length ≤ SZ then (atI z.cps.toList i).map fun c => .str ⟨#[c]⟩ else none
    | a => match a.items S with | some ds => atI ds i | none => none
  | _ => none
def mIxS : D → D → C D := fun a b S => match ixS S a b with | some d => .ok d S | none => .bad
def mIxD : D → D → C D := fun a b S => match dGet S a b with | some (some d) => .ok d S | _ => .bad
/-- a[b] -/
def mIx : D → D → C D := fun a b S => if a.isDict S = true then mIxD a b S else mIxS a b S
theorem mIx_or (a b : D) (S : ST) : mIx a b S = mIxS a b S ∨ mIx a b S = mIxD a b S := by
  unfold mIx
  split
  · exact .inr rfl
  · exact .inl rfl
theorem ixS_end (ρ : List Addr) (S : ST) (H : Hp) (σ : St) (d e : D) (x y : V) (Q : VK) (s : Sim X.K X.mg ρ S H) (r1 : VR X.K ρ H d x) (r2 : VR X.K ρ H e y) (o : OutG X W (rV X) ρ σ H (mIxS d e S) Q) : rIx X.K x y H Q := by
  unfold mIxS at o
  split at o
  · rename_i v hv
    unfold ixS at hv
    split at hv
    · split at hv
      · split at hv
        · rename_i hz
          rw [Option.map_eq_some_iff] at hv
          obtain ⟨c, e1, rfl⟩ := hv
          exact .inr (.inr ⟨_, _, c, VR_str.mp r1, VR_int.mp r2, by rw [sizeLine_eq]; exact hz, e1, o ρ H _ (.refl _ _) s (VR_str.mpr rfl)⟩)
        · cases hv
      · split at hv
        · rename_i hi
          obtain ⟨p, vs, e1, q1, v1⟩ := items_ok s r1 hi
          obtain ⟨w, e2, r⟩ := v1.atI hv
          rcases q1 with q1 | q1
          · exact .inl ⟨p, vs, _, w, e1, VR_int.mp r2, q1, e2, o ρ H _ (.refl _ _) s r⟩
          · exact .inr (.inl ⟨p, vs, _, w, e1, VR_int.mp r2, q1, e2, o ρ H _ (.refl _ _) s r⟩)
        · cases hv
    · cases hv
  · exact o.elim
theorem ixD_end (ρ : List Addr) (S : ST) (H : Hp) (σ : St) (d e : D) (x y : V) (Q : VK) (s : Sim X.K X.mg ρ S H) (r1 : VR X.K ρ H d x) (r2 : VR X.K ρ H e y) (o : OutG X W (rV X) ρ σ H (mIxD d e S) Q) : ∃ a v, x = .ref a ∧ DGet H a y (some v) ∧ Q v H := by
  unfold mIxD at o
  split at o
  · rename_i v hv
    obtain ⟨a, w, e2, g1, m⟩ := dGet_ok s r1 r2 hv
    cases w with
    | none => exact m.elim
    | some w => exact ⟨a, w, e2, g1, o ρ H _ (.refl _ _) s m⟩
  · exact o.elim
theorem de_ix (hu : X.A.units + 65 < cLine) (ha : DE X W a fa) (hb : DE X W b fb) (hs : ∀ o i, subscripted b false o i = operate [o, i] (getItem o i) := by intro _ _; rfl) : DE X W (.Subscript a b pos) (e2 mIx fa fb) :=
  PE.weak (PE.orr (pe_ix ix_seq ha hb hs) (pe_dget (by omega) ha hb hs)) fun σ H Q h =>
    (e2_or mIx_or h).elim (fun h => .inl (two ixS_end h)) fun h => .inr (two (r := fun x y H Q => ∃ a v, x = .ref a ∧ DGet H a y (some v) ∧ Q v H) ixD_end h)

/-! ### slices -/
theorem VRs.cut {K : PySem.W.Frag} {ρ : List Addr} {H : Hp} {ds : List D} {vs : List V} (h : VRs K ρ H ds vs) (lo hi : Option Int) : VRs K ρ H ((ds.drop (HT.sIx ds.length 0 lo)).take (HT.sIx ds.length ds.length hi - HT.sIx ds.length 0 lo)) (cutV vs lo hi) := by
  unfold cutV
  rw [← h.length]
  exact (h.drop _).take _
def cutD (ds : List D) (lo hi : Option Int) : List D := (ds.drop (HT.sIx ds.length 0 lo)).take (HT.sIx ds.length ds.length hi - HT.sIx ds.length 0 lo)
abbrev MO := GE → ST → R (Option Int)
abbrev DO (X : Cx) (W : WX) (e : Option Expr) (f : MO) : Prop := PO X e (tG X W (fun _ _ a b => b = a) f)
def oNone : MO := fun _ S => .ok none S
def oSome (f : ME) : MO := fun G S => (f G S).bind fun d S1 => match d with | .int i => .ok (some i) S1 | _ => .bad
theorem PO.weak {X : Cx} {e : Option Expr} {t t' : TO} (h : PO X e t) (i : ∀ σ H Q, t' σ H Q → t σ H Q) : PO X e t' := ⟨fun pins s σ H Q I q => h.run pins s σ H Q I (i σ H Q q)⟩
theorem do_none : DO X W none oNone := PO.weak po_none fun σ H Q h => by
  obtain ⟨ρ, G, S, g, s, o⟩ := h
  exact o ρ H none (.refl _ _) s rfl
theorem do_some (ha : DE X W a fa) : DO X W (some a) (oSome fa) := PO.weak (po_some ha) fun σ H Q h => by
  refine tG_mono (tG_bind (f := fa) (g := fun d G S1 => match d with | .int i => R.ok (some i) S1 | _ => .bad) h) fun x H1 q => ?_
  obtain ⟨ρ, G, S, d, g, s, r1, o⟩ := q
  cases d <;> first | exact o.elim | skip
  rename_i i
  exact ⟨i, VR_int.mp r1, o ρ H1 _ (.refl _ _) s rfl⟩
def mSl (d : D) (lo hi : Option Int) : C D := fun S => match d with
  | .tup ds => .ok (.tup (cutD ds lo hi)) S
  | .str z => if z.length ≤ SZ then .ok (.str (cutS z lo hi)) S else .bad
  | d => match d.items S with | some ds => allocO (.lst (cutD ds lo hi)) S | none => .bad
def eSl (fe : ME) (fl fh : MO) : ME := fun G S => (fe G S).bind fun d S1 => (fl G S1).bind fun lo S2 => (fh G S2).bind fun hi S3 => mSl d lo hi S3
theorem cut_all (ds : List D) (lo hi : Option Int) (h : HT.sIx ds.length 0 lo = 0 ∧ HT.sIx ds.length ds.length hi = ds.length) : cutD ds lo hi = ds := by
  unfold cutD
  rw [h.1, h.2]
  simp
theorem de_slice {lo hi : Option Expr} {fl fh : MO} {p2 : Pos} (ha : DE X W a fa) (hl : DO X W lo fl) (hh : DO X W hi fh) : DE X W (.Subscript a (.Slice lo hi none p2) pos) (eSl fa fl fh) := by
  refine PE.weak (pe_slice (sl_tupA.or (sl_str.or sl_list)) ha hl hh) fun σ H Q h => ?_
  refine tG_mono (tG_bind (f := fa) (g := fun d G S1 => (fl G S1).bind fun lo S2 => (fh G S2).bind fun hi S3 => mSl d lo hi S3) h) fun x H1 q => ?_
  obtain ⟨ρ, G, S, d, g, s, r1, o⟩ := q
  refine ⟨ρ, G, S, g, s, OutG.mono (out_bind (rel := fun _ _ a b => b = a) o) (.refl _ _) fun y H2 q2 => ?_⟩
  obtain ⟨ρ2, S2, e, x2, s2, r2, o2⟩ := q2
  subst r2
  refine ⟨ρ2, G, S2, g.mono x2, s2, OutG.mono (out_bind (rel := fun _ _ a b => b = a) o2) (.refl _ _) fun z H3 q3 => ?_⟩
  obtain ⟨ρ3, S3, e3, x3, s3, r3, o3⟩ := q3
  subst r3
  have rd : VR X.K ρ3 H3 d x := VR.mono (x2.trans x3) r1
  unfold mSl at o3
  split at o3
  · obtain ⟨p, vs, e1, q1, v1⟩ := VR_tup.mp rd
    refine .inl ⟨p, vs, e1, q1, fun c => ?_, fun c => ?_⟩
    · rw [← v1.length] at c
      rw [cut_all _ _ _ c] at o3
      exact o3 ρ3 H3 _ (.refl _ _) s3 (VR_tup.mpr ⟨p, vs, rfl, q1, v1⟩)
    · exact new_tup s3 o3 (v1.cut y z)
  · split at o3
    · rename_i hz
      exact .inr (.inl ⟨_, VR_str.mp rd, by rw [sizeLine_eq]; exact hz, o3 ρ3 H3 _ (.refl _ _) s3 (VR_str.mpr rfl)⟩)
    · exact o3.elim
  · rename_i nt ns
    split at o3
    · rename_i ds hi'
      cases d with
      | tup ds => exact absurd rfl (nt ds)
      | fl ds =>
        obtain ⟨p, vs, e1, q1, v1⟩ := VR_fl.mp rd
        cases hi'
        exact .inr (.inr ⟨p, vs, e1, q1.sql, alloc_lst s3 o3 (v1.cut y z)⟩)
      | ref n =>
        obtain ⟨p, vs, e1, q1, v1⟩ := items_ok s3 rd hi'
        unfold D.items at hi'
        dsimp only at hi'
        split at hi'
        · rename_i h1
          cases hi'
          obtain ⟨p, e1, p1, vs, w1, v1⟩ := s3.ref rd h1
          exact .inr (.inr ⟨p, vs, e1, SqL.of w1, alloc_lst s3 o3 (v1.cut y z)⟩)
        · cases hi'
      | _ => cases hi'
    · exact o3.elim
def mRev (d : D) : C D := fun S => match d with
  | .tup _ => .bad
  | d => match d.items S with | some ds => allocO (.lst ds.reverse) S | none => .bad
theorem de_rev {k : Nat} {p1 p2 p3 : Pos} (ha : DE X W a fa) : DE X W (.Subscript a (.Slice none none (some (.UnaryOp .USub (.Constant (.int 1) k p1) p2)) p3) pos) (e1 mRev fa) := by
  refine PE.weak (pe_revL ha) fun σ H Q h => ?_
  refine one (r := fun x H1 Q => ∃ a xs, x = .ref a ∧ SqL X.K H1 a xs ∧ ∀ p, H1 p = none → Q (.ref p) (upd H1 p (.lst xs.reverse))) (fun ρ S H σ d x Q s rd o3 => ?_) h
  unfold mRev at o3
  split at o3
  · exact o3.elim
  · rename_i nt
    split at o3
    · rename_i ds hi'
      cases d with
      | tup ds => exact absurd rfl (nt ds)
      | fl ds =>
        obtain ⟨p, vs, e1, q1, v1⟩ := VR_fl.mp rd
        cases hi'
        exact ⟨p, vs, e1, q1.sql, alloc_lst s o3 v1.reverse⟩
      | ref n =>
        unfold D.items at hi'
        dsimp only at hi'
        split at hi'
        · rename_i h1
          cases hi'
          obtain ⟨p, e1, p1, vs, w1, v1⟩ := s.ref rd h1
          exact ⟨p, vs, e1, SqL.of w1, alloc_lst s o3 v1.reverse⟩
        · cases hi'
      | _ => cases hi'
    · exact o3.elim

/-! ### truth -/
def truD (S : ST) : D → Option Bool
  | .non => some false
  | .bl b => some b
  | .int i => some (decide (i ≠ 0))
  | .str z => if z.length ≤ SZ then some (decide (z.length ≠ 0)) else none
  | .ref n => match S[n]? with
    | some (.lst ds) => some (!ds.isEmpty)
    | some (.dk kvs) => some (!kvs.isEmpty)
    | _ => none
  | .tup ds => some (!ds.isEmpty)
  | .fl ds => some (!ds.isEmpty)
  | .opq _ => none
theorem VRs.empty {K : PySem.W.Frag} {ρ : List Addr} {H : Hp} {ds : List D} {vs : List V} (h : VRs K ρ H ds vs) : (!ds.isEmpty) = !vs.isEmpty := by
  cases ds with
  | nil => rw [h.nil_l]; rfl
  | cons d ds => obtain ⟨v, r, rfl, _⟩ := h.cons_l; rfl
theorem truD_ok {ρ : List Addr} {S : ST} {H : Hp} {d : D} {v : V} {k : Bool} (s : Sim X.K X.mg ρ S H) (r : VR X.K ρ H d v) (h : truD S d = some k) : TruV X.K v H k := by
  cases d with
  | non => rw [VR_non] at r; subst r; cases h; exact rfl
  | bl b => rw [VR_bl] at r; subst r; cases h; exact rfl
  | int i =>
    rw [VR_int] at r; subst r; cases h
    show decide (i ≠ 0) = (i != 0)
    by_cases e : i = 0 <;> simp [e]
  | str z =>
    rw [VR_str] at r; subst r
    simp only [truD] at h
    split at h
    · rename_i hz
      cases h
      refine ⟨by rw [sizeLine_eq]; exact hz, ?_⟩
      by_cases e : z.length = 0 <;> simp [e]
    · cases h
  | tup ds =>
    obtain ⟨p, vs, rfl, q, v1⟩ := VR_tup.mp r
    cases h
    exact .inr (.inl ⟨vs, q, v1.empty⟩)
  | fl ds =>
    obtain ⟨p, vs, rfl, q, v1⟩ := VR_fl.mp r
    cases h
    exact .inl ⟨vs, q.sql, v1.empty⟩
  | ref n =>
    unfold truD at h
    dsimp only at h
    split at h
    · rename_i h1
      cases h
      obtain ⟨p, rfl, p1, vs, w1, v1⟩ := s.ref r h1
      exact .inl ⟨vs, SqL.of w1, v1.empty⟩
    · rename_i h1
      cases h
      obtain ⟨p, rfl, p1, ws, w1, v1⟩ := s.ref r h1
      refine .inr (.inr ⟨ws, w1, ?_⟩)
      have e := congrArg List.length v1.1
      rw [List.length_map, List.length_map] at e
      rename_i kvs
      cases ws <;> cases kvs <;> simp_all
    · cases h
  | opq u => cases h
def tTru (f : ME) : MT := fun G S => (f G S).bind fun d S1 => match truD S1 d with | some k => .ok k S1 | none => .bad
theorem dt_tru (ha : DE X W a fa) (he : ∀ whole, isTrue a X.env whole = (do let v ← whole; standAt a.pos; holding [v] (truthy v)) := by intro _; rfl) : DT X W a (tTru fa) := by
  refine PT.weak (pt_truth ha he) fun σ H Q h => ?_
  refine tG_mono (tG_bind (f := fa) (g := fun d G S1 => match truD S1 d with | some k => R.ok k S1 | none => .bad) h) fun x H1 q => ?_
  obtain ⟨ρ, G, S, d, g, s, r1, o⟩ := q
  split at o
  · rename_i k hk
    exact ⟨k, truD_ok s r1 hk, o ρ H1 k (.refl _ _) s rfl⟩
  · exact o.elim

/-! ### and, or, not -/
variable {ga gb : MT} {rest : List Expr}
def tAnd (f g : MT) : MT := fun G S => (f G S).bind fun b S1 => if b = true then g G S1 else .ok false S1
def tOr (f g : MT) : MT := fun G S => (f G S).bind fun b S1 => if b = true then .ok true S1 else g G S1
def tNot (f : MT) : MT := fun G S => (f G S).bind fun b S1 => .ok (!b) S1
theorem dw_and1 (ha : DT X W a ga) : DW X W (.BoolOp .And [a] pos) ga := pw_and1 ha
theorem dw_or1 (ha : DT X W a ga) : DW X W (.BoolOp .Or [a] pos) ga := pw_or1 ha
theorem dw_and (ha : DT X W a ga) (hb : DW X W (.BoolOp .And (b :: rest) pos) gb) : DW X W (.BoolOp .And (a :: b :: rest) pos) (tAnd ga gb) := by
  refine PW.weak (pw_and ha hb) fun σ H Q h => ?_
  refine tG_mono (tG_bind (f := ga) (g := fun b G S1 => if b = true then gb G S1 else R.ok false S1) h) fun x H1 q => ?_
  obtain ⟨ρ, G, S, d, g, s, r1, o⟩ := q
  have r1 : x = d := r1
  subst r1
  by_cases c : x = true
  · rw [if_pos c] at o ⊢
    exact ⟨ρ, G, S, g, s, o⟩
  · rw [if_neg c] at o ⊢
    exact o ρ H1 _ (.refl _ _) s rfl
theorem dw_or (ha : DT X W a ga) (hb : DW X W (.BoolOp .Or (b :: rest) pos) gb) : DW X W (.BoolOp .Or (a :: b :: rest) pos) (tOr ga gb) := by
  refine PW.weak (pw_or ha hb) fun σ H Q h => ?_
  refine tG_mono (tG_bind (f := ga) (g := fun b G S1 => if b = true then R.ok true S1 else gb G S1) h) fun x H1 q => ?_
  obtain ⟨ρ, G, S, d, g, s, r1, o⟩ := q
  have r1 : x = d := r1
  subst r1
  by_cases c : x = true
  · rw [if_pos c] at o ⊢
    exact o ρ H1 _ (.refl _ _) s rfl
  · rw [if_neg c] at o ⊢
    exact ⟨ρ, G, S, g, s, o⟩
theorem dt_w (h : DW X W a ga) : DT X W a ga := h.pt
theorem dt_not (ha : DT X W a ga) : DT X W (.UnaryOp .Not a pos) (tNot ga) := by
  refine PT.weak (pt_not ha) fun σ H Q h => ?_
  refine tG_mono (tG_bind (f := ga) (g := fun b G S1 => R.ok (!b) S1) h) fun x H1 q => ?_
  obtain ⟨ρ, G, S, d, g, s, r1, o⟩ := q
  have r1 : x = d := r1
  subst r1
  exact o ρ H1 _ (.refl _ _) s rfl
/-- as values -/
def eAnd (f g : ME) : ME := fun G S => (f G S).bind fun d S1 => match truD S1 d with | some true => g G S1 | some false => .ok d S1 | none => .bad
def eOr (f g : ME) : ME := fun G S => (f G S).bind fun d S1 => match truD S1 d with | some true => .ok d S1 | some false => g G S1 | none => .bad
def eNot (f : ME) : ME := fun G S => (f G S).bind fun d S1 => match truD S1 d with | some k => .ok (.bl (!k)) S1 | none => .bad
theorem de_one {op} (ha : DE X W a fa) : DE X W (.BoolOp op [a] pos) fa := pe_one ha
theorem de_and (ha : DE X W a fa) (hb : DE X W (.BoolOp .And (b :: rest) pos) fb) : DE X W (.BoolOp .And (a :: b :: rest) pos) (eAnd fa fb) := by
  refine PE.weak (pe_andT ha hb) fun σ H Q h => ?_
  refine tG_mono (tG_bind (f := fa) (g := fun d G S1 => match truD S1 d with | some true => fb G S1 | some false => R.ok d S1 | none => .bad) h) fun x H1 q => ?_
  obtain ⟨ρ, G, S, d, g, s, r1, o⟩ := q
  split at o
  · rename_i hk
    exact ⟨true, truD_ok s r1 hk, by rw [if_pos rfl]; exact ⟨ρ, G, S, g, s, o⟩⟩
  · rename_i hk
    exact ⟨false, truD_ok s r1 hk, by rw [if_neg (by decide)]; exact o ρ H1 _ (.refl _ _) s r1⟩
  · exact o.elim
theorem de_or (ha : DE X W a fa) (hb : DE X W (.BoolOp .Or (b :: rest) pos) fb) : DE X W (.BoolOp .Or (a :: b :: rest) pos) (eOr fa fb) := by
  refine PE.weak (pe_orT ha hb) fun σ H Q h => ?_
  refine tG_mono (tG_bind (f := fa) (g := fun d G S1 => match truD S1 d with | some true => R.ok d S1 | some false => fb G S1 | none => .bad) h) fun x H1 q => ?_
  obtain ⟨ρ, G, S, d, g, s, r1, o⟩ := q
  split at o
  · rename_i hk
    exact ⟨true, truD_ok s r1 hk, by rw [if_pos rfl]; exact o ρ H1 _ (.refl _ _) s r1⟩
  · rename_i hk
    exact ⟨false, truD_ok s r1 hk, by rw [if_neg (by decide)]; exact ⟨ρ, G, S, g, s, o⟩⟩
  · exact o.elim
theorem de_not (ha : DE X W a fa) : DE X W (.UnaryOp .Not a pos) (eNot fa) := by
  refine PE.weak (pe_notT ha) fun σ H Q h => ?_
  refine tG_mono (tG_bind (f := fa) (g := fun d G S1 => match truD S1 d with | some k => R.ok (D.bl (!k)) S1 | none => .bad) h) fun x H1 q => ?_
  obtain ⟨ρ, G, S, d, g, s, r1, o⟩ := q
  split at o
  · rename_i k hk
    exact ⟨k, truD_ok s r1 hk, o ρ H1 _ (.refl _ _) s (VR_bl.mpr rfl)⟩
  · exact o.elim
def eIf (t : MT) (f g : ME) : ME := fun G S => (t G S).bind fun b S1 => if b = true then f G S1 else g G S1
theorem de_ifExp (hc : DT X W c ga) (ha : DE X W a fa) (hb : DE X W b fb) : DE X W (.IfExp c a b pos) (eIf ga fa fb) := by
  refine PE.weak (pe_ifExp hc ha hb) fun σ H Q h => ?_
  refine tG_mono (tG_bind (f := ga) (g := fun b G S1 => if b = true then fa G S1 else fb G S1) h) fun x H1 q => ?_
  obtain ⟨ρ, G, S, d, g, s, r1, o⟩ := q
  have r1 : x = d := r1
  subst r1
  by_cases c : x = true
  · rw [if_pos c] at o ⊢
    exact ⟨ρ, G, S, g, s, o⟩
  · rw [if_neg c] at o ⊢
    exact ⟨ρ, G, S, g, s, o⟩
/-- a op b op' c -/
def eChain (m m' : D → D → C D) (fa fb fc : ME) : ME := fun G S => (fa G S).bind fun a S1 => (fb G S1).bind fun b S2 => (m a b S2).bind fun k S3 => match k with
  | .bl true => (fc G S3).bind fun c S4 => m' b c S4
  | .bl false => .ok (.bl false) S3
  | _ => .bad
theorem chain_end {m m' : D → D → C D} {r r' : R2} {σ : St} {H : Hp} {Q : VK}
    (hr : ∀ (ρ : List Addr) (S : ST) (H : Hp) (σ : St) (d e : D) (x y : V) (Q : VK), Sim X.K X.mg ρ S H → VR X.K ρ H d x → VR X.K ρ H e y → OutG X W (rV X) ρ σ H (m d e S) Q → r x y H Q)
    (hr' : ∀ (ρ : List Addr) (S : ST) (H : Hp) (σ : St) (d e : D) (x y : V) (Q : VK), Sim X.K X.mg ρ S H → VR X.K ρ H d x → VR X.K ρ H e y → OutG X W (rV X) ρ σ H (m' d e S) Q → r' x y H Q)
    (h : tE X W (eChain m m' fa fb fc) σ H Q) : tChain r r' (tE X W fa) (tE X W fb) (tE X W fc) σ H Q := by
  refine tG_mono (tG_bind (f := fa) (g := fun a G S1 => (fb G S1).bind fun b S2 => (m a b S2).bind fun k S3 => match k with
    | .bl true => (fc G S3).bind fun c S4 => m' b c S4
    | .bl false => .ok (.bl false) S3
    | _ => .bad) h) fun x H1 q => ?_
  obtain ⟨ρ, G, S, d, g, s, r1, o⟩ := q
  refine ⟨ρ, G, S, g, s, OutG.mono (out_bind (rel := rV X) o) (.refl _ _) fun y H2 q2 => ?_⟩
  obtain ⟨ρ2, S2, e, x2, s2, r2, o2⟩ := q2
  refine hr ρ2 S2 H2 σ d e x y _ s2 (VR.mono x2 r1) r2 (OutG.mono (out_bind (rel := rV X) o2) (.refl _ _) fun z H3 q3 => ?_)
  obtain ⟨ρ3, S3, k, x3, s3, r3, o3⟩ := q3
  cases k <;> first | exact o3.elim | skip
  rename_i b
  refine ⟨b, VR_bl.mp r3, ?_⟩
  cases b with
  | false => rw [if_neg (by decide)]; exact o3 ρ3 H3 _ (.refl _ _) s3 (VR_bl.mpr rfl)
  | true =>
    rw [if_pos rfl]
    refine ⟨ρ3, G, S3, (g.mono x2).mono x3, s3, OutG.mono (out_bind (rel := rV X) o3) (.refl _ _) fun w H4 q4 => ?_⟩
    obtain ⟨ρ4, S4, e4, x4, s4, r4, o4⟩ := q4
    exact hr' ρ4 S4 H4 σ e e4 y w Q s4 (VR.mono (x3.trans x4) r2) r4 o4
theorem de_chain {op op' : CmpOp} {m m' : D → D → C D} (ho : Op2 X W (compareOp op) m) (ho' : Op2 X W (compareOp op') m') (ha : DE X W a fa) (hb : DE X W b fb) (hc : DE X W c fc) (hm : lastMarks [op, op'] [b, c] = false := by with_unfolding_all rfl) :
    DE X W (.Compare a [op, op'] [b, c] pos) (eChain m m' fa fb fc) := by
  obtain ⟨r, h1, h2⟩ := ho
  obtain ⟨r', h1', h2'⟩ := ho'
  exact PE.weak (pe_chain h1 h1' ha hb hc hm) fun σ H Q h => chain_end h2 h2' h
theorem dt_chain {op op' : CmpOp} {m m' : D → D → C D} (ho : Op2 X W (compareOp op) m) (ho' : Op2 X W (compareOp op') m') (ha : DE X W a fa) (hb : DE X W b fb) (hc : DE X W c fc) (hm : lastMarks [op, op'] [b, c] = false := by with_unfolding_all rfl) :
    DT X W (.Compare a [op, op'] [b, c] pos) (tb (eChain m m' fa fb fc)) := by
  obtain ⟨r, h1, h2⟩ := ho
  obtain ⟨r', h1', h2'⟩ := ho'
  exact PT.weak (pt_chain h1 h1' ha hb hc hm) fun σ H Q h => tb_test (fun Q h => chain_end h2 h2' h) h
end
end Mir

namespace Mir
open PySem L2
section
variable {X : Cx} {W : WX} {a b c e : Expr} {es : List Expr} {fa fb fc fe : ME} {ga : MA} {pos p : Pos} {x : Str}

/-! ### argument lists, displays -/
def aNil : MA := fun _ S => .ok [] S
def aCons (f : ME) (g : MA) : MA := fun G S => (f G S).bind fun d S1 => (g G S1).bind fun ds S2 => .ok (d :: ds) S2
theorem da_nil : DA X W [] aNil := PA.weak pa_nil fun σ H Q h => by
  obtain ⟨ρ, G, S, g, s, o⟩ := h
  exact o ρ H [] (.refl _ _) s .nil
theorem da_cons (ha : DE X W e fe) (hr : DA X W es ga) (hs : starEach (e :: es) X.env = (false, eval e X.env) :: starEach es X.env := by rfl) : DA X W (e :: es) (aCons fe ga) := by
  refine PA.weak (pa_cons ha hr hs) fun σ H Q h => ?_
  refine tG_mono (tG_bind (f := fe) (g := fun d G S1 => (ga G S1).bind fun ds S2 => R.ok (d :: ds) S2) h) fun x H1 q => ?_
  obtain ⟨ρ, G, S, d, g, s, r1, o⟩ := q
  refine ⟨ρ, G, S, g, s, OutG.mono (out_bind (rel := rVs X) o) (.refl _ _) fun y H2 q2 => ?_⟩
  obtain ⟨ρ2, S2, e, x2, s2, r2, o2⟩ := q2
  exact o2 ρ2 H2 _ (.refl _ _) s2 (.cons (VR.mono x2 r1) r2)
def eTup (f : MA) : ME := fun G S => (f G S).bind fun ds S1 => if ds.length ≤ SZ then .ok (.tup ds) S1 else .bad
def eLst (f : MA) : ME := fun G S => (f G S).bind fun ds S1 => if ds.length ≤ SZ then allocO (.lst ds) S1 else .bad
theorem de_tup {k} (h : DA X W es ga) : DE X W (.Tuple es k pos) (eTup ga) := by
  refine PE.weak (pe_tup h) fun σ H Q h => ?_
  refine tG_mono (tG_bind (f := ga) (g := fun ds G S1 => if ds.length ≤ SZ then R.ok (D.tup ds) S1 else .bad) h) fun x H1 q => ?_
  obtain ⟨ρ, G, S, d, g, s, r1, o⟩ := q
  have r1 : VRs X.K ρ H1 d x := r1
  split at o
  · rename_i c
    exact ⟨by rw [sizeLine_eq, ← r1.length]; exact c, new_tup s o r1⟩
  · exact o.elim
theorem de_lst (h : DA X W es ga) : DE X W (.List es pos) (eLst ga) := by
  refine PE.weak (pe_lst h) fun σ H Q h => ?_
  refine tG_mono (tG_bind (f := ga) (g := fun ds G S1 => if ds.length ≤ SZ then allocO (.lst ds) S1 else .bad) h) fun x H1 q => ?_
  obtain ⟨ρ, G, S, d, g, s, r1, o⟩ := q
  have r1 : VRs X.K ρ H1 d x := r1
  split at o
  · rename_i c
    exact ⟨by rw [sizeLine_eq, ← r1.length]; exact c, alloc_lst s o r1⟩
  · exact o.elim

/-! ### calls of built-ins -/
def Bi (X : Cx) (W : WX) (f : Value) (m : List D → C D) : Prop :=
  ∃ r : List V → Hp → VK → Prop, CallR X f r ∧ ∀ (ρ : List Addr) (S : ST) (H : Hp) (σ : St) (ds : List D) (xs : List V) (Q : VK), Sim X.K X.mg ρ S H → VRs X.K ρ H ds xs → OutG X W (rV X) ρ σ H (m ds S) Q → r xs H Q
def eCall (m : List D → C D) (f : MA) : ME := fun G S => (f G S).bind fun ds S1 => m ds S1
theorem call_end {m : List D → C D} {r : List V → Hp → VK → Prop} {σ : St} {H : Hp} {Q : VK}
    (hr : ∀ (ρ : List Addr) (S : ST) (H : Hp) (σ : St) (ds : List D) (xs : List V) (Q : VK), Sim X.K X.mg ρ S H → VRs X.K ρ H ds xs → OutG X W (rV X) ρ σ H (m ds S) Q → r xs H Q)
    (h : tE X W (eCall m ga) σ H Q) : tCB r (tA X W ga) σ H Q := by
  refine tG_mono (tG_bind (f := ga) (g := fun ds G S1 => m ds S1) h) fun x H1 q => ?_
  obtain ⟨ρ, G, S, d, g, s, r1, o⟩ := q
  exact hr ρ S H1 σ d x Q s r1 o
theorem de_callB {id : String} {m : List D → C D} (hc : Bi X W (.builtin id) m) (hg : Gl X x) (hm : X.mg x = none) (hv : bootBuiltins x = some (.builtin id)) (ha : DA X W (e :: es) ga) (hn : x ≠ "__name__" := by decide) (hdb : (x == ("__debug__" : Str)) = false := by decide)
    (he : starEach (e :: es) X.env = (false, eval e X.env) :: starEach es X.env := by rfl) (hpl : (backTo pos (starEach es X.env)).any (·.1) = false := by rfl) : DE X W (.Call (.Name x p) (e :: es) [] pos) (eCall m ga) := by
  obtain ⟨r, h1, h2⟩ := hc
  exact PE.weak (pe_callB h1 hg hm hv ha hn hdb he hpl) fun σ H Q h => call_end h2 h
theorem de_callTy {T : String} {m : List D → C D} (hc : Bi X W (.type T) m) (hg : Gl X x) (hm : X.mg x = none) (hv : bootBuiltins x = some (.type T)) (ha : DA X W (e :: es) ga) (hn : x ≠ "__name__" := by decide) (hdb : (x == ("__debug__" : Str)) = false := by decide)
    (he : starEach (e :: es) X.env = (false, eval e X.env) :: starEach es X.env := by rfl) (hpl : (backTo pos (starEach es X.env)).any (·.1) = false := by rfl) : DE X W (.Call (.Name x p) (e :: es) [] pos) (eCall m ga) := by
  obtain ⟨r, h1, h2⟩ := hc
  exact PE.weak (pe_callTy h1 hg hm hv ha hn hdb he hpl) fun σ H Q h => call_end h2 h
theorem Bi.or {f : Value} {m m1 m2 : List D → C D} (h1 : Bi X W f m1) (h2 : Bi X W f m2) (hm : ∀ ds S, m ds S = m1 ds S ∨ m ds S = m2 ds S) : Bi X W f m := by
  obtain ⟨r, a1, b1⟩ := h1
  obtain ⟨r', a2, b2⟩ := h2
  refine ⟨_, a1.or a2, fun ρ S H σ ds xs Q s r1 o => ?_⟩
  rcases hm ds S with k | k
  · rw [k] at o; exact .inl (b1 ρ S H σ ds xs Q s r1 o)
  · rw [k] at o; exact .inr (b2 ρ S H σ ds xs Q s r1 o)
section
variable {ρ : List Addr} {H : Hp} {K : PySem.W.Frag} {xs : List V} {d d' : D}
theorem VRs.one (h : VRs K ρ H [d] xs) : ∃ v, xs = [v] ∧ VR K ρ H d v := by
  obtain ⟨v, r, rfl, h1, h2⟩ := h.cons_l
  rw [h2.nil_l]
  exact ⟨v, rfl, h1⟩
theorem VRs.two (h : VRs K ρ H [d, d'] xs) : ∃ v w, xs = [v, w] ∧ VR K ρ H d v ∧ VR K ρ H d' w := by
  obtain ⟨v, r, rfl, h1, h2⟩ := h.cons_l
  obtain ⟨w, rfl, h3⟩ := h2.one
  exact ⟨v, w, rfl, h1, h3⟩
end
def bAbs : List D → C D := fun ds S => match ds with | [.int i] => .ok (.int (if i < 0 then -i else i)) S | _ => .bad
theorem bi_abs : Bi X W (.builtin "abs") bAbs := by
  refine ⟨_, call_abs, fun ρ S H σ ds xs Q s r o => ?_⟩
  unfold bAbs at o
  split at o
  · obtain ⟨v, rfl, r1⟩ := r.one
    rw [VR_int] at r1; subst r1
    exact ⟨_, rfl, o ρ H _ (.refl _ _) s (VR_int.mpr rfl)⟩
  · exact o.elim
def bInt : List D → C D := fun ds S => match ds with | [.int i] => .ok (.int i) S | [.bl k] => .ok (.int (if k = true then 1 else 0)) S | _ => .bad
theorem bi_int : Bi X W (.type "int") bInt := by
  refine ⟨_, call_int1, fun ρ S H σ ds xs Q s r o => ?_⟩
  unfold bInt at o
  split at o
  · obtain ⟨v, rfl, r1⟩ := r.one
    rw [VR_int] at r1; subst r1
    exact .inl ⟨_, rfl, o ρ H _ (.refl _ _) s (VR_int.mpr rfl)⟩
  · obtain ⟨v, rfl, r1⟩ := r.one
    rw [VR_bl] at r1; subst r1
    exact .inr ⟨_, rfl, o ρ H _ (.refl _ _) s (VR_int.mpr rfl)⟩
  · exact o.elim
def bStr : List D → C D := fun ds S => match ds with | [.int i] => if lim64 i = true then .ok (.str (toString i)) S else .bad | _ => .bad
theorem bi_str : Bi X W (.type "str") bStr := by
  refine ⟨_, call_str_int, fun ρ S H σ ds xs Q s r o => ?_⟩
  unfold bStr at o
  split at o
  · rename_i i
    split at o
    · rename_i c
      obtain ⟨v, rfl, r1⟩ := r.one
      rw [VR_int] at r1; subst r1
      rw [lim64_iff] at c
      exact ⟨_, rfl, Nat.lt_of_lt_of_le (PySem.Flt.log2_lt_of (by decide : 0 < 64) (show i.natAbs < 2 ^ 64 by omega)) (by decide), o ρ H _ (.refl _ _) s (VR_str.mpr rfl)⟩
    · exact o.elim
  · exact o.elim
def lenD (S : ST) : D → Option Nat
  | .str z => if z.length ≤ SZ then some z.length else none
  | .ref n => match S[n]? with | some (.lst ds) => some ds.length | some (.dk kvs) => some kvs.length | _ => none
  | .tup ds => some ds.length
  | .fl ds => some ds.length
  | _ => none
def bLen : List D → C D := fun ds S => match ds with | [d] => (match lenD S d with | some n => .ok (.int n) S | none => .bad) | _ => .bad
theorem bi_len : Bi X W (.builtin "len") bLen := by
  refine ⟨_, call_len.or call_lenD, fun ρ S H σ ds xs Q s r o => ?_⟩
  unfold bLen at o
  split at o
  · rename_i d
    obtain ⟨v, rfl, r1⟩ := r.one
    split at o
    · rename_i n hn
      have o' := o ρ H _ (.refl _ _) s (VR_int.mpr rfl)
      cases d with
      | str z =>
        rw [VR_str] at r1; subst r1
        simp only [lenD] at hn
        split at hn
        · rename_i hz
          cases hn
          exact .inl ⟨_, _, rfl, ⟨by rw [sizeLine_eq]; exact hz, rfl⟩, o'⟩
        · cases hn
      | tup ds =>
        obtain ⟨p, vs, rfl, q, v1⟩ := VR_tup.mp r1
        cases hn
        exact .inl ⟨_, _, rfl, .inr ⟨vs, q, v1.length⟩, o'⟩
      | fl ds =>
        obtain ⟨p, vs, rfl, q, v1⟩ := VR_fl.mp r1
        cases hn
        exact .inl ⟨_, _, rfl, .inl ⟨vs, q.sql, v1.length⟩, o'⟩
      | ref m =>
        unfold lenD at hn
        dsimp only at hn
        split at hn
        · rename_i h1
          cases hn
          obtain ⟨p, rfl, p1, vs, w1, v1⟩ := s.ref r1 h1
          exact .inl ⟨_, _, rfl, .inl ⟨vs, SqL.of w1, v1.length⟩, o'⟩
        · rename_i kvs h1
          cases hn
          obtain ⟨p, rfl, p1, ws, w1, v1⟩ := s.ref r1 h1
          have e := congrArg List.length v1.1
          rw [List.length_map, List.length_map] at e
          refine .inr ⟨_, ws, rfl, w1, ?_⟩
          rw [← e]; exact o'
        · cases hn
      | _ => cases hn
    · exact o.elim
  · exact o.elim
def bMax2 : List D → C D := fun ds S => match ds with | [.int i, .int j] => .ok (.int (max i j)) S | _ => .bad
theorem bi_max2 (hc : X.calm = true) : Bi X W (.builtin "max") bMax2 := by
  refine ⟨_, call_max2 hc, fun ρ S H σ ds xs Q s r o => ?_⟩
  unfold bMax2 at o
  split at o
  · rename_i i j
    obtain ⟨v, w, rfl, r1, r2⟩ := r.two
    rw [VR_int] at r1 r2; subst r1 r2
    refine ⟨i, j, rfl, ?_⟩
    have := o ρ H _ (.refl _ _) s (VR_int.mpr rfl)
    rwa [show (if j > i then j else i) = max i j by split <;> omega]
  · exact o.elim
def bMin2 : List D → C D := fun ds S => match ds with | [.int i, .int j] => .ok (.int (min i j)) S | _ => .bad
theorem bi_min2 (hc : X.calm = true) : Bi X W (.builtin "min") bMin2 := by
  refine ⟨_, call_min2 hc, fun ρ S H σ ds xs Q s r o => ?_⟩
  unfold bMin2 at o
  split at o
  · rename_i i j
    obtain ⟨v, w, rfl, r1, r2⟩ := r.two
    rw [VR_int] at r1 r2; subst r1 r2
    refine ⟨i, j, rfl, ?_⟩
    have := o ρ H _ (.refl _ _) s (VR_int.mpr rfl)
    rwa [show (if j < i then j else i) = min i j by split <;> omega]
  · exact o.elim
/-- lists of ints -/
def intsD : List D → Option (List Int)
  | [] => some []
  | .int i :: r => (intsD r).map (i :: ·)
  | _ :: _ => none
theorem intsD_eq : ∀ {ds : List D} {ns : List Int}, intsD ds = some ns → ds = ns.map D.int
  | [], ns, h => by cases h; rfl
  | d :: r, ns, h => by
    cases d with
    | int i =>
      unfold intsD at h
      rw [Option.map_eq_some_iff] at h
      obtain ⟨ms, h1, rfl⟩ := h
      rw [intsD_eq h1]; rfl
    | _ => cases h
@[simp] theorem intsD_map : ∀ ns : List Int, intsD (ns.map D.int) = some ns
  | [] => rfl
  | n :: ns => by simp [intsD, intsD_map ns]
/-- the items of a list (no tuple) -/
def D.litems (S : ST) : D → Option (List D)
  | .fl ds => some ds
  | .ref n => match S[n]? with | some (.lst ds) => some ds | _ => none
  | _ => none
theorem litems_ok {ρ : List Addr} {S : ST} {H : Hp} {d : D} {v : V} {ds : List D} (s : Sim X.K X.mg ρ S H) (r : VR X.K ρ H d v) (h : d.litems S = some ds) :
    ∃ p vs, v = .ref p ∧ SqL X.K H p vs ∧ VRs X.K ρ H ds vs := by
  cases d with
  | fl ds =>
    cases h
    obtain ⟨p, vs, e, q, r⟩ := VR_fl.mp r
    exact ⟨p, vs, e, q.sql, r⟩
  | ref n =>
    unfold D.litems at h
    dsimp only at h
    split at h
    · rename_i h1
      cases h
      obtain ⟨p, e, p1, vs, w1, v1⟩ := s.ref r h1
      exact ⟨p, vs, e, SqL.of w1, v1⟩
    · cases h
  | _ => cases h
def bSum : List D → C D := fun ds S => match ds with | [d] => (match (d.litems S).bind intsD with | some ns => .ok (.int ns.sum) S | none => .bad) | _ => .bad
theorem bi_sum (hc : X.calm = true) : Bi X W (.builtin "sum") bSum := by
  refine ⟨_, cr_sum hc, fun ρ S H σ ds xs Q s r o => ?_⟩
  unfold bSum at o
  split at o
  · obtain ⟨v, rfl, r1⟩ := r.one
    split at o
    · rename_i ns hn
      rw [Option.bind_eq_some_iff] at hn
      obtain ⟨es, h1, h2⟩ := hn
      obtain ⟨p, vs, rfl, q, v1⟩ := litems_ok s r1 h1
      rw [intsD_eq h2] at v1
      rw [v1.ints] at q
      exact ⟨p, ns, rfl, q, o ρ H _ (.refl _ _) s (VR_int.mpr rfl)⟩
    · exact o.elim
  · exact o.elim
def bList : List D → C D := fun ds S => match ds with | [d] => (match d.items S with | some es => allocO (.lst es) S | none => .bad) | _ => .bad
theorem bi_list : Bi X W (.type "list") bList := by
  refine ⟨_, call_list_of, fun ρ S H σ ds xs Q s r o => ?_⟩
  unfold bList at o
  split at o
  · obtain ⟨v, rfl, r1⟩ := r.one
    split at o
    · rename_i es he
      obtain ⟨p, vs, rfl, q, v1⟩ := items_ok s r1 he
      exact ⟨p, vs, rfl, q, alloc_lst s o v1⟩
    · exact o.elim
  · exact o.elim
def bTuple : List D → C D := fun ds S => match ds with | [d] => (match d.items S with | some es => .ok (.tup es) S | none => .bad) | _ => .bad
theorem bi_tuple : Bi X W (.type "tuple") bTuple := by
  refine ⟨_, call_tuple_of, fun ρ S H σ ds xs Q s r o => ?_⟩
  unfold bTuple at o
  split at o
  · rename_i d
    obtain ⟨v, rfl, r1⟩ := r.one
    split at o
    · rename_i es he
      cases d with
      | tup ds =>
        cases he
        obtain ⟨p, vs, rfl, q, v1⟩ := VR_tup.mp r1
        exact ⟨p, vs, rfl, .inr ⟨q, o ρ H _ (.refl _ _) s r1⟩⟩
      | fl ds =>
        obtain ⟨p, vs, rfl, q, v1⟩ := litems_ok (ds := es) s r1 he
        exact ⟨p, vs, rfl, .inl ⟨q, new_tup s o v1⟩⟩
      | ref n =>
        obtain ⟨p, vs, rfl, q, v1⟩ := litems_ok (ds := es) s r1 he
        exact ⟨p, vs, rfl, .inl ⟨q, new_tup s o v1⟩⟩
      | _ => cases he
    · exact o.elim
  · exact o.elim

/-! ### methods of built-in types -/
def Bm (X : Cx) (W : WX) (id : String) (m : D → List D → C D) : Prop :=
  ∃ r : V → List V → Hp → VK → Prop, MtR X id r ∧ ∀ (ρ : List Addr) (S : ST) (H : Hp) (σ : St) (d : D) (ds : List D) (x : V) (xs : List V) (Q : VK), Sim X.K X.mg ρ S H → VR X.K ρ H d x → VRs X.K ρ H ds xs → OutG X W (rV X) ρ σ H (m d ds S) Q → r x xs H Q
def tyD (T : String) (S : ST) : D → Bool
  | .str _ => T == "str"
  | .fl _ => T == "list"
  | .ref n => match S[n]? with | some (.lst _) => T == "list" | some (.dk _) => T == "dict" | some (.dt _) => T == "dict" | _ => false
  | _ => false
theorem tyD_ok {T : String} {ρ : List Addr} {S : ST} {H : Hp} {d : D} {v : V} (s : Sim X.K X.mg ρ S H) (r : VR X.K ρ H d v) (h : tyD T S d = true) : tyV X.K T v H := by
  cases d with
  | str z => rw [VR_str] at r; subst r; exact beq_iff_eq.mp h
  | fl ds =>
    obtain ⟨p, vs, rfl, q, v1⟩ := VR_fl.mp r
    exact .inl ⟨beq_iff_eq.mp h, vs, q.sql⟩
  | ref n =>
    unfold tyD at h
    dsimp only at h
    split at h
    · rename_i h1
      obtain ⟨p, rfl, p1, vs, w1, v1⟩ := s.ref r h1
      exact .inl ⟨beq_iff_eq.mp h, vs, SqL.of w1⟩
    · rename_i h1
      obtain ⟨p, rfl, p1, vs, w1, v1⟩ := s.ref r h1
      exact .inr (.inr (.inl ⟨beq_iff_eq.mp h, .inl ⟨_, w1⟩⟩))
    · rename_i h1
      obtain ⟨p, rfl, p1, vs, w1, v1⟩ := s.ref r h1
      exact .inr (.inr (.inl ⟨beq_iff_eq.mp h, .inr ⟨_, w1⟩⟩))
    · cases h
  | _ => cases h
def eBm (T : String) (m : D → List D → C D) (f : ME) (g : MA) : ME := fun G S => (f G S).bind fun d S1 => if tyD T S1 d = true then (g G S1).bind fun ds S2 => m d ds S2 else .bad
theorem de_bm {T id : String} {name : Str} {apos cpos : Pos} {o : Expr} {fo : ME} {m : D → List D → C D} (hm : Bm X W id m) (pa : PlainAttrs T) (slot : Slot T name id) (hty : typeOf (.builtin id) = pure (.type "method_descriptor")) (ho : DE X W o fo) (ha : DA X W (e :: es) ga)
    (hbase : attributeBase o name X.env (eval o X.env) = eval o X.env := by rfl)
    (hfew : ((backTo cpos (starEach (e :: es) X.env)).all (fun x => !x.1) && (backToKw cpos (keywordEach [] X.env)).all (fun x => x.1.isSome) && decide ((e :: es).length + ([] : List Keyword).length + (if ([] : List Keyword).isEmpty then 0 else 1) < 30)) = true := by rfl)
    (hline : (apos.endLine == cpos.line) = true := by rfl) (hs : starEach (e :: es) X.env = (false, eval e X.env) :: starEach es X.env := by rfl) (hplain : (backTo cpos (starEach es X.env)).any (·.1) = false := by rfl) :
    DE X W (.Call (.Attribute o name apos) (e :: es) [] cpos) (eBm T m fo ga) := by
  obtain ⟨r, h1, h2⟩ := hm
  refine PE.weak (pe_bm pa slot hty h1 ho ha hbase hfew hline hs hplain) fun σ H Q h => ?_
  refine tG_mono (tG_bind (f := fo) (g := fun d G S1 => if tyD T S1 d = true then (ga G S1).bind fun ds S2 => m d ds S2 else .bad) h) fun x H1 q => ?_
  obtain ⟨ρ, G, S, d, g, s, r1, o⟩ := q
  split at o
  · rename_i c
    refine ⟨tyD_ok s r1 c, ρ, G, S, g, s, OutG.mono (out_bind (rel := rVs X) o) (.refl _ _) fun y H2 q2 => ?_⟩
    obtain ⟨ρ2, S2, e, x2, s2, r2, o2⟩ := q2
    exact h2 ρ2 S2 H2 σ d e x y Q s2 (VR.mono x2 r1) r2 o2
  · exact o.elim
def eBm0 (T : String) (m : D → List D → C D) (f : ME) : ME := fun G S => (f G S).bind fun d S1 => if tyD T S1 d = true then m d [] S1 else .bad
theorem de_bm0 {T id : String} {name : Str} {apos cpos : Pos} {o : Expr} {fo : ME} {m : D → List D → C D} (hm : Bm X W id m) (pa : PlainAttrs T) (slot : Slot T name id) (hty : typeOf (.builtin id) = pure (.type "method_descriptor")) (ho : DE X W o fo)
    (hbase : attributeBase o name X.env (eval o X.env) = eval o X.env := by rfl) (hline : (apos.endLine == cpos.line) = true := by rfl) : DE X W (.Call (.Attribute o name apos) [] [] cpos) (eBm0 T m fo) := by
  obtain ⟨r, h1, h2⟩ := hm
  refine PE.weak (pe_bm0 pa slot hty h1 ho hbase hline) fun σ H Q h => ?_
  refine tG_mono (tG_bind (f := fo) (g := fun d G S1 => if tyD T S1 d = true then m d [] S1 else .bad) h) fun x H1 q => ?_
  obtain ⟨ρ, G, S, d, g, s, r1, o⟩ := q
  split at o
  · rename_i c
    exact ⟨tyD_ok s r1 c, h2 ρ S H1 σ d [] x [] Q s r1 .nil o⟩
  · exact o.elim
/-- a list in the store, for a method that writes it -/
def withL (d : D) (S : ST) (k : Nat → List D → R D) : R D := match d with
  | .ref n => match S[n]? with | some (.lst ds) => k n ds | _ => .bad
  | _ => .bad
theorem withL_ok {ρ : List Addr} {S : ST} {H : Hp} {σ : St} {d : D} {x : V} {Q : VK} {k : Nat → List D → R D} (s : Sim X.K X.mg ρ S H) (r : VR X.K ρ H d x) (o : OutG X W (rV X) ρ σ H (withL d S k) Q) :
    ∃ n ds a vs, x = .ref a ∧ ρ[n]? = some a ∧ S[n]? = some (.lst ds) ∧ H a = some (.lst vs) ∧ VRs X.K ρ H ds vs ∧ OutG X W (rV X) ρ σ H (k n ds) Q := by
  unfold withL at o
  split at o
  · split at o
    · rename_i h1
      obtain ⟨a, e, p1, vs, w1, v1⟩ := s.ref r h1
      exact ⟨_, _, a, vs, e, p1, h1, w1, v1, o⟩
    · exact o.elim
  · exact o.elim
/-- the list is written, a value given -/
theorem write_lst {ρ : List Addr} {S : ST} {H : Hp} {σ : St} {n : Nat} {a : Addr} {es : List D} {vs ws : List V} {d : D} {v : V} {Q : VK} (s : Sim X.K X.mg ρ S H) (p1 : ρ[n]? = some a) (w1 : H a = some (.lst vs))
    (o : OutG X W (rV X) ρ σ H (.ok d (S.set n (.lst es))) Q) (re : VRs X.K ρ H es ws) (rd : VR X.K ρ H d v) : Q v (upd H a (.lst ws)) := by
  have hm : Mut (H a) := by rw [w1]; exact True.intro
  exact o ρ _ v (.write hm) (s.write p1 hm ⟨ws, upd_same, re.mono (.write hm)⟩) (VR.mono (.write hm) rd)
def bAppend : D → List D → C D := fun d ds S => match ds with
  | [y] => withL d S fun n es => if es.length < SZ then .ok .non (S.set n (.lst (es ++ [y]))) else .bad
  | _ => .bad
theorem bm_append : Bm X W "list.append" bAppend := by
  refine ⟨_, mt_append, fun ρ S H σ d ds x xs Q s r1 r2 o => ?_⟩
  unfold bAppend at o
  split at o
  · obtain ⟨v, rfl, r3⟩ := r2.one
    obtain ⟨n, es, a, vs, rfl, p1, h1, w1, v1, o⟩ := withL_ok s r1 o
    split at o
    · rename_i c
      exact ⟨a, vs, v, rfl, rfl, w1, by rw [sizeLine_eq, ← v1.length]; exact c, write_lst s p1 w1 o (v1.append (.cons r3 .nil)) (VR_non.mpr rfl)⟩
    · exact o.elim
  · exact o.elim
def bPop : D → List D → C D := fun d ds S => match ds with
  | [] => withL d S fun n es => match es[es.length - 1]? with | some y => .ok y (S.set n (.lst es.dropLast)) | none => .bad
  | _ => .bad
theorem bm_pop : Bm X W "list.pop" bPop := by
  refine ⟨_, mt_pop, fun ρ S H σ d ds x xs Q s r1 r2 o => ?_⟩
  unfold bPop at o
  split at o
  · obtain ⟨n, es, a, vs, rfl, p1, h1, w1, v1, o⟩ := withL_ok s r1 o
    split at o
    · rename_i y c
      obtain ⟨v, e2, r3⟩ := v1.get c
      exact ⟨a, vs, v, rfl, r2.nil_l, w1, by rw [← v1.length]; exact e2, write_lst s p1 w1 o v1.dropLast r3⟩
    · exact o.elim
  · exact o.elim
def bPopAt : D → List D → C D := fun d ds S => match ds with
  | [.int i] => withL d S fun n es => match ixN es.length i with
    | some k => (match es[k]? with | some y => if es.length ≤ SZ then .ok y (S.set n (.lst (es.eraseIdx k))) else .bad | none => .bad)
    | none => .bad
  | _ => .bad
theorem bm_popAt : Bm X W "list.pop" bPopAt := by
  refine ⟨_, mt_popAt, fun ρ S H σ d ds x xs Q s r1 r2 o => ?_⟩
  unfold bPopAt at o
  split at o
  · rename_i i
    obtain ⟨w, rfl, r4⟩ := r2.one
    rw [VR_int] at r4; subst r4
    obtain ⟨n, es, a, vs, rfl, p1, h1, w1, v1, o⟩ := withL_ok s r1 o
    split at o
    · rename_i k hk
      split at o
      · rename_i y c
        split at o
        · rename_i hl
          obtain ⟨v, e2, r3⟩ := v1.get c
          obtain ⟨q1, q2, q3, q4⟩ := ixN_seq hk
          simp only [SZ] at hl
          exact ⟨a, vs, i, k, v, rfl, rfl, w1, by omega, by omega, by rw [← v1.length]; exact q1, e2, write_lst s p1 w1 o (v1.eraseIdx k) r3⟩
        · exact o.elim
      · exact o.elim
    · exact o.elim
  · exact o.elim
def bInsert : D → List D → C D := fun d ds S => match ds with
  | [.int i, y] => withL d S fun n es => if es.length < SZ ∧ 0 ≤ i ∧ i < 16777216 then .ok .non (S.set n (.lst (es.take i.toNat ++ [y] ++ es.drop i.toNat))) else .bad
  | _ => .bad
theorem bm_insert : Bm X W "list.insert" bInsert := by
  refine ⟨_, mt_insert, fun ρ S H σ d ds x xs Q s r1 r2 o => ?_⟩
  unfold bInsert at o
  split at o
  · rename_i i y
    obtain ⟨w, v, rfl, r4, r3⟩ := r2.two
    rw [VR_int] at r4; subst r4
    obtain ⟨n, es, a, vs, rfl, p1, h1, w1, v1, o⟩ := withL_ok s r1 o
    split at o
    · rename_i c
      exact ⟨a, vs, i, v, rfl, rfl, w1, by rw [sizeLine_eq, ← v1.length]; exact c.1, c.2.1, by omega, write_lst s p1 w1 o (((v1.take _).append (.cons r3 .nil)).append (v1.drop _)) (VR_non.mpr rfl)⟩
    · exact o.elim
  · exact o.elim
/-- list.remove of an int -/
def idxI (ns : List Int) (k : Int) : Option Nat := ns.findIdx? fun n => decide (n = k)
def bRemove : D → List D → C D := fun d ds S => match ds with
  | [.int k] => withL d S fun n es => match intsD es with
    | some ns => (match idxI ns k with | some j => .ok .non (S.set n (.lst ((ns.eraseIdx j).map D.int))) | none => .bad)
    | none => .bad
  | _ => .bad
theorem bm_remove : Bm X W "list.remove" bRemove := by
  refine ⟨_, mt_remove, fun ρ S H σ d ds x xs Q s r1 r2 o => ?_⟩
  unfold bRemove at o
  split at o
  · rename_i k
    obtain ⟨w, rfl, r4⟩ := r2.one
    rw [VR_int] at r4; subst r4
    obtain ⟨n, es, a, vs, rfl, p1, h1, w1, v1, o⟩ := withL_ok s r1 o
    split at o
    · rename_i ns hn
      split at o
      · rename_i j hj
        have e := intsD_eq hn
        subst e
        have ev := v1.ints
        subst ev
        unfold idxI at hj
        rw [List.findIdx?_eq_some_iff_getElem] at hj
        obtain ⟨hl, e1, e2⟩ := hj
        refine ⟨a, ns, k, j, rfl, rfl, w1, ?_, fun m hm z => ?_, write_lst s p1 w1 o (VRs.of_ints _) (VR_non.mpr rfl)⟩
        · rw [List.getElem?_eq_getElem hl]
          simpa using e1
        · have hml : m < ns.length := by omega
          have := e2 m hm
          rw [List.getElem?_eq_getElem hml] at z
          simp at this z
          exact this z
      · exact o.elim
    · exact o.elim
  · exact o.elim
def bExtend : D → List D → C D := fun d ds S => match ds with
  | [.ref m] => withL d S fun n es => match S[m]? with | some (.lst zs) => if es.length + zs.length ≤ SZ then .ok .non (S.set n (.lst (es ++ zs))) else .bad | _ => .bad
  | _ => .bad
theorem bm_extend : Bm X W "list.extend" bExtend := by
  refine ⟨_, mt_extend, fun ρ S H σ d ds x xs Q s r1 r2 o => ?_⟩
  unfold bExtend at o
  split at o
  · obtain ⟨w, rfl, r4⟩ := r2.one
    obtain ⟨n, es, a, vs, rfl, p1, h1, w1, v1, o⟩ := withL_ok s r1 o
    split at o
    · rename_i h2
      obtain ⟨b, rfl, p2, ws, w2, v2⟩ := s.ref r4 h2
      split at o
      · rename_i c
        exact ⟨a, b, vs, ws, rfl, rfl, w1, w2, by rw [sizeLine_eq, ← v1.length, ← v2.length]; exact c, write_lst s p1 w1 o (v1.append v2) (VR_non.mpr rfl)⟩
      · exact o.elim
    · exact o.elim
  · exact o.elim
end
end Mir

namespace Mir
open PySem L2
theorem ofString_inj {a b : String} : (Str.ofString a = Str.ofString b) ↔ a = b := by
  constructor
  · intro h
    rw [Str.ofString_eq_toList, Str.ofString_eq_toList] at h
    have h1 : (a.toList.map Char.toNat) = b.toList.map Char.toNat := by
      have := congrArg (fun x : Str => x.cps.toList) h
      simpa using this
    have h2 : a.toList = b.toList := (List.map_inj_right fun x y e => Char.toNat_inj.mp e).mp h1
    rw [← String.ofList_toList (s := a), ← String.ofList_toList (s := b), h2]
  · exact fun h => by rw [h]

/-! ### statements -/
def R.s {α : Type} (r : R α) (G : GE) (k : α → ST → RS) : RS := match r with
  | .ok a S => k a S
  | .exc c fs S => .exc c fs G S
  | .bad => .bad
@[simp] theorem R.s_ok {α : Type} (a : α) (S : ST) (G : GE) (k : α → ST → RS) : (R.ok a S).s G k = k a S := rfl
@[simp] theorem R.s_exc {α : Type} (c fs) (S : ST) (G : GE) (k : α → ST → RS) : (R.exc c fs S : R α).s G k = .exc c fs G S := rfl
@[simp] theorem R.s_bad {α : Type} (G : GE) (k : α → ST → RS) : (R.bad : R α).s G k = .bad := rfl
section
variable {X : Cx} {W : WX} {a b c e : Expr} {es : List Expr} {fa fb fc fe : ME} {ga : MA} {pos p : Pos} {x : Str} {α β : Type} {rel : List Addr → Hp → α → β → Prop}
/-- an expression, then the rest of a statement -/
theorem tS_bind {f : GE → ST → R α} {k : α → GE → ST → RS} {Dn : Ends} {σ : St} {H : Hp} (h : tS X W (fun G S => (f G S).s G fun a S1 => k a G S1) Dn σ H) :
    tG X W rel f σ H fun v H1 => ∃ ρ G S a, GR X.K ρ H1 G σ ∧ Sim X.K X.mg ρ S H1 ∧ rel ρ H1 a v ∧ OutS X W ρ H1 (k a G S) Dn := by
  obtain ⟨ρ, G, S, g, s, o⟩ := h
  refine ⟨ρ, G, S, g, s, ?_⟩
  dsimp only at o
  cases e : f G S with
  | ok a S1 =>
    rw [e] at o
    exact fun ρ1 H1 v x1 s1 r1 => ⟨ρ1, G, S1, a, g.mono x1, s1, r1, OutS.mono (r := k a G S1) o x1⟩
  | exc c fs S1 =>
    rw [e] at o
    exact fun ρ1 H1 cls dx x1 s1 r1 => o ρ1 H1 σ cls dx x1 s1 (g.mono x1) r1
  | bad =>
    rw [e] at o
    exact o
theorem outS_bind {ρ : List Addr} {σ : St} {H : Hp} {r : R α} {G : GE} {k : α → ST → RS} {Dn : Ends} (g : GR X.K ρ H G σ) (o : OutS X W ρ H (r.s G k) Dn) :
    OutG X W rel ρ σ H r fun v H1 => ∃ ρ1 S1 a, Ext ρ H ρ1 H1 ∧ Sim X.K X.mg ρ1 S1 H1 ∧ rel ρ1 H1 a v ∧ OutS X W ρ1 H1 (k a S1) Dn := by
  cases r with
  | ok a S1 => exact fun ρ1 H1 v x1 s1 r1 => ⟨ρ1, S1, a, x1, s1, r1, OutS.mono (r := k a S1) o x1⟩
  | exc c fs S1 => exact fun ρ1 H1 cls dx x1 s1 r1 => o ρ1 H1 σ cls dx x1 s1 (g.mono x1) r1
  | bad => exact o
/-- behind a statement that goes on -/
theorem outS_nx {ρ : List Addr} {σ : St} {H : Hp} {G : GE} {S : ST} {Dn : Ends} (g : GR X.K ρ H G σ) (s : Sim X.K X.mg ρ S H) (o : OutS X W ρ H (.nx G S) Dn) : Dn.nx σ H := o ρ H σ (.refl _ _) s g
def sNil : MS := fun G S => .nx G S
def sSeq (f g : MS) : MS := fun G S => match f G S with
  | .nx G' S' => g G' S'
  | r => r
theorem dss_nil : DSs X W [] sNil := PSs.weak pss_nil fun D σ H h => by
  obtain ⟨ρ, G, S, g, s, o⟩ := h
  exact outS_nx g s o
theorem dss_one {st : Stmt} {f : MS} (h : DS X W st f) : DSs X W [st] f := pss_one h
theorem tS_seq {f g : MS} {Dn : Ends} {σ : St} {H : Hp} (h : tS X W (sSeq f g) Dn σ H) : tS X W f { Dn with nx := tS X W g Dn } σ H := by
  obtain ⟨ρ, G, S, gr, s, o⟩ := h
  refine ⟨ρ, G, S, gr, s, ?_⟩
  unfold sSeq at o
  cases e : f G S with
  | nx G' S' =>
    rw [e] at o
    exact fun ρ1 H1 σ1 x1 s1 g1 => ⟨ρ1, G', S', g1, s1, o.mono x1⟩
  | rt d S' => rw [e] at o; exact o
  | bk G' S' => rw [e] at o; exact o
  | ct G' S' => rw [e] at o; exact o
  | exc c fs G' S' => rw [e] at o; exact o
  | bad => rw [e] at o; exact o
theorem dss_cons {st : Stmt} {rest : List Stmt} {f g : MS} (h1 : DS X W st f) (h2 : DSs X W rest g) : DSs X W (st :: rest) (sSeq f g) := PSs.weak (pss_cons h1 h2) fun D σ H h => tS_seq h
def sBreak : MS := fun G S => .bk G S
def sCont : MS := fun G S => .ct G S
theorem ds_pass : DS X W (.Pass pos) sNil := PS.weak ps_pass fun D σ H h => by
  obtain ⟨ρ, G, S, g, s, o⟩ := h
  exact outS_nx g s o
theorem ds_break : DS X W (.Break pos) sBreak := PS.weak ps_break fun D σ H h => by
  obtain ⟨ρ, G, S, g, s, o⟩ := h
  exact o ρ H σ (.refl _ _) s g
theorem ds_continue : DS X W (.Continue pos) sCont := PS.weak ps_continue fun D σ H h => by
  obtain ⟨ρ, G, S, g, s, o⟩ := h
  exact o ρ H σ (.refl _ _) s g
theorem ds_doc {x j pos pos'} : DS X W (.Expr (.Constant (.str x) j pos) pos') sNil := PS.weak ps_doc fun D σ H h => by
  obtain ⟨ρ, G, S, g, s, o⟩ := h
  exact outS_nx g s o
def sExpr (f : ME) : MS := fun G S => (f G S).s G fun _ S1 => .nx G S1
theorem ds_expr (he : DE X W e fe) (hs : swapsWith e none pos.line X.env = pure false := by rfl) : DS X W (.Expr e pos) (sExpr fe) := PS.weak (ps_expr he hs) fun D σ H h => by
  refine tG_mono (tS_bind (f := fe) (k := fun _ G S1 => .nx G S1) (rel := rV X) h) fun v H1 q => ?_
  obtain ⟨ρ, G, S, d, g, s, r, o⟩ := q
  exact outS_nx g s o
def sRet (f : ME) : MS := fun G S => (f G S).s G fun d S1 => .rt d S1
theorem ds_ret (he : DE X W e fe) : DS X W (.Return (some e) pos) (sRet fe) := PS.weak (ps_ret he) fun D σ H h => by
  refine tG_mono (tS_bind (f := fe) (k := fun d G S1 => .rt d S1) (rel := rV X) h) fun v H1 q => ?_
  obtain ⟨ρ, G, S, d, g, s, r, o⟩ := q
  exact o ρ H1 v (.refl _ _) s r
def sRetN : MS := fun _ S => .rt .non S
theorem ds_retN : DS X W (.Return none pos) sRetN := PS.weak ps_retN fun D σ H h => by
  obtain ⟨ρ, G, S, g, s, o⟩ := h
  exact o ρ H .non (.refl _ _) s (VR_non.mpr rfl)
def sIf (t : MT) (f g : MS) : MS := fun G S => (t G S).s G fun k S1 => if k = true then f G S1 else g G S1
theorem ds_if {t : MT} {f g : MS} {p q : List Stmt} (hc : DT X W c t) (ha : DSs X W p f) (hb : DSs X W q g) : DS X W (.If c p q pos) (sIf t f g) := PS.weak (ps_if hc ha hb) fun D σ H h => by
  refine tG_mono (tS_bind (f := t) (k := fun k G S1 => if k = true then f G S1 else g G S1) (rel := rB) h) fun v H1 q => ?_
  obtain ⟨ρ, G, S, d, gr, s, r, o⟩ := q
  have r : v = d := r
  subst r
  by_cases k : v = true
  · rw [if_pos k] at o ⊢; exact ⟨ρ, G, S, gr, s, o⟩
  · rw [if_neg k] at o ⊢; exact ⟨ρ, G, S, gr, s, o⟩

/-! ### targets -/
inductive Tg where
  | nm (i : Nat)
  | tp (is : List Nat)
def setG (G : GE) : List Nat → List D → GE
  | i :: is, d :: ds => setG (G.set i (some d)) is ds
  | _, _ => G
def setσ (σ : St) : List Nat → List V → St
  | i :: is, v :: vs => setσ (σ.set i (some v)) is vs
  | _, _ => σ
theorem GR.sets {ρ : List Addr} {H : Hp} : ∀ {is : List Nat} {G : GE} {σ : St} {ds : List D} {vs : List V}, GR X.K ρ H G σ → VRs X.K ρ H ds vs → GR X.K ρ H (setG G is ds) (setσ σ is vs)
  | [], G, σ, ds, vs, g, r => by
    cases ds <;> cases vs <;> exact g
  | i :: is, G, σ, [], vs, g, r => by rw [r.nil_l]; exact g
  | i :: is, G, σ, d :: ds, vs, g, r => by
    obtain ⟨v, r', rfl, h1, h2⟩ := r.cons_l
    exact GR.sets (is := is) (g.set i h1) h2
def gNames : List Nat → TGs
  | [] => gNil
  | i :: is => gCons (gName i) (gNames is)
theorem gNames_ok : ∀ {is : List Nat} {vs : List V} {σ : St} {H : Hp} {Q : St → Hp → Prop}, vs.length = is.length → Q (setσ σ is vs) H → gNames is vs σ H Q
  | [], vs, σ, H, Q, e, q => by
    have : vs = [] := List.length_eq_zero_iff.mp (by simpa using e)
    subst this
    exact ⟨rfl, q⟩
  | i :: is, [], σ, H, Q, e, q => by simp at e
  | i :: is, v :: vs, σ, H, Q, e, q => ⟨v, vs, rfl, gNames_ok (by simpa using e) q⟩
def tgOf (K : PySem.W.Frag) : Tg → TG
  | .nm i => gName i
  | .tp is => fun v σ H Q => gTup K is.length (gNames is) v σ H Q ∨ gUnl K is.length (gNames is) v σ H Q
/-- a judgement of a target -/
def DG (X : Cx) (tg : Expr) (t : Tg) : Prop := PG X tg (tgOf X.K t)
theorem dg_name {i : Nat} {pos : Pos} (hN : X.N.Nodup) (hi : X.N[i]? = some x) (hx : Loc X.env.scope x) (hf : X.fn x = true ∨ X.env.scope.names.lookup x = some .local := by first | exact .inl rfl | exact .inr rfl | assumption) : DG X (.Name x pos) (.nm i) := pg_name hN hi hx hf
theorem dgs_nil : PGs X [] (gNames []) := pgs_nil
theorem dgs_cons {i : Nat} {is : List Nat} (h1 : DG X e (.nm i)) (h2 : PGs X es (gNames is)) (hs : (assignEach (e :: es) X.env).map (·.2) = assign e X.env :: (assignEach es X.env).map (·.2) := by rfl) : PGs X (e :: es) (gNames (i :: is)) := pgs_cons h1 h2 hs
theorem dg_tup {is : List Nat} {k : Nat} (hc : X.calm = true) (h : PGs X es (gNames is)) (hn : (assignEach es X.env).length = is.length := by rfl) (hst : (assignEach es X.env).findIdx? (·.1) = none := by rfl) : DG X (.Tuple es k pos) (.tp is) :=
  ⟨fun pins s σ H v u Q I r q => q.elim ((pg_tup hc h hn hst).run pins s σ H v u Q I r) ((pg_unl hc h hn hst).run pins s σ H v u Q I r)⟩
def bindT (t : Tg) (d : D) (G : GE) (S : ST) : Option GE := match t with
  | .nm i => some (G.set i (some d))
  | .tp is => match d.items S with | some ds => if ds.length = is.length then some (setG G is ds) else none | none => none
def Tg.slots : Tg → List Nat
  | .nm i => [i]
  | .tp is => is
theorem bindT_ok {t : Tg} {d : D} {G G' : GE} {S : ST} {ρ : List Addr} {H : Hp} {σ : St} {v : V} {Q : St → Hp → Prop} (s : Sim X.K X.mg ρ S H) (g : GR X.K ρ H G σ) (r : VR X.K ρ H d v) (h : bindT t d G S = some G')
    (q : ∀ vs, vs.length = t.slots.length → GR X.K ρ H G' (setσ σ t.slots vs) → Q (setσ σ t.slots vs) H) : tgOf X.K t v σ H Q := by
  cases t with
  | nm i =>
    cases h
    exact q [v] rfl (g.set i r)
  | tp is =>
    unfold bindT at h
    dsimp only at h
    split at h
    · rename_i ds hi
      split at h
      · rename_i hl
        cases h
        obtain ⟨p, vs, rfl, q1, v1⟩ := items_ok s r hi
        have e : vs.length = is.length := by rw [← v1.length]; exact hl
        have q' := q vs e (g.sets v1)
        rcases q1 with q1 | q1
        · exact .inr ⟨p, vs, rfl, q1, e, gNames_ok e q'⟩
        · exact .inl ⟨p, vs, rfl, q1, e, gNames_ok e q'⟩
      · cases h
    · cases h
def sSetT (t : Tg) (f : ME) : MS := fun G S => (f G S).s G fun d S1 => match bindT t d G S1 with | some G' => .nx G' S1 | none => .bad
theorem setT_end {t : Tg} {D : Ends} {σ : St} {H : Hp} (h : tS X W (sSetT t fe) D σ H) : tAsg (tE X W fe) (tgOf X.K t) D σ H := by
  refine tG_mono (tS_bind (f := fe) (k := fun d G S1 => match bindT t d G S1 with | some G' => .nx G' S1 | none => .bad) (rel := rV X) h) fun v H1 q => ?_
  obtain ⟨ρ, G, S, d, g, s, r, o⟩ := q
  split at o
  · rename_i G' hG
    exact bindT_ok s g r hG fun vs _ g' => outS_nx g' s o
  · exact o.elim
theorem ds_asg {tg : Expr} {t : Tg} (he : DE X W e fe) (hg : DG X tg t) (hs : swapsWithSole [tg] e pos.line X.env = pure false := by rfl) (hw : swappedStores [tg] e X.env = pure none := by rfl) (h1 : (assignEach [tg] X.env).map (·.2) = [assign tg X.env] := by rfl) :
    DS X W (.Assign [tg] e pos) (sSetT t fe) := PS.weak (ps_asg he hg hs hw h1) fun D σ H h => setT_end h
def sSet (i : Nat) (f : ME) : MS := fun G S => (f G S).s G fun d S1 => .nx (G.set i (some d)) S1
theorem set_end {i : Nat} {D : Ends} {σ : St} {H : Hp} (h : tS X W (sSet i fe) D σ H) : tAsg (tE X W fe) (gName i) D σ H := by
  refine tG_mono (tS_bind (f := fe) (k := fun d G S1 => .nx (G.set i (some d)) S1) (rel := rV X) h) fun v H1 q => ?_
  obtain ⟨ρ, G, S, d, g, s, r, o⟩ := q
  exact outS_nx (g.set i r) s o
theorem ds_set {i : Nat} {pos' : Pos} (hN : X.N.Nodup) (hi : X.N[i]? = some x) (hx : Loc X.env.scope x) (he : DE X W e fe) (hs : swapsWith e (some (.Name x pos')) pos.line X.env = pure false := by rfl) (hf : X.fn x = true ∨ X.env.scope.names.lookup x = some .local := by first | exact .inl rfl | exact .inr rfl | assumption) :
    DS X W (.Assign [.Name x pos'] e pos) (sSet i fe) := PS.weak (ps_set hN hi hx he hs hf) fun D σ H h => set_end h
/-- a, b = e1, e2 -/
def sPar (i j : Nat) (f : MA) : MS := fun G S => (f G S).s G fun ds S1 => match ds with | [d, e] => .nx ((G.set i (some d)).set j (some e)) S1 | _ => .bad
theorem ds_par {i j : Nat} {x y : Str} {a b : Expr} {ga : MA} {px py pt : Pos} {kt k2 pt2} (hc : X.calm = true) (hN : X.N.Nodup) (hi : X.N[i]? = some x) (hj : X.N[j]? = some y) (hij : i ≠ j)
    (hx : X.env.scope.names.lookup x = some .local) (hy : X.env.scope.names.lookup y = some .local) (ha : DA X W [a, b] ga)
    (hw : swappedStores [.Tuple [.Name x px, .Name y py] kt pt] (.Tuple [a, b] k2 pt2) X.env = pure (some [x, y]) := by rfl)
    (hs : swapsWithSole [.Tuple [.Name x px, .Name y py] kt pt] (.Tuple [a, b] k2 pt2) pos.line X.env = pure false := by rfl) :
    DS X W (.Assign [.Tuple [.Name x px, .Name y py] kt pt] (.Tuple [a, b] k2 pt2) pos) (sPar i j ga) := PS.weak (ps_par hc hN hi hj hij hx hy ha hw hs) fun D σ H h => by
  refine tG_mono (tS_bind (f := ga) (k := fun ds G S1 => match ds with | [d, e] => .nx ((G.set i (some d)).set j (some e)) S1 | _ => .bad) (rel := rVs X) h) fun v H1 q => ?_
  obtain ⟨ρ, G, S, d, g, s, r, o⟩ := q
  split at o
  · obtain ⟨v, w, rfl, r1, r2⟩ := VRs.two r
    exact ⟨v, w, rfl, outS_nx ((g.set i r1).set j r2) s o⟩
  · exact o.elim
/-- x op= e -/
def sAug (i : Nat) (m : D → D → C D) (f : ME) : MS := fun G S => match G[i]? with
  | some (some d) => (f G S).s G fun e S1 => (m d e S1).s G fun z S2 => .nx (G.set i (some z)) S2
  | _ => .bad
theorem ds_aug {i : Nat} {op : Operator} {m : D → D → C D} {pos' : Pos} (hN : X.N.Nodup) (hi : X.N[i]? = some x) (hx : Loc X.env.scope x) (he : DE X W e fe) (ho : Op2 X W (inplaceOp op) m) (hf : X.fn x = true ∨ X.env.scope.names.lookup x = some .local := by first | exact .inl rfl | exact .inr rfl | assumption) :
    DS X W (.AugAssign (.Name x pos') op e pos) (sAug i m fe) := by
  obtain ⟨r, h1, h2⟩ := ho
  refine PS.weak (ps_aug hN hi hx he (ti := r) (fun pins s σ H x y v u Q I rx ry q => h1 pins s σ H x y v u Q I rx ry q) hf) fun D σ H h => ?_
  obtain ⟨ρ, G, S, g, s, o⟩ := h
  unfold sAug at o
  split at o
  · rename_i d hd
    obtain ⟨v, e1, rd⟩ := g.get i d hd
    refine ⟨v, e1, ?_⟩
    refine ⟨ρ, G, S, g, s, OutG.mono (outS_bind (rel := rV X) g o) (.refl _ _) fun y H1 q => ?_⟩
    obtain ⟨ρ1, S1, e, x1, s1, r1, o1⟩ := q
    refine h2 ρ1 S1 H1 σ d e v y _ s1 (VR.mono x1 rd) r1 (OutG.mono (outS_bind (rel := rV X) (g.mono x1) o1) (.refl _ _) fun z H2 q2 => ?_)
    obtain ⟨ρ2, S2, e2, x2, s2, r2, o2⟩ := q2
    exact outS_nx (((g.mono x1).mono x2).set i r2) s2 o2
  · exact o.elim

/-! ### o[i] = e -/
end
/-- a key's value: in its place, or at the end -/
def dput {κ α : Type} [DecidableEq κ] (kvs : List (κ × α)) (k : κ) (v : α) : List (κ × α) :=
  if kvs.any (fun kv => decide (kv.1 = k)) = true then kvs.map fun kv => if kv.1 = k then (kv.1, v) else kv else kvs ++ [(k, v)]
section
variable {κ : Type} [DecidableEq κ] {K : PySem.W.Frag} {ρ : List Addr} {H : Hp}
theorem FR.nil_l {α : Type} {ws : List (α × V)} (h : FR K ρ H ([] : List (α × D)) ws) : ws = [] := by
  have := h.1
  cases ws with
  | nil => rfl
  | cons _ _ => simp at this
theorem FR.cons_l {α : Type} {k : α} {d : D} {kvs : List (α × D)} {ws : List (α × V)} (h : FR K ρ H ((k, d) :: kvs) ws) : ∃ v r, ws = (k, v) :: r ∧ VR K ρ H d v ∧ FR K ρ H kvs r := by
  obtain ⟨h1, h2⟩ := h
  cases ws with
  | nil => simp at h1
  | cons p r =>
    obtain ⟨k', v⟩ := p
    simp only [List.map_cons, List.cons.injEq] at h1 h2
    obtain ⟨rfl, h1⟩ := h1
    obtain ⟨a, b⟩ := h2.cons_inv
    exact ⟨v, r, rfl, a, h1, b⟩
theorem FR.cons {α : Type} {k : α} {d : D} {v : V} {kvs : List (α × D)} {ws : List (α × V)} (r : VR K ρ H d v) (h : FR K ρ H kvs ws) : FR K ρ H ((k, d) :: kvs) ((k, v) :: ws) :=
  ⟨by simp [h.1], by simpa using VRs.cons r h.2⟩
theorem FR.nil {α : Type} : FR K ρ H ([] : List (α × D)) [] := ⟨rfl, by simpa using VRs.nil⟩
theorem FR.append {α : Type} : ∀ {kvs kvs' : List (α × D)} {ws ws' : List (α × V)}, FR K ρ H kvs ws → FR K ρ H kvs' ws' → FR K ρ H (kvs ++ kvs') (ws ++ ws')
  | [], _, _, _, h, t => by rw [h.nil_l]; exact t
  | (k, d) :: kvs, _, _, _, h, t => by
    obtain ⟨v, r, rfl, h1, h2⟩ := h.cons_l
    exact .cons h1 (FR.append h2 t)
theorem FR.length {α : Type} {kvs : List (α × D)} {ws : List (α × V)} (h : FR K ρ H kvs ws) : kvs.length = ws.length := by
  have := congrArg List.length h.1
  simpa using this
theorem FR.any {kvs : List (κ × D)} {ws : List (κ × V)} (k : κ) (h : FR K ρ H kvs ws) : (kvs.any fun kv => decide (kv.1 = k)) = ws.any fun kv => decide (kv.1 = k) := by
  have e : ∀ {β : Type} (l : List (κ × β)), (l.any fun kv => decide (kv.1 = k)) = (l.map (·.1)).any fun j => decide (j = k) := fun l => by rw [List.any_map]; rfl
  rw [e, e, h.1]
theorem FR.repl {k : κ} {d : D} {v : V} (r : VR K ρ H d v) : ∀ {kvs : List (κ × D)} {ws : List (κ × V)}, FR K ρ H kvs ws → FR K ρ H (kvs.map fun kv => if kv.1 = k then (kv.1, d) else kv) (ws.map fun kv => if kv.1 = k then (kv.1, v) else kv)
  | [], ws, h => by rw [h.nil_l]; exact .nil
  | (j, e) :: kvs, ws, h => by
    obtain ⟨u, t, rfl, h1, h2⟩ := h.cons_l
    have ih := FR.repl (k := k) r h2
    rw [List.map_cons, List.map_cons]
    by_cases q : j = k
    · simp only [q, if_true]; exact .cons r ih
    · simp only [q, if_false]; exact .cons h1 ih
theorem FR.put {kvs : List (κ × D)} {ws : List (κ × V)} {k : κ} {d : D} {v : V} (h : FR K ρ H kvs ws) (r : VR K ρ H d v) : FR K ρ H (dput kvs k d) (putK ws k v) := by
  unfold dput putK
  rw [h.any k]
  split
  · exact h.repl r
  · exact h.append (.cons r .nil)
end
section
variable {X : Cx} {W : WX} {a b c e o i : Expr} {es : List Expr} {fa fb fc fe fo fi : ME} {ga : MA} {pos p : Pos} {x : Str}
/-- the store behind d[k] = v -/
def putD (S : ST) (d k v : D) : Option ST := match d with
  | .ref n => match S[n]? with
    | some (.lst ds) => (match k with | .int i => (ixN ds.length i).map fun j => S.set n (.lst (ds.set j v)) | _ => none)
    | some (.dk kvs) => (match k.key with | some k => if kvs.length < SZ then some (S.set n (.dk (dput kvs k v))) else none | none => none)
    | _ => none
  | _ => none
/-- the heap behind it -/
def PutV (H : Hp) (o i v : V) (H' : Hp) : Prop := (∃ p xs k j, o = .ref p ∧ i = .int k ∧ H p = some (.lst xs) ∧ ixN xs.length k = some j ∧ H' = upd H p (.lst (xs.set j v))) ∨ ∃ a, o = .ref a ∧ DPut H a i v H'
theorem putD_ok {ρ : List Addr} {S S' : ST} {H : Hp} {d k v : D} {x y z : V} (s : Sim X.K X.mg ρ S H) (r1 : VR X.K ρ H d x) (r2 : VR X.K ρ H k y) (r3 : VR X.K ρ H v z) (h : putD S d k v = some S') :
    ∃ H', PutV H x y z H' ∧ Ext ρ H ρ H' ∧ Sim X.K X.mg ρ S' H' := by
  cases d with
  | ref n =>
    unfold putD at h
    dsimp only at h
    split at h
    · rename_i ds h1
      obtain ⟨a, rfl, p1, vs, w1, v1⟩ := s.ref r1 h1
      have hm : Mut (H a) := by rw [w1]; exact True.intro
      split at h
      · rw [Option.map_eq_some_iff] at h
        obtain ⟨j, e1, rfl⟩ := h
        rw [VR_int] at r2; subst r2
        exact ⟨_, .inl ⟨a, vs, _, j, rfl, rfl, w1, by rw [← v1.length]; exact e1, rfl⟩, .write hm, s.write p1 hm ⟨_, upd_same, (v1.set j r3).mono (.write hm)⟩⟩
      · cases h
    · rename_i kvs h1
      obtain ⟨a, rfl, p1, ws, w1, v1⟩ := s.ref r1 h1
      have hm : Mut (H a) := by rw [w1]; exact True.intro
      split at h
      · rename_i k' e1
        split at h
        · rename_i hl
          cases h
          have e2 := r2.key e1
          subst e2
          exact ⟨_, .inr ⟨a, rfl, DPut.k w1 (by rw [sizeLine_eq, ← v1.length]; exact hl)⟩, .write hm, s.write p1 hm ⟨_, upd_same, (v1.put r3).mono (.write hm)⟩⟩
        · cases h
      · cases h
    · cases h
  | _ => cases h
def sPut (fo fi fe : ME) : MS := fun G S => (fe G S).s G fun v S1 => (fo G S1).s G fun o S2 => (fi G S2).s G fun i S3 => match putD S3 o i v with | some S4 => .nx G S4 | none => .bad
def rPut : V → V → V → Hp → (Hp → Prop) → Prop := fun o i v H Q => rSetL o i v H Q ∨ rSetD o i v H Q
theorem set_both (hu : X.A.units + 65 < cLine) : PSet X rPut := fun pins s σ H o i v ov iv u Q I r1 r2 r3 h =>
  h.elim (set_list pins s σ H o i v ov iv u Q I r1 r2 r3) (set_dict (by omega) pins s σ H o i v ov iv u Q I r1 r2 r3)
theorem PutV.r {H H' : Hp} {o i v : V} {Q : Hp → Prop} (h : PutV H o i v H') (q : Q H') : rPut o i v H Q := by
  rcases h with ⟨p, xs, k, j, rfl, rfl, h1, h2, rfl⟩ | ⟨a, rfl, g⟩
  · exact .inl ⟨p, xs, k, j, rfl, rfl, h1, h2, q⟩
  · exact .inr ⟨a, H', rfl, g, q⟩
theorem ds_put (hu : X.A.units + 65 < cLine) {tpos : Pos} (ho : DE X W o fo) (hi : DE X W i fi) (he : DE X W e fe)
    (hs : swapsWithSole [.Subscript o i tpos] e pos.line X.env = pure false := by rfl) (hw : swappedStores [.Subscript o i tpos] e X.env = pure none := by rfl) (h1 : (assignEach [.Subscript o i tpos] X.env).map (·.2) = [assign (.Subscript o i tpos) X.env] := by rfl)
    (ha : ∀ v, assign (.Subscript o i tpos) X.env v = (do
      let ov ← holding [v] (eval o X.env)
      let iv ← holding [v, ov] (eval i X.env)
      standAt tpos
      holding [v, ov, iv] (setItem ov iv v)
      release [v, ov, iv] []) := by intro _; rfl) :
    DS X W (.Assign [.Subscript o i tpos] e pos) (sPut fo fi fe) := PS.weak (ps_asg he (pg_sub ho hi (set_both hu) ha) hs hw h1) fun D σ H h => by
  refine tG_mono (tS_bind (f := fe) (k := fun v G S1 => (fo G S1).s G fun o S2 => (fi G S2).s G fun i S3 => match putD S3 o i v with | some S4 => .nx G S4 | none => .bad) (rel := rV X) h) fun v H1 q => ?_
  obtain ⟨ρ, G, S, d, g, s, r, o⟩ := q
  refine ⟨ρ, G, S, g, s, OutG.mono (outS_bind (rel := rV X) g o) (.refl _ _) fun y H2 q => ?_⟩
  obtain ⟨ρ2, S2, d2, x2, s2, r2, o2⟩ := q
  refine ⟨ρ2, G, S2, g.mono x2, s2, OutG.mono (outS_bind (rel := rV X) (g.mono x2) o2) (.refl _ _) fun z H3 q => ?_⟩
  obtain ⟨ρ3, S3, d3, x3, s3, r3, o3⟩ := q
  split at o3
  · rename_i S4 h4
    obtain ⟨H4, pv, x4, s4⟩ := putD_ok s3 (VR.mono x3 r2) r3 (VR.mono (x2.trans x3) r) h4
    refine pv.r ?_
    have g3 := (g.mono x2).mono x3
    exact o3 ρ3 H4 σ x4 s4 (g3.mono x4)
  · exact o3.elim
/-- d[k] op= e, a dict -/
def sPutAug (m : D → D → C D) (fo fi fe : ME) : MS := fun G S => (fo G S).s G fun o S1 => (fi G S1).s G fun i S2 => match dGet S2 o i with
  | some (some old) => (fe G S2).s G fun v S3 => (m old v S3).s G fun z S4 => (match (if o.isDict S4 = true then putD S4 o i z else none) with | some S5 => .nx G S5 | none => .bad)
  | _ => .bad
theorem ds_putAug (hu : X.A.units + 65 < cLine) {tpos : Pos} {op : Operator} {m : D → D → C D} (ho : DE X W o fo) (hi : DE X W i fi) (he : DE X W e fe) (hm : Op2 X W (inplaceOp op) m)
    (ha : ∀ ov iv new, augStore i ov iv new = (do holding [new, ov, iv] (setItem ov iv new); release [new, ov, iv] []; pure .next) := by intros; rfl) :
    DS X W (.AugAssign (.Subscript o i tpos) op e pos) (sPutAug m fo fi fe) := by
  obtain ⟨r, h1, h2⟩ := hm
  refine PS.weak (ps_daug (by omega) ho hi he (rd := r) (fun pins s σ H x y u v Q I rx ry q => h1 pins s σ H x y u v Q I rx ry q) ha) fun Dn σ H h => ?_
  refine tG_mono (tS_bind (f := fo) (k := fun o G S1 => (fi G S1).s G fun i S2 => match dGet S2 o i with
    | some (some old) => (fe G S2).s G fun v S3 => (m old v S3).s G fun z S4 => (match (if o.isDict S4 = true then putD S4 o i z else none) with | some S5 => .nx G S5 | none => .bad)
    | _ => .bad) (rel := rV X) h) fun x H1 q => ?_
  obtain ⟨ρ, G, S, d, g, s, r1, o⟩ := q
  refine ⟨ρ, G, S, g, s, OutG.mono (outS_bind (rel := rV X) g o) (.refl _ _) fun y H2 q => ?_⟩
  obtain ⟨ρ2, S2, d2, x2, s2, r2, o2⟩ := q
  split at o2
  · rename_i old hold
    obtain ⟨a, w, ea, gd, vo⟩ := dGet_ok s2 (VR.mono x2 r1) r2 hold
    cases w with
    | none => exact vo.elim
    | some w =>
      refine ⟨a, w, ea, gd, ?_⟩
      have g2 := g.mono x2
      refine ⟨ρ2, G, S2, g2, s2, OutG.mono (outS_bind (rel := rV X) g2 o2) (.refl _ _) fun z H3 q => ?_⟩
      obtain ⟨ρ3, S3, d3, x3, s3, r3, o3⟩ := q
      have g3 := g2.mono x3
      refine h2 ρ3 S3 H3 σ old d3 w z _ s3 (VR.mono x3 vo) r3 (OutG.mono (outS_bind (rel := rV X) g3 o3) (.refl _ _) fun z4 H4 q => ?_)
      obtain ⟨ρ4, S4, d4, x4, s4, r4, o4⟩ := q
      split at o4
      · rename_i S5 h5
        split at h5
        · rename_i hd
          obtain ⟨H5, pv, x5, s5⟩ := putD_ok s4 (VR.mono ((x2.trans x3).trans x4) r1) (VR.mono (x3.trans x4) r2) r4 h5
          refine ⟨H5, ?_, o4 ρ4 H5 σ x5 s5 ((g3.mono x4).mono x5)⟩
          rcases pv with ⟨p, xs, k, j, e1, e2, w1, e3, rfl⟩ | ⟨a', e1, gp⟩
          · -- a list is no dict
            exfalso
            cases d with
            | ref n =>
              have r1' := VR.mono ((x2.trans x3).trans x4) r1
              unfold D.isDict at hd
              dsimp only at hd
              split at hd
              · rename_i h6
                obtain ⟨q1, e4, p1, ws, w2, v1⟩ := s4.ref r1' h6
                rw [e4] at e1; cases e1
                rw [w1] at w2; cases w2
              · rename_i h6
                obtain ⟨q1, e4, p1, ws, w2, v1⟩ := s4.ref r1' h6
                rw [e4] at e1; cases e1
                rw [w1] at w2; cases w2
              · cases hd
            | _ => cases hd
          · rw [ea] at e1; cases e1; exact gp
        · cases h5
      · exact o4.elim
  · exact o2.elim

/-! ### attributes -/
/-- the classes that may bear the attribute f -/
def Bears (X : Cx) (cs : List Str) (f : Str) : Prop := ∀ c ∈ cs, ∀ C, X.mg c = some (.ref C) → Cls X.K C ∧ NoAttr X.K C f
theorem FR.lookup {K : PySem.W.Frag} {ρ : List Addr} {H : Hp} (f : Str) : ∀ {fs : List (Str × D)} {gs : List (Str × V)}, FR K ρ H fs gs → VRo K ρ H (fs.lookup f) (gs.lookup f)
  | [], gs, h => by rw [h.nil_l]; exact True.intro
  | (k, d) :: fs, gs, h => by
    obtain ⟨v, r, rfl, h1, h2⟩ := h.cons_l
    simp only [List.lookup]
    cases e : f == k with
    | true => exact h1
    | false => exact FR.lookup f h2
/-- the attributes with one put -/
def putA (f : Str) (v : D) : List (Str × D) → List (Str × D)
  | [] => [(f, v)]
  | (g, x) :: r => if g = f then (g, v) :: r else (g, x) :: putA f v r
theorem FR.putA {K : PySem.W.Frag} {ρ : List Addr} {H : Hp} {f : Str} {d : D} {v : V} (r : VR K ρ H d v) : ∀ {fs : List (Str × D)} {gs : List (Str × V)}, FR K ρ H fs gs → FR K ρ H (Mir.putA f d fs) (putF f v gs)
  | [], gs, h => by rw [h.nil_l]; exact .cons r .nil
  | (k, e) :: fs, gs, h => by
    obtain ⟨u, t, rfl, h1, h2⟩ := h.cons_l
    unfold Mir.putA putF
    by_cases q : k = f
    · rw [if_pos q, if_pos q]; exact .cons r h2
    · rw [if_neg q, if_neg q]; exact .cons h1 (FR.putA r h2)
def mFld (cs : List Str) (f : Str) : D → C D := fun d S => match d with
  | .ref n => (match S[n]? with
    | some (.ins c fs) => if c ∈ cs then (match fs.lookup f with | some d => .ok d S | none => .bad) else .bad
    | _ => .bad)
  | _ => .bad
theorem de_fld {cs : List Str} {f : Str} (hb : Bears X cs f) (he : DE X W e fe) (hba : attributeBase e f X.env (eval e X.env) = eval e X.env := by rfl) : DE X W (.Attribute e f pos) (e1 (mFld cs f) fe) := by
  refine PE.weak (pe_fld he hba) fun σ H Q h => ?_
  refine one (r := fun x H1 Q => ∃ a C dx fs v, x = .ref a ∧ H1 a = some (.ins C dx fs) ∧ Cls X.K C ∧ NoAttr X.K C f ∧ fs.lookup f = some v ∧ Q v H1) (fun ρ S H σ d x Q s r o => ?_) h
  unfold mFld at o
  split at o
  · split at o
    · rename_i h1
      split at o
      · rename_i hc
        split at o
        · rename_i d' hd
          obtain ⟨a, rfl, p1, C, dx, gs, hmg, w1, v1⟩ := s.ref r h1
          obtain ⟨k1, k2⟩ := hb _ hc C hmg
          have q := v1.lookup f
          rw [hd] at q
          cases e : gs.lookup f with
          | none => rw [e] at q; exact q.elim
          | some v => rw [e] at q; exact ⟨a, C, dx, gs, v, rfl, w1, k1, k2, e, o ρ H v (.refl _ _) s q⟩
        · exact o.elim
      · exact o.elim
    · exact o.elim
  · exact o.elim
/-- the store behind o.f = v -/
def putFD (cs : List Str) (f : Str) (S : ST) (o v : D) : Option ST := match o with
  | .ref n => (match S[n]? with
    | some (.ins c fs) => if c ∈ cs ∧ fs.length < 1000 then some (S.set n (.ins c (putA f v fs))) else none
    | _ => none)
  | _ => none
theorem putFD_ok {cs : List Str} {f : Str} {ρ : List Addr} {S S' : ST} {H : Hp} {d v : D} {x z : V} (hb : Bears X cs f) (s : Sim X.K X.mg ρ S H) (r1 : VR X.K ρ H d x) (r3 : VR X.K ρ H v z) (h : putFD cs f S d v = some S') :
    ∃ a C dx fs, x = .ref a ∧ H a = some (.ins C dx fs) ∧ Cls X.K C ∧ NoAttr X.K C f ∧ fs.length < 1000 ∧ Ext ρ H ρ (upd H a (.ins C dx (putF f z fs))) ∧ Sim X.K X.mg ρ S' (upd H a (.ins C dx (putF f z fs))) := by
  unfold putFD at h
  split at h
  · split at h
    · rename_i h1
      split at h
      · rename_i hc
        cases h
        obtain ⟨a, rfl, p1, C, dx, gs, hmg, w1, v1⟩ := s.ref r1 h1
        obtain ⟨k1, k2⟩ := hb _ hc.1 C hmg
        have hm : Mut (H a) := by rw [w1]; exact True.intro
        exact ⟨a, C, dx, gs, rfl, w1, k1, k2, by rw [← v1.length]; exact hc.2, .write hm, s.write p1 hm ⟨C, dx, _, hmg, upd_same, (v1.putA r3).mono (.write hm)⟩⟩
      · cases h
    · cases h
  · cases h
def sFld (cs : List Str) (f : Str) (fo fe : ME) : MS := fun G S => (fe G S).s G fun v S1 => (fo G S1).s G fun o S2 => match putFD cs f S2 o v with | some S3 => .nx G S3 | none => .bad
theorem ds_fld {cs : List Str} {f : Str} {pos' : Pos} (hb : Bears X cs f) (ho : DE X W o fo) (he : DE X W e fe) (hs : swapsWith e (some (.Attribute o f pos')) pos.line X.env = pure false := by rfl) : DS X W (.Assign [.Attribute o f pos'] e pos) (Mir.sFld cs f fo fe) :=
  PS.weak (ps_fld ho he hs) fun D σ H h => by
  refine tG_mono (tS_bind (f := fe) (k := fun v G S1 => (fo G S1).s G fun o S2 => match putFD cs f S2 o v with | some S3 => .nx G S3 | none => .bad) (rel := rV X) h) fun v H1 q => ?_
  obtain ⟨ρ, G, S, d, g, s, r, o⟩ := q
  refine ⟨ρ, G, S, g, s, OutG.mono (outS_bind (rel := rV X) g o) (.refl _ _) fun y H2 q => ?_⟩
  obtain ⟨ρ2, S2, d2, x2, s2, r2, o2⟩ := q
  split at o2
  · rename_i S3 h3
    obtain ⟨a, C, dx, fs, rfl, w1, k1, k2, hl, x3, s3⟩ := putFD_ok hb s2 r2 (VR.mono x2 r) h3
    exact ⟨a, C, dx, fs, rfl, w1, k1, k2, hl, o2 ρ2 _ σ x3 s3 ((g.mono x2).mono x3)⟩
  · exact o2.elim
/-- o.f op= e -/
def sFldAug (c : Str) (f : Str) (m : D → D → C D) (fo fe : ME) : MS := fun G S => (fo G S).s G fun o S1 => (mFld [c] f o S1).s G fun old S2 => (fe G S2).s G fun v S3 => (m old v S3).s G fun z S4 => match putFD [c] f S4 o z with | some S5 => .nx G S5 | none => .bad
theorem ds_fldAug {c : Str} {f : Str} {tpos : Pos} {op : Operator} {m : D → D → C D} (hb : Bears X [c] f) (ho : DE X W o fo) (he : DE X W e fe) (hm : Op2 X W (inplaceOp op) m) : DS X W (.AugAssign (.Attribute o f tpos) op e pos) (Mir.sFldAug c f m fo fe) := by
  obtain ⟨r, h1, h2⟩ := hm
  refine PS.weak (ps_fldaug ho he (rd := r) (fun pins s σ H x y u v Q I rx ry q => h1 pins s σ H x y u v Q I rx ry q)) fun D σ H h => ?_
  refine tG_mono (tS_bind (f := fo) (k := fun o G S1 => (mFld [c] f o S1).s G fun old S2 => (fe G S2).s G fun v S3 => (m old v S3).s G fun z S4 => match putFD [c] f S4 o z with | some S5 => .nx G S5 | none => .bad) (rel := rV X) h) fun x H1 q => ?_
  obtain ⟨ρ, G, S, d, g, s, r1, o⟩ := q
  unfold mFld at o
  split at o
  · rename_i n
    split at o
    · rename_i c0 fs0 h5
      split at o
      · rename_i hc
        split at o
        · rename_i d' hd
          obtain ⟨a, rfl, p1, C, dx, gs, hmg, w1, v1⟩ := s.ref r1 h5
          obtain ⟨k1, k2⟩ := hb _ hc C hmg
          have q := v1.lookup f
          rw [hd] at q
          cases e : gs.lookup f with
          | none => rw [e] at q; exact q.elim
          | some v =>
            rw [e] at q
            have q : VR X.K ρ H1 d' v := q
            refine ⟨a, C, dx, gs, v, rfl, w1, k1, k2, e, ?_⟩
            rw [R.s_ok] at o
            refine ⟨ρ, G, S, g, s, OutG.mono (outS_bind (rel := rV X) g o) (.refl _ _) fun y H2 q2 => ?_⟩
            obtain ⟨ρ2, S2, d2, x2, s2, r2, o2⟩ := q2
            refine h2 ρ2 S2 H2 σ d' d2 v y _ s2 (VR.mono x2 q) r2 (OutG.mono (outS_bind (rel := rV X) (g.mono x2) o2) (.refl _ _) fun z H3 q3 => ?_)
            obtain ⟨ρ3, S3, d3, x3, s3, r3, o3⟩ := q3
            split at o3
            · rename_i S4 h4
              obtain ⟨a', C', dx', fs', e', w1', k1', k2', hl, x4, s4⟩ := putFD_ok hb s3 (VR.mono (x2.trans x3) r1) r3 h4
              cases e'
              -- the class is the same
              have hC : C' = C := by
                have hc1 : c0 = c := by simpa using hc
                unfold putFD at h4
                dsimp only at h4
                split at h4
                · rename_i c2 fs2 h6
                  split at h4
                  · rename_i hc2
                    have hc3 : c2 = c := by simpa using hc2.1
                    obtain ⟨a2, e2, p2, C2, dx2, gs2, hmg2, w2, v2⟩ := s3.ref (VR.mono (x2.trans x3) r1) h6
                    cases e2
                    rw [w2] at w1'
                    cases w1'
                    rw [hc3, ← hc1, hmg] at hmg2
                    cases hmg2
                    rfl
                  · cases h4
                · cases h4
              subst hC
              exact ⟨dx', fs', w1', hl, o3 ρ3 _ σ x4 s4 (((g.mono x2).mono x3).mono x4)⟩
            · exact o3.elim
        · exact o.elim
      · exact o.elim
    · exact o.elim
  · exact o.elim
end
end Mir

namespace Mir
open PySem L2 PyProof.Rows

/-! ### functions -/
/-- what a def of the mirror promises -/
def spM (K : PySem.W.Frag) (mg : Str → Option Value) (n : Nat) (m : Fn) : Sp := fun vs H Q E => ∃ ρ S ds, VRs K ρ H ds vs ∧ ds.length = n ∧ Sim K mg ρ S H ∧ OutK K mg (fun c d _ H => E c d H) (fun ρ H => VR K ρ H) ρ [] H (m ds S) Q
def mkFn (n k : Nat) (body : MS) : Fn := fun ds S => if ds.length = n then (match body (ds.map some ++ List.replicate k none) S with
  | .nx _ S' => .ok .non S'
  | .rt d S' => .ok d S'
  | .exc c fs _ S' => .exc c fs S'
  | _ => .bad) else .bad
theorem spM_len {K : PySem.W.Frag} {mg : Str → Option Value} {n : Nat} {m : Fn} {ps : List Str} (hn : ps.length = n) : ∀ vs H Q E, spM K mg n m vs H Q E → vs.length = ps.length := fun vs H Q E h => by
  obtain ⟨ρ, S, ds, r, l, _⟩ := h
  rw [← r.length, l, hn]
theorem GR.start {K : PySem.W.Frag} {ρ : List Addr} {H : Hp} {ds : List D} {vs : List V} (r : VRs K ρ H ds vs) (k : Nat) : GR K ρ H (ds.map some ++ List.replicate k none) (vs.map some ++ List.replicate k none) := by
  refine ⟨by simp [r.length], fun i d h => ?_⟩
  by_cases hi : i < ds.length
  · rw [List.getElem?_append_left (by simpa using hi)] at h
    rw [List.getElem?_append_left (by simpa [← r.length] using hi)]
    rw [List.getElem?_map] at h ⊢
    cases e : ds[i]? with
    | none => rw [e] at h; cases h
    | some d' =>
      rw [e] at h
      cases h
      obtain ⟨v, e1, r1⟩ := r.get e
      exact ⟨v, by rw [e1]; rfl, r1⟩
  · rw [List.getElem?_append_right (by simpa using Nat.not_lt.mp hi)] at h
    rw [List.getElem?_replicate] at h
    split at h <;> cases h
section
variable {P : Program} {w : World} {K : PySem.W.Frag} {mg : Str → Option Value} {base : Heap}
abbrev W0 : WX := fun _ _ _ _ => False
/-- a def's body ends as the mirror says -/
theorem body_end {X : Cx} {E : XK} {N : List Str} {n k : Nat} {body : MS} {vs : List V} {H : Hp} {Q : VK} (hN : N.length = n + k) (h : spM X.K X.mg n (mkFn n k body) vs H Q E) :
    tS X (fun c d _ H => E c d H) body { nx := fun _ H' => Q .non H', rt := Q } (L2.start N vs) H := by
  obtain ⟨ρ, S, ds, r, l, s, o⟩ := h
  have hl : vs.length = n := by rw [← r.length, l]
  refine ⟨ρ, ds.map some ++ List.replicate k none, S, ?_, s, ?_⟩
  · have e : L2.start N vs = vs.map some ++ List.replicate k none := by
      unfold L2.start
      rw [hN, hl]
      simp
    rw [e]
    exact GR.start r k
  · unfold mkFn at o
    rw [if_pos l] at o
    cases e : body (ds.map some ++ List.replicate k none) S with
    | nx G' S' => rw [e] at o; exact fun ρ' H' σ' x1 s1 _ => o ρ' H' .non x1 s1 (VR_non.mpr rfl)
    | rt d S' => rw [e] at o; exact o
    | exc c fs G' S' => rw [e] at o; exact fun ρ' H' σ' cls dx x1 s1 _ r1 => o ρ' H' cls dx x1 s1 r1
    | bk G' S' => rw [e] at o; exact (show False from o).elim
    | ct G' S' => rw [e] at o; exact (show False from o).elim
    | bad => rw [e] at o; exact o
/-- a def that lets no exception out -/
theorem fn0 {x qual : Str} {st : Stmt} {f : Addr} {fd : FuncData} {N ps : List Str} {l n k : Nat} {body : MS} (F : Fun K x qual st f fd) (Sc : FnScope N ps (defScope st)) (hN : N.length = n + k) (hp : ps.length = n)
    (hb : ∀ (cdv : Value) (A : Around) (outer : List Env) (s : Shared) (H : Hp) (E : XK), Room l (A.deeper (envOfC qual (defScope st) s.heap.objs.size f cdv)) →
      DSs (cxOf CX0 P w K mg base N qual (defScope st) f cdv A outer s H E).nox (fun c d _ H => E c d H) (defBody st) body) :
    FnOk P w K mg base CX0 (l + 1) f fd ps (spM K mg n (mkFn n k body)) := by
  refine F.ok Sc (spM_len hp) (fun cdv A outer s H vs Q E hr h => ?_)
  exact ⟨_, hb cdv A outer s H E hr, body_end (X := (cxOf CX0 P w K mg base N qual (defScope st) f cdv A outer s H E).nox) hN h⟩
/-- a def that may raise -/
theorem fnX {x qual : Str} {st : Stmt} {f : Addr} {fd : FuncData} {N ps : List Str} {l n k : Nat} {body : MS} (F : Fun K x qual st f fd) (Sc : FnScope N ps (defScope st)) (hN : N.length = n + k) (hp : ps.length = n)
    (hb : ∀ (cdv : Value) (A : Around) (outer : List Env) (s : Shared) (H : Hp) (E : XK), Room l (A.deeper (envOfC qual (defScope st) s.heap.objs.size f cdv)) →
      DSs (cxOf (L2.CX P w) P w K mg base N qual (defScope st) f cdv A outer s H E) (fun c d _ H => E c d H) (defBody st) body) :
    FnOk P w K mg base (L2.CX P w) (l + 1) f fd ps (spM K mg n (mkFn n k body)) := by
  refine F.okX Sc (spM_len hp) (fun cdv A outer s H vs Q E hr h => ?_)
  exact ⟨_, hb cdv A outer s H E hr, body_end (X := cxOf (L2.CX P w) P w K mg base N qual (defScope st) f cdv A outer s H E) hN h⟩
end

section
variable {X : Cx} {W : WX} {a b c e o i : Expr} {es : List Expr} {fa fb fc fe fo fi : ME} {ga : MA} {pos p apos : Pos} {x : Str}
/-- what a callee's errors come to -/
def Hx (CX : CXT) (X : Cx) (W : WX) : Prop := ∀ σ, PassesAt CX X σ (WE W σ)
theorem hx0 : Hx CX0 X W := fun _ _ _ _ _ _ _ h => h.elim
theorem hxX (tk : Takes X W) : Hx (L2.CX X.prog X.w) X W := fun σ => passAt tk σ
/-- f(..) -/
def eFn (n : Nat) (m : Fn) (f : MA) : ME := fun G S => (f G S).bind fun ds S1 => if ds.length = n then m ds S1 else .bad
theorem fn_end {n : Nat} {m : Fn} {σ : L2.St} {H : Hp} {Q : VK} {ga : MA} (h : tE X W (eFn n m ga) σ H Q) : tCallSD (spM X.K X.mg n m) [] (fun σ => WE W σ) (tA X W ga) σ H Q := by
  refine tG_mono (tG_bind (f := ga) (g := fun ds G S1 => if ds.length = n then m ds S1 else .bad) h) fun xs H1 q => ?_
  obtain ⟨ρ, G, S, ds, g, s, r, o⟩ := q
  split at o
  · rename_i l
    refine ⟨ρ, S, ds, by rw [List.append_nil]; exact r, l, s, ?_⟩
    cases e : m ds S with
    | ok d S' => rw [e] at o; exact o
    | exc c fs S' => rw [e] at o; exact o
    | bad => rw [e] at o; exact o
  · exact o.elim
theorem de_fn {CX : CXT} {k n : Nat} {f : Addr} {fd : FuncData} {ps : List Str} {m : Fn} (F : FnOk X.prog X.w X.K X.mg X.base CX k f fd ps (spM X.K X.mg n m)) (hr : Room k X.A) (hg : Gl X x) (hm : X.mg x = some (.ref f)) (hk : PySem.W.keepIn X.K (.ref f) = true) (hb : Binds X.K fd ps []) (hx : Hx CX X W)
    (ha : DA X W (e :: es) ga) (hdb : (x == ("__debug__" : Str)) = false := by decide) (he : starEach (e :: es) X.env = (false, eval e X.env) :: starEach es X.env := by rfl) (hpl : (backTo pos (starEach es X.env)).any (·.1) = false := by rfl) :
    DE X W (.Call (.Name x p) (e :: es) [] pos) (eFn n m ga) :=
  PE.weak (pe_callSD F hr hg hm hk hb .nil hx ha hdb he hpl) fun σ H Q h => fn_end h
/-- f() -/
theorem de_fn0 {CX : CXT} {k n : Nat} {f : Addr} {fd : FuncData} {ps : List Str} {m : Fn} (F : FnOk X.prog X.w X.K X.mg X.base CX k f fd ps (spM X.K X.mg n m)) (hr : Room k X.A) (hg : Gl X x) (hm : X.mg x = some (.ref f)) (hk : PySem.W.keepIn X.K (.ref f) = true) (hb : Binds X.K fd ps []) (hx : Hx CX X W)
    (hdb : (x == ("__debug__" : Str)) = false := by decide) : DE X W (.Call (.Name x p) [] [] pos) (eFn n m aNil) := by
  refine ⟨fun pins s σ H Q I h => ?_⟩
  have h1 : tCallSD (spM X.K X.mg n m) [] (fun σ => WE W σ) tNil σ H Q := by
    have q := fn_end h
    obtain ⟨ρ, G, S, g, s', o⟩ := q
    exact o ρ H [] (.refl _ _) s' .nil
  exact wpAny_Call_Name_kw (ld_glob I hg hm (PySem.W.callWith_K0 I.kIn hk (run_fnSD (us := []) F hr hb .nil (hx σ) I .nil h1)) hdb)

/-! ### methods -/
/-- one class's method of that name -/
structure MethOf (X : Cx) (W : WX) (name : Str) (c : Str) (m : Fn) : Prop where
  ex : ∀ C, X.mg c = some (.ref C) → ∃ (g : Addr) (CX : CXT) (k n : Nat) (fd : FuncData) (ps : List Str), Cls X.K C ∧ Meth X.K C name g ∧ FnOk X.prog X.w X.K X.mg X.base CX k g fd ps (spM X.K X.mg n m) ∧ Room k X.A ∧ Binds X.K fd ps [] ∧ Hx CX X W ∧ ∀ ds S, ds.length ≠ n → m ds S = .bad
def MethTab (X : Cx) (W : WX) (name : Str) (tab : List (Str × Fn)) : Prop := ∀ c m, tab.lookup c = some m → MethOf X W name c m
theorem mt_nil {name : Str} : MethTab X W name [] := fun c m h => by cases h
theorem mt_cons {name c : Str} {m : Fn} {tab : List (Str × Fn)} (h : MethOf X W name c m) (t : MethTab X W name tab) : MethTab X W name ((c, m) :: tab) := fun c' m' e => by
  simp only [List.lookup] at e
  split at e
  · rename_i q
    have q := beq_iff_eq.mp q
    subst q
    cases e
    exact h
  · exact t c' m' e
/-- the method of an instance -/
def methD (name : Str) (tab : List (Str × Fn)) (S : ST) : D → Option Fn
  | .ref n => match S[n]? with | some (.ins c fs) => (match fs.lookup name with | none => tab.lookup c | some _ => none) | _ => none
  | _ => none
def eMeth (name : Str) (tab : List (Str × Fn)) (fo : ME) (ga : MA) : ME := fun G S => (fo G S).bind fun o S1 => match methD name tab S1 o with
  | some m => (ga G S1).bind fun ds S2 => m (o :: ds) S2
  | none => .bad
theorem methD_ok {name : Str} {tab : List (Str × Fn)} {ρ : List Addr} {S : ST} {H : Hp} {d : D} {v : V} {m : Fn} (s : Sim X.K X.mg ρ S H) (r : VR X.K ρ H d v) (h : methD name tab S d = some m) :
    ∃ a c C dx fs, v = .ref a ∧ X.mg c = some (.ref C) ∧ H a = some (.ins C dx fs) ∧ fs.lookup name = none ∧ tab.lookup c = some m := by
  unfold methD at h
  split at h
  · split at h
    · rename_i h1
      obtain ⟨a, rfl, p1, C, dx, gs, hmg, w1, v1⟩ := s.ref r h1
      split at h
      · rename_i hl
        have q := v1.lookup name
        rw [hl] at q
        cases e : gs.lookup name with
        | some v => rw [e] at q; exact q.elim
        | none => exact ⟨a, _, C, dx, gs, rfl, hmg, w1, e, h⟩
      · cases h
    · cases h
  · cases h
/-- what lies between: the promise, for a receiver and arguments -/
theorem meth_sp {n : Nat} {m : Fn} {ρ : List Addr} {S : ST} {H : Hp} {σ : L2.St} {ds : List D} {vs : List V} {Q : VK} (hl : ∀ ds S, ds.length ≠ n → m ds S = .bad) (s : Sim X.K X.mg ρ S H) (r : VRs X.K ρ H ds vs) (o : OutG X W (rV X) ρ σ H (m ds S) Q) : spM X.K X.mg n m (vs ++ []) H Q (WE W σ) := by
  have l : ds.length = n := by
    by_cases c : ds.length = n
    · exact c
    · rw [hl _ _ c] at o; exact o.elim
  refine ⟨ρ, S, ds, by rw [List.append_nil]; exact r, l, s, ?_⟩
  cases e : m ds S with
  | ok d S' => rw [e] at o; exact o
  | exc c fs S' => rw [e] at o; exact o
  | bad => rw [e] at o; exact o
theorem de_meth {name : Str} {tab : List (Str × Fn)} {pl : Sem Bool} (ht : MethTab X W name tab) (ho : DE X W o fo) (ha : DA X W (e :: es) ga) (hst : starEach (e :: es) X.env = (false, eval e X.env) :: starEach es X.env := by rfl) (hpl : (backTo pos (starEach es X.env)).any (·.1) = false := by rfl)
    (hx : eval (.Call (.Attribute o name apos) (e :: es) [] pos) X.env = (do
      let ov ← eval o X.env
      standAt apos.atName
      let (f, first) ← holding [ov] (getMethod ov name pl)
      callWith pos f first (backTo pos (starEach (e :: es) X.env)) (backToKw pos (keywordEach [] X.env))) := by rfl) :
    DE X W (.Call (.Attribute o name apos) (e :: es) [] pos) (eMeth name tab fo ga) := by
  refine ⟨fun pins s σ H Q I h => ?_⟩
  refine methcall_of (Q := EP X pins σ Q) (pl := pl) ho I ?_ hx
  refine tG_mono (tG_bind (f := fo) (g := fun o G S1 => match methD name tab S1 o with
    | some m => (ga G S1).bind fun ds S2 => m (o :: ds) S2
    | none => .bad) h) fun x H1 q => ?_
  obtain ⟨ρ, G, S, d, g, sm, r, out⟩ := q
  split at out
  · rename_i m hm
    obtain ⟨a, c, C, dx, fs, rfl, hmg, w1, hl, htb⟩ := methD_ok sm r hm
    obtain ⟨f, CX, k, n, fd, ps, kc, km, F, hr, hb, hxx, hln⟩ := (ht c m htb).ex C hmg
    refine ⟨a, C, dx, fs, f, rfl, w1, kc, km, hl, fun s1 I1 => ?_⟩
    have arg : tA X W ga σ H1 fun vs H2 => spM X.K X.mg n m ((.ref a :: vs) ++ []) H2 Q (WE W σ) := by
      refine ⟨ρ, G, S, g, sm, OutG.mono (out_bind (rel := rVs X) out) (.refl _ _) fun vs H2 q2 => ?_⟩
      obtain ⟨ρ2, S2, ds, x2, s2, r2, o2⟩ := q2
      exact meth_sp hln s2 (.cons (VR.mono x2 r) r2) o2
    refine PySem.W.callWith_K (first := [.ref a]) (h₀ := X.base) I.ok.mod.kin km.kp (thn (ha.run pos pins s1 σ H1 _ I1 arg) fun us s2 ⟨vs, H2, I2, rv, q2⟩ => ⟨I2.kIn, ?_⟩) hst hpl
    exact run_fnSD (us := .ref a :: us) (vs := .ref a :: vs) (dvs := []) (E := fun σ => WE W σ) F hr hb .nil (hxx σ) I2 (.cons rfl rv) q2
  · exact out.elim
theorem de_meth0 {name : Str} {tab : List (Str × Fn)} {pl : Sem Bool} (ht : MethTab X W name tab) (ho : DE X W o fo)
    (hx : eval (.Call (.Attribute o name apos) [] [] pos) X.env = (do
      let ov ← eval o X.env
      standAt apos.atName
      let (f, first) ← holding [ov] (getMethod ov name pl)
      callWith pos f first (backTo pos (starEach [] X.env)) (backToKw pos (keywordEach [] X.env))) := by rfl) :
    DE X W (.Call (.Attribute o name apos) [] [] pos) (eMeth name tab fo aNil) := by
  refine ⟨fun pins s σ H Q I h => ?_⟩
  refine methcall_of (Q := EP X pins σ Q) (pl := pl) ho I ?_ hx
  refine tG_mono (tG_bind (f := fo) (g := fun o G S1 => match methD name tab S1 o with
    | some m => (aNil G S1).bind fun ds S2 => m (o :: ds) S2
    | none => .bad) h) fun x H1 q => ?_
  obtain ⟨ρ, G, S, d, g, sm, r, out⟩ := q
  split at out
  · rename_i m hm
    obtain ⟨a, c, C, dx, fs, rfl, hmg, w1, hl, htb⟩ := methD_ok sm r hm
    obtain ⟨f, CX, k, n, fd, ps, kc, km, F, hr, hb, hxx, hln⟩ := (ht c m htb).ex C hmg
    refine ⟨a, C, dx, fs, f, rfl, w1, kc, km, hl, fun s1 I1 => ?_⟩
    have q2 : spM X.K X.mg n m ([.ref a] ++ []) H1 Q (WE W σ) := meth_sp hln sm (.cons r .nil) out
    exact PySem.W.callWith_K0 (first := [.ref a]) I1.kIn km.kp (run_fnSD (us := [.ref a]) (vs := [.ref a]) (dvs := []) (E := fun σ => WE W σ) F hr hb .nil (hxx σ) I1 (.cons rfl .nil) q2)
  · exact out.elim

/-! ### new instances -/
/-- c(..), whose __init__ lets nothing out -/
def eMake (c : Str) (n : Nat) (m : Fn) (ga : MA) : ME := fun G S => (ga G S).bind fun ds S1 => if ds.length + 1 = n then (match m (.ref S1.length :: ds) (S1 ++ [.ins c []]) with
  | .ok .non S2 => .ok (.ref S1.length) S2
  | _ => .bad) else .bad
theorem make_sp {c : Str} {C : Addr} {n : Nat} {m : Fn} {ρ : List Addr} {S : ST} {H : Hp} {σ : L2.St} {ds : List D} {vs : List V} {Q : VK} (hmg : X.mg c = some (.ref C)) (s : Sim X.K X.mg ρ S H) (r : VRs X.K ρ H ds vs) (hl : ds.length + 1 = n)
    (o : OutG X W (rV X) ρ σ H (match m (.ref S.length :: ds) (S ++ [.ins c []]) with | .ok .non S2 => .ok (.ref S.length) S2 | _ => .bad) Q) :
    ∀ x dx, H x = none → H dx = none → dx ≠ x → spM X.K X.mg n m (.ref x :: (vs ++ [])) (upd (upd H dx (.own x)) x (.ins C dx [])) (fun v H2 => v = .non ∧ Q (.ref x) H2) E0 := by
  intro x dx hx hdx hne
  have hx1 : upd H dx (.own x) x = none := by rw [upd_ne (Ne.symm hne)]; exact hx
  have s1 : Sim X.K X.mg ρ S (upd H dx (.own x)) := s.junk hdx
  have e1 : Ext ρ H ρ (upd H dx (.own x)) := .junk hdx
  have s2 := s1.alloc (ho := .ins C dx []) (o := .ins c []) hx1 ⟨C, dx, [], hmg, upd_same, .nil⟩
  have e2 : Ext ρ H (ρ ++ [x]) (upd (upd H dx (.own x)) x (.ins C dx [])) := e1.trans (.alloc hx1)
  have rx : VR X.K (ρ ++ [x]) (upd (upd H dx (.own x)) x (.ins C dx [])) (.ref S.length) (.ref x) := VR.alloc s1
  refine ⟨ρ ++ [x], S ++ [.ins c []], .ref S.length :: ds, .cons rx (by rw [List.append_nil]; exact r.mono e2), by simpa using hl, s2, ?_⟩
  cases q : m (.ref S.length :: ds) (S ++ [.ins c []]) with
  | ok d S2 =>
    rw [q] at o
    cases d <;> first | exact o.elim | skip
    exact fun ρ3 H3 v x3 s3 r3 => ⟨VR_non.mp r3, o ρ3 H3 _ (e2.trans x3) s3 (VR.mono x3 rx)⟩
  | exc c fs S2 => rw [q] at o; exact o.elim
  | bad => rw [q] at o; exact o.elim
theorem de_make {c : Str} {C : Addr} {k n : Nat} {f : Addr} {fd : FuncData} {ps : List Str} {m : Fn} (M : Mk X.K C f) (F : FnOk X.prog X.w X.K X.mg X.base CX0 k f fd ps (spM X.K X.mg n m)) (hr : Room (k + 1) X.A) (hg : Gl X c) (hm : X.mg c = some (.ref C)) (hb : Binds X.K fd ps [])
    (ha : DA X W (e :: es) ga) (hdb : (c == ("__debug__" : Str)) = false := by decide) (he : starEach (e :: es) X.env = (false, eval e X.env) :: starEach es X.env := by rfl) (hpl : (backTo pos (starEach es X.env)).any (·.1) = false := by rfl) :
    DE X W (.Call (.Name c p) (e :: es) [] pos) (eMake c n m ga) := by
  refine PE.weak (pe_make M F hr hg hm hb .nil pass0 ha hdb he hpl) fun σ H Q h => ?_
  refine tG_mono (tG_bind (f := ga) (g := fun ds G S1 => if ds.length + 1 = n then (match m (.ref S1.length :: ds) (S1 ++ [.ins c []]) with
    | .ok .non S2 => R.ok (D.ref S1.length) S2
    | _ => .bad) else .bad) h) fun xs H1 q => ?_
  obtain ⟨ρ, G, S, ds, g, s, r, o⟩ := q
  split at o
  · rename_i l
    exact make_sp hm s r l o
  · exact o.elim
theorem de_make0 {c : Str} {C : Addr} {k n : Nat} {f : Addr} {fd : FuncData} {ps : List Str} {m : Fn} (M : Mk X.K C f) (F : FnOk X.prog X.w X.K X.mg X.base CX0 k f fd ps (spM X.K X.mg n m)) (hr : Room (k + 1) X.A) (hg : Gl X c) (hm : X.mg c = some (.ref C)) (hb : Binds X.K fd ps [])
    (hdb : (c == ("__debug__" : Str)) = false := by decide) : DE X W (.Call (.Name c p) [] [] pos) (eMake c n m aNil) := by
  refine PE.weak (pe_make0 M F hr hg hm hb .nil pass0 hdb) fun σ H Q h => ?_
  obtain ⟨ρ, G, S, g, s, o⟩ := h
  unfold eMake aNil at o
  rw [R.bind_ok] at o
  split at o
  · rename_i l
    exact make_sp hm s .nil l o
  · exact o.elim

/-! ### dict displays -/
def pairsF : List (ME × ME) → GE → ST → R (List (D × D))
  | [], _, S => .ok [] S
  | (f, g) :: r, G, S => (f G S).bind fun k S1 => (g G S1).bind fun v S2 => (pairsF r G S2).bind fun ps S3 => .ok ((k, v) :: ps) S3
abbrev trsOf (X : Cx) (W : WX) (fs : List (ME × ME)) : List (TE × TE) := fs.map fun p => (tE X W p.1, tE X W p.2)
theorem dps_nil {pos : Pos} : PPs X pos [] [] (trsOf X W []) := pps_nil
theorem dps_cons {pos : Pos} {k v : Expr} {ks : List (Option Expr)} {vs : List Expr} {fk fv : ME} {fs : List (ME × ME)} (hk : DE X W k fk) (hv : DE X W v fv) (hr : PPs X pos ks vs (trsOf X W fs)) : PPs X pos (some k :: ks) (v :: vs) (trsOf X W ((fk, fv) :: fs)) := pps_cons hk hv hr
theorem tPairs_mono : ∀ {fs : List (ME × ME)} {σ : L2.St} {H : Hp} {Q Q' : List (V × V) → Hp → Prop}, tPairs (trsOf X W fs) σ H Q → (∀ v H, Q v H → Q' v H) → tPairs (trsOf X W fs) σ H Q'
  | [], _, _, _, _, h, q => q _ _ h
  | p :: r, _, _, _, _, h, q => tG_mono h fun _ _ h1 => tG_mono h1 fun _ _ h2 => tPairs_mono (fs := r) h2 fun _ _ h3 => q _ _ h3
theorem pairs_end : ∀ {fs : List (ME × ME)} {ρ : List Addr} {G : GE} {S : ST} {σ : L2.St} {H : Hp} {Q : List (V × V) → Hp → Prop} (g : GR X.K ρ H G σ) (s : Sim X.K X.mg ρ S H)
    (h : OutG X W (fun ρ H (ps : List (D × D)) (qs : List (V × V)) => VRs X.K ρ H (ps.map (·.1)) (qs.map (·.1)) ∧ VRs X.K ρ H (ps.map (·.2)) (qs.map (·.2))) ρ σ H (pairsF fs G S) Q), tPairs (trsOf X W fs) σ H Q
  | [], ρ, G, S, σ, H, Q, g, s, h => h ρ H [] (.refl _ _) s ⟨.nil, .nil⟩
  | (f, f') :: r, ρ, G, S, σ, H, Q, g, s, h => by
    unfold pairsF at h
    refine ⟨ρ, G, S, g, s, OutG.mono (out_bind (rel := rV X) h) (.refl _ _) fun x H1 q => ?_⟩
    obtain ⟨ρ1, S1, k, x1, s1, r1, o1⟩ := q
    refine ⟨ρ1, G, S1, g.mono x1, s1, OutG.mono (out_bind (rel := rV X) o1) (.refl _ _) fun y H2 q => ?_⟩
    obtain ⟨ρ2, S2, v, x2, s2, r2, o2⟩ := q
    refine pairs_end (fs := r) ((g.mono x1).mono x2) s2 (OutG.mono (out_bind o2) (.refl _ _) fun qs H3 q => ?_)
    obtain ⟨ρ3, S3, ps, x3, s3, r3, o3⟩ := q
    exact o3 ρ3 H3 _ (.refl _ _) s3 ⟨.cons (VR.mono (x2.trans x3) r1) r3.1, .cons (VR.mono x3 r2) r3.2⟩
def keysD : List (D × D) → Option (List (Key × D))
  | [] => some []
  | (k, v) :: r => match k.key, keysD r with | some k, some t => some ((k, v) :: t) | _, _ => none
def dmerge (kvs : List (Key × D)) : List (Key × D) := kvs.foldl (fun acc kv => dput acc kv.1 kv.2) []
def eDict (fs : List (ME × ME)) : ME := fun G S => (pairsF fs G (S ++ [.dk []])).bind fun ps S1 => match S1[S.length]?, keysD ps with
  | some (.dk []), some kvs => if kvs.length ≤ 15 then .ok (.ref S.length) (S1.set S.length (.dk (dmerge kvs))) else .bad
  | _, _ => .bad
theorem keysD_ok {K : PySem.W.Frag} {ρ : List Addr} {H : Hp} : ∀ {ps : List (D × D)} {qs : List (V × V)} {kvs : List (Key × D)}, VRs K ρ H (ps.map (·.1)) (qs.map (·.1)) → VRs K ρ H (ps.map (·.2)) (qs.map (·.2)) → keysD ps = some kvs →
    ∃ ws : List (Key × V), qs = ws.map (fun kv => (kV kv.1, kv.2)) ∧ FR K ρ H kvs ws
  | [], [], kvs, h1, h2, e => by cases e; exact ⟨[], rfl, .nil⟩
  | [], q :: qs, kvs, h1, h2, e => by cases h1.nil_l
  | (k, v) :: ps, [], kvs, h1, h2, e => by
    obtain ⟨_, _, e, _⟩ := h1.cons_l
    cases e
  | (k, v) :: ps, (x, y) :: qs, kvs, h1, h2, e => by
    obtain ⟨a1, b1⟩ := h1.cons_inv
    obtain ⟨a2, b2⟩ := h2.cons_inv
    unfold keysD at e
    split at e
    · rename_i k' t e1 e2
      cases e
      obtain ⟨ws, rfl, fr⟩ := keysD_ok b1 b2 e2
      have := a1.key e1
      have hx : x = kV k' := this
      subst hx
      exact ⟨(k', y) :: ws, rfl, .cons a2 fr⟩
    · cases e
theorem FR.fold {K : PySem.W.Frag} {ρ : List Addr} {H : Hp} : ∀ {kvs : List (Key × D)} {ws : List (Key × V)} {acc : List (Key × D)} {acc' : List (Key × V)}, FR K ρ H kvs ws → FR K ρ H acc acc' → FR K ρ H (kvs.foldl (fun acc kv => dput acc kv.1 kv.2) acc) (mergeK acc' ws)
  | [], ws, acc, acc', h, a => by rw [h.nil_l]; exact a
  | (k, d) :: kvs, ws, acc, acc', h, a => by
    obtain ⟨v, r, rfl, h1, h2⟩ := h.cons_l
    show FR K ρ H (kvs.foldl (fun acc kv => dput acc kv.1 kv.2) (dput acc k d)) (mergeK (putK acc' k v) r)
    exact FR.fold (kvs := kvs) h2 (a.put h1)
theorem de_dict {keys : List (Option Expr)} {values : List Expr} {fs : List (ME × ME)} (h : PPs X pos keys values (trsOf X W fs)) (hall : keys.all (·.isSome) = true := by rfl) (hl : keys.length = values.length := by rfl) (h0 : keys ≠ [] := by exact fun z => by cases z)
    (h15 : keys.length ≤ 15 := by decide) : DE X W (.Dict keys values pos) (eDict fs) := by
  refine PE.weak (pe_disp h hall hl h0 h15) fun σ H Q h => ?_
  obtain ⟨ρ, G, S, g, s, o⟩ := h
  intro p hp
  have s1 := s.alloc (ho := .dK []) (o := .dk []) hp ⟨[], upd_same, .nil⟩
  have x1 : Ext ρ H (ρ ++ [p]) (upd H p (.dK [])) := .alloc hp
  have rp : VR X.K (ρ ++ [p]) (upd H p (.dK [])) (.ref S.length) (.ref p) := VR.alloc s
  unfold eDict at o
  refine pairs_end (g.mono x1) s1 (OutG.mono (out_bind (OutG.mono (r := (pairsF fs G (S ++ [.dk []])).bind _) o x1 fun _ _ z => z)) (.refl _ _) fun qs H2 q => ?_)
  obtain ⟨ρ2, S2, ps, x2, s2, r2, o2⟩ := q
  split at o2
  · rename_i kvs h1 h2
    split at o2
    · rename_i hl
      have rp2 := VR.mono x2 rp
      obtain ⟨p', e, p1, ws0, w1, v1⟩ := s2.ref rp2 h1
      cases e
      have e0 : ws0 = [] := v1.nil_l
      subst e0
      obtain ⟨ws, e1, fr⟩ := keysD_ok r2.1 r2.2 h2
      refine ⟨w1, ws, e1, by rw [← fr.length]; exact hl, ?_⟩
      have hm : Mut (H2 p) := by rw [w1]; exact True.intro
      refine o2 ρ2 _ _ (.write hm) (s2.write p1 hm ⟨_, upd_same, FR.mono (.write hm) (FR.fold fr .nil)⟩) (VR.mono (.write hm) rp2)
    · exact o2.elim
  · exact o2.elim
theorem de_dict0 : DE X W (.Dict [] [] pos) (fun _ S => allocO (.dk []) S) := by
  refine PE.weak pe_dnewK fun σ H Q h => ?_
  obtain ⟨ρ, G, S, g, s, o⟩ := h
  exact alloc_ok s o fun p hp => ⟨[], upd_same, .nil⟩

/-! ### isinstance -/
def tyN (S : ST) : D → Option String
  | .non => some "NoneType"
  | .bl _ => some "bool"
  | .int _ => some "int"
  | .str _ => some "str"
  | .tup _ => some "tuple"
  | .fl _ => some "list"
  | .ref n => match S[n]? with | some (.lst _) => some "list" | some (.dk _) => some "dict" | some (.dt _) => some "dict" | _ => none
  | .opq _ => none
def subN (t T : String) : Option Bool := match T with
  | "int" => some (t == "int" || t == "bool")
  | "bool" => some (t == "bool")
  | "str" => some (t == "str")
  | "tuple" => some (t == "tuple")
  | "list" => some (t == "list")
  | "dict" => some (t == "dict")
  | _ => none
theorem tyN_ok {ρ : List Addr} {S : ST} {H : Hp} {d : D} {v : V} {t : String} (s : Sim X.K X.mg ρ S H) (r : VR X.K ρ H d v) (h : tyN S d = some t) : TyX X.K H v (.type t) ∧ (t = "NoneType" ∨ t = "bool" ∨ t = "int" ∨ t = "str" ∨ t = "tuple" ∨ t = "list" ∨ t = "dict") := by
  cases d with
  | non => rw [VR_non] at r; subst r; cases h; exact ⟨.base .non, by simp⟩
  | bl b => rw [VR_bl] at r; subst r; cases h; exact ⟨.base (.bl _), by simp⟩
  | int b => rw [VR_int] at r; subst r; cases h; exact ⟨.base (.int _), by simp⟩
  | str b => rw [VR_str] at r; subst r; cases h; exact ⟨.base (.str _), by simp⟩
  | tup ds =>
    obtain ⟨p, vs, rfl, q, v1⟩ := VR_tup.mp r
    cases h
    refine ⟨?_, by simp⟩
    rcases q with (q | ⟨o, q⟩) | ⟨o, its, n, hk, hc, _⟩
    · exact .base (.tup q)
    · exact .fTuple q
    · exact .kTuple hk hc
  | fl ds =>
    obtain ⟨p, vs, rfl, q, v1⟩ := VR_fl.mp r
    cases h
    refine ⟨?_, by simp⟩
    rcases q with ⟨o, q⟩ | ⟨o, its, n, hk, hc, _⟩
    · exact .base (.frz q)
    · exact .kList hk hc
  | ref n =>
    unfold tyN at h
    dsimp only at h
    split at h
    · rename_i h1
      cases h
      obtain ⟨a, rfl, p1, vs, w1, v1⟩ := s.ref r h1
      exact ⟨.base (.lst w1), by simp⟩
    · rename_i h1
      cases h
      obtain ⟨a, rfl, p1, vs, w1, v1⟩ := s.ref r h1
      exact ⟨.base (.dK w1), by simp⟩
    · rename_i h1
      cases h
      obtain ⟨a, rfl, p1, vs, w1, v1⟩ := s.ref r h1
      exact ⟨.base (.dT w1), by simp⟩
    · cases h
  | opq u => cases h
def bIsi : List D → C D := fun ds S => match ds with
  | [d, .opq (.ty T)] => (match (tyN S d).bind fun t => subN t T with | some b => .ok (.bl b) S | none => .bad)
  | _ => .bad
theorem subN_ok {K : PySem.W.Frag} {t T : String} {b : Bool} (ht : t = "NoneType" ∨ t = "bool" ∨ t = "int" ∨ t = "str" ∨ t = "tuple" ∨ t = "list" ∨ t = "dict") (h : subN t T = some b) : PySem.W.kitOne K (.type t) (.type T) = some b := by
  unfold subN at h
  split at h
  all_goals first
    | (cases h; done)
    | (cases h
       rcases ht with rfl | rfl | rfl | rfl | rfl | rfl | rfl <;> exact kit_ty (by decide +kernel))
theorem bi_isi : Bi X W (.builtin "isinstance") bIsi := by
  refine ⟨_, call_isi, fun ρ S H σ ds xs Q s r o => ?_⟩
  unfold bIsi at o
  split at o
  · obtain ⟨v, w, rfl, r1, r2⟩ := r.two
    rw [VR_opq] at r2; subst r2
    split at o
    · rename_i b hb
      rw [Option.bind_eq_some_iff] at hb
      obtain ⟨t, h1, h2⟩ := hb
      obtain ⟨h3, h4⟩ := tyN_ok s r1 h1
      exact ⟨v, _, _, _, b, rfl, .ty _, h3, subN_ok h4 h2, o ρ H _ (.refl _ _) s (VR_bl.mpr rfl)⟩
    · exact o.elim
  · exact o.elim
/-- a built-in class as a value -/
theorem de_ty {T : String} (hg : Gl X x) (hm : X.mg x = none) (hv : bootBuiltins x = some (.type T)) (hn : x ≠ "__name__" := by decide) (hd : (x == ("__debug__" : Str)) = false := by decide) : DE X W (.Name x pos) (eC (.opq (.ty T))) :=
  PE.weak (pe_bltn hg hm hv (v := .ty T) rfl hn hd) fun σ H Q h => eC_ok (fun ρ => VR_opq.mpr rfl) h
end
end Mir

namespace Mir
open PySem L2 PyProof.Rows
section
variable {X : Cx} {W : WX} {a b c e o i tg iter : Expr} {es : List Expr} {fa fb fc fe fo fi : ME} {ga : MA} {pos p apos : Pos} {x : Str}

/-! ### while -/
def whStep (rec : MS) (t : MT) (b : MS) : MS := fun G S => (t G S).s G fun k S1 => if k = true then (match b G S1 with
    | .nx G' S' => rec G' S'
    | .ct G' S' => rec G' S'
    | .bk G' S' => .nx G' S'
    | r => r) else .nx G S1
def whileF : Nat → MT → MS → MS
  | 0, _, _ => fun _ _ => .bad
  | n + 1, t, b => whStep (whileF n t b) t b
theorem whStep_imp {f g : MS} {t : MT} {b : MS} {G : GE} {S : ST} (h : ∀ G S, f G S ≠ .bad → g G S = f G S) (hb : whStep f t b G S ≠ .bad) : whStep g t b G S = whStep f t b G S := by
  unfold whStep at hb ⊢
  cases e : t G S with
  | ok k S1 =>
    rw [e] at hb
    rw [R.s_ok] at hb ⊢
    rw [R.s_ok]
    by_cases c : k = true
    · rw [if_pos c] at hb ⊢
      rw [if_pos c]
      cases q : b G S1 with
      | nx G' S' => rw [q] at hb; exact h _ _ hb
      | ct G' S' => rw [q] at hb; exact h _ _ hb
      | _ => rfl
    · rw [if_neg c, if_neg c]
  | exc c fs S1 => rfl
  | bad => rfl
theorem whileF_mono {t : MT} {b : MS} : ∀ (n : Nat) {G : GE} {S : ST}, whileF n t b G S ≠ .bad → whileF (n + 1) t b G S = whileF n t b G S
  | 0, G, S, h => absurd rfl h
  | n + 1, G, S, h => whStep_imp (fun G S h => whileF_mono n h) h
theorem whileF_le {t : MT} {b : MS} {G : GE} {S : ST} {n : Nat} (h : whileF n t b G S ≠ .bad) : ∀ {m : Nat}, n ≤ m → whileF m t b G S = whileF n t b G S := by
  intro m hm
  induction hm with
  | refl => rfl
  | step _ ih => rw [whileF_mono _ (by rw [ih]; exact h), ih]
open Classical in
noncomputable def sWhile (t : MT) (b : MS) : MS := fun G S => if h : ∃ n, whileF n t b G S ≠ .bad then whileF (Classical.choose h) t b G S else .bad
theorem sWhile_eq {t : MT} {b : MS} {G : GE} {S : ST} (n : Nat) (h : whileF n t b G S ≠ .bad) : sWhile t b G S = whileF n t b G S := by
  have hx : ∃ n, whileF n t b G S ≠ .bad := ⟨n, h⟩
  unfold sWhile
  rw [dif_pos hx]
  have hc := Classical.choose_spec hx
  rcases Nat.le_total n (Classical.choose hx) with l | l
  · exact whileF_le h l
  · exact (whileF_le hc l).symm
theorem sWhile_bad {t : MT} {b : MS} {G : GE} {S : ST} (h : ∀ n, whileF n t b G S = .bad) : sWhile t b G S = .bad := by
  unfold sWhile
  rw [dif_neg (fun ⟨n, z⟩ => z (h n))]
/-- one turn -/
theorem sWhile_step {t : MT} {b : MS} {G : GE} {S : ST} : sWhile t b G S = whStep (sWhile t b) t b G S := by
  by_cases hx : ∃ n, whStep (whileF n t b) t b G S ≠ .bad
  · obtain ⟨n, h⟩ := hx
    rw [sWhile_eq (n + 1) h]
    exact (whStep_imp (fun G S h => sWhile_eq n h) h).symm
  · have hn : ∀ n, whStep (whileF n t b) t b G S = .bad := fun n => Classical.byContradiction fun h => hx ⟨n, h⟩
    rw [sWhile_bad fun n => by cases n with | zero => rfl | succ n => exact hn n]
    unfold whStep at hn ⊢
    cases e : t G S with
    | ok k S1 =>
      simp only [e, R.s_ok] at hn ⊢
      by_cases c : k = true
      · simp only [if_pos c] at hn ⊢
        cases q : b G S1 with
        | nx G' S' => simp only [q] at hn; exact (sWhile_bad hn).symm
        | ct G' S' => simp only [q] at hn; exact (sWhile_bad hn).symm
        | bk G' S' => simp only [q] at hn; exact (hn 0).symm
        | rt d S' => simp only [q] at hn; exact (hn 0).symm
        | exc c fs G' S' => simp only [q] at hn; exact (hn 0).symm
        | bad => rfl
      · simp only [if_neg c] at hn ⊢
        exact (hn 0).symm
    | exc c fs S1 => simp only [e, R.s_exc] at hn; exact (hn 0).symm
    | bad => rfl
theorem ds_while {t : MT} {f : MS} {body : List Stmt} (hp : PassesOwn (model X.prog X.w) X.A X.env X.xe) (hc : DT X W c t) (hb : DSs X W body f) : DS X W (.While c body [] pos) (sWhile t f) := by
  refine PS.weak (ps_while hp hc hb) fun Dn σ H h => ?_
  obtain ⟨ρ0, G0, S0, g0, s0, o0⟩ := h
  have ex : ∃ n, whileF n t f G0 S0 ≠ .bad := by
    apply Classical.byContradiction
    intro z
    rw [sWhile_bad fun n => Classical.byContradiction fun h => z ⟨n, h⟩] at o0
    exact o0
  obtain ⟨n0, h0⟩ := ex
  rw [sWhile_eq n0 h0] at o0
  refine ⟨fun m σ H => ∃ ρ G S, GR X.K ρ H G σ ∧ Sim X.K X.mg ρ S H ∧ OutS X W ρ H (whileF m t f G S) Dn, ⟨n0, ρ0, G0, S0, g0, s0, o0⟩, ?_⟩
  rintro m σ1 H1 ⟨ρ, G, S, g, s, o⟩
  cases m with
  | zero => exact (show False from o).elim
  | succ m =>
    have o : OutS X W ρ H1 (whStep (whileF m t f) t f G S) Dn := o
    unfold whStep at o
    refine ⟨ρ, G, S, g, s, OutG.mono (outS_bind (rel := rB) g o) (.refl _ _) fun k H2 q => ?_⟩
    obtain ⟨ρ2, S2, k', x2, s2, r2, o2⟩ := q
    have r2 : k = k' := r2
    subst r2
    have g2 := g.mono x2
    by_cases c : k = true
    · rw [if_pos c] at o2 ⊢
      refine ⟨fun σ H => ∃ ρ G S, GR X.K ρ H G σ ∧ Sim X.K X.mg ρ S H ∧ OutS X W ρ H (whileF m t f G S) Dn, fun σ' H' n' => ⟨m, Nat.lt_succ_self m, n'⟩, ρ2, G, S2, g2, s2, ?_⟩
      cases q : f G S2 with
      | nx G' S' => rw [q] at o2; exact fun ρ3 H3 σ3 x3 s3 g3 => ⟨ρ3, G', S', g3, s3, OutS.mono (r := whileF m t f G' S') o2 x3⟩
      | ct G' S' => rw [q] at o2; exact fun ρ3 H3 σ3 x3 s3 g3 => ⟨ρ3, G', S', g3, s3, OutS.mono (r := whileF m t f G' S') o2 x3⟩
      | bk G' S' => rw [q] at o2; exact o2
      | rt d S' => rw [q] at o2; exact o2
      | exc c fs G' S' => rw [q] at o2; exact o2
      | bad => rw [q] at o2; exact o2
    · rw [if_neg c] at o2 ⊢
      exact outS_nx g2 s2 o2

/-! ### what is walked -/
/-- items, and the list that has to stay -/
structure Src where
  ds : List D
  gd : Option Nat
def Src.ok (r : Src) (S : ST) : Prop := match r.gd with | none => True | some n => S[n]? = some (.lst r.ds)
/-- an iterator of these items -/
def IsSrc (X : Cx) (ρ : List Addr) (H : Hp) (r : Src) (J : It) : Prop := ∃ (G : Hp → Prop) (Y : Nat → Hp → V → Hp → Prop), L2.Walk J r.ds.length G Y ∧
  (∀ ρ1 S1 H1, Ext ρ H ρ1 H1 → Sim X.K X.mg ρ1 S1 H1 → r.ok S1 → G H1) ∧
  ∀ (i : Nat) ρ1 S1 H1 x H2, i < r.ds.length → Ext ρ H ρ1 H1 → Sim X.K X.mg ρ1 S1 H1 → r.ok S1 → Y i H1 x H2 → Ext ρ1 H1 ρ1 H2 ∧ Sim X.K X.mg ρ1 S1 H2 ∧ ∃ d, r.ds[i]? = some d ∧ VR X.K ρ1 H2 d x
abbrev MI := GE → ST → R Src
abbrev tI (X : Cx) (W : WX) (f : MI) : TI := tG X W (fun ρ H r J => IsSrc X ρ H r J) f
abbrev DI (X : Cx) (W : WX) (tg iter : Expr) (f : MI) : Prop := PI X tg iter (tI X W f)
theorem PI.weak {w w' : TI} (h : PI X tg iter w) (k : ∀ σ H R, w' σ H R → w σ H R) : PI X tg iter w' := ⟨fun pins s σ H R I q => h.run pins s σ H R I (k σ H R q)⟩
theorem PI.orr {w w' : TI} (h : PI X tg iter w) (h' : PI X tg iter w') : PI X tg iter (fun σ H R => w σ H R ∨ w' σ H R) := ⟨fun pins s σ H R I q => q.elim (h.run pins s σ H R I) (h'.run pins s σ H R I)⟩
/-- one by one: the heap as it was -/
theorem src_at {J : It} {n : Nat} {G : Hp → Prop} {Y : Nat → Hp → V → Hp → Prop} {ρ : List Addr} {H : Hp} {r : Src} (w : L2.Walk J r.ds.length G Y) (hG : ∀ ρ1 S1 H1, Ext ρ H ρ1 H1 → Sim X.K X.mg ρ1 S1 H1 → r.ok S1 → G H1)
    (hY : ∀ (i : Nat) ρ1 S1 H1 x H2, i < r.ds.length → Ext ρ H ρ1 H1 → Sim X.K X.mg ρ1 S1 H1 → r.ok S1 → Y i H1 x H2 → H2 = H1 ∧ ∃ d, r.ds[i]? = some d ∧ VR X.K ρ1 H1 d x) : IsSrc X ρ H r J :=
  ⟨G, Y, w, hG, fun i ρ1 S1 H1 x H2 hi x1 s1 h1 y => by
    obtain ⟨e, d, h2, h3⟩ := hY i ρ1 S1 H1 x H2 hi x1 s1 h1 y
    subst e
    exact ⟨.refl _ _, s1, d, h2, h3⟩⟩
theorem VRs.at {K : PySem.W.Frag} {ρ : List Addr} {H : Hp} : ∀ {ds : List D} {vs : List V} {i : Nat} {v : V}, VRs K ρ H ds vs → vs[i]? = some v → ∃ d, ds[i]? = some d ∧ VR K ρ H d v
  | [], vs, i, v, h, e => by rw [h.nil_l] at e; simp at e
  | d :: ds, vs, i, v, h, e => by
    obtain ⟨u, r, rfl, h1, h2⟩ := h.cons_l
    cases i with
    | zero => simp at e; subst e; exact ⟨d, rfl, h1⟩
    | succ i => simpa using VRs.at (i := i) h2 (by simpa using e)
def seqSrc (S : ST) : D → Option Src
  | .tup ds => some ⟨ds, none⟩
  | .fl ds => some ⟨ds, none⟩
  | .ref n => match S[n]? with | some (.lst ds) => some ⟨ds, some n⟩ | _ => none
  | .str z => some ⟨z.cps.toList.map fun c => .str ⟨#[c]⟩, none⟩
  | _ => none
def iSeq (f : ME) : MI := fun G S => (f G S).bind fun d S1 => match seqSrc S1 d with | some r => .ok r S1 | none => .bad
theorem di_seq (he : DE X W iter fe) : DI X W tg iter (iSeq fe) := by
  refine PI.weak (PI.orr (pi_list he) (PI.orr (pi_tup he) (pi_str he))) fun σ H R h => ?_
  obtain ⟨ρ, G, S, g, s, o⟩ := h
  unfold iSeq at o
  cases e : fe G S with
  | exc c fs S1 =>
    rw [e] at o
    refine .inl ⟨ρ, G, S, g, s, ?_⟩
    rw [e]
    exact o
  | bad => rw [e] at o; exact o.elim
  | ok d S1 =>
    rw [e] at o
    rw [Mir.R.bind_ok] at o
    have start : ∀ {Q : VK}, (∀ ρ1 H1 v, Ext ρ H ρ1 H1 → Sim X.K X.mg ρ1 S1 H1 → VR X.K ρ1 H1 d v → Q v H1) → tE X W fe σ H Q := fun q => ⟨ρ, G, S, g, s, by rw [e]; exact q⟩
    cases d with
    | tup ds =>
      refine .inr (.inl (start fun ρ1 H1 v x1 s1 r => ?_))
      obtain ⟨a, vs, rfl, q, v1⟩ := VR_tup.mp r
      refine ⟨a, rfl, ⟨vs, q⟩, o ρ1 H1 _ x1 s1 ?_⟩
      refine src_at (n := ds.length) (r := ⟨ds, none⟩) (G := fun H => SqT X.K H a vs) (by rw [v1.length]; exact walk_tup) (fun ρ2 S2 H2 x2 _ _ => x2.kp.sqt q) fun i ρ2 S2 H2 y H3 hi x2 s2 _ hy => ?_
      obtain ⟨e1, e2⟩ := hy
      exact ⟨e1, (v1.mono x2).at e2⟩
    | fl ds =>
      refine .inl (start fun ρ1 H1 v x1 s1 r => ?_)
      obtain ⟨a, vs, rfl, q, v1⟩ := VR_fl.mp r
      refine ⟨a, rfl, ⟨vs, q.sql⟩, o ρ1 H1 _ x1 s1 ?_⟩
      refine src_at (n := ds.length) (r := ⟨ds, none⟩) (G := fun H => SqL X.K H a vs) (by rw [v1.length]; exact walk_list) (fun ρ2 S2 H2 x2 _ _ => (x2.kp.frl q).sql) fun i ρ2 S2 H2 y H3 hi x2 s2 _ hy => ?_
      obtain ⟨e1, e2⟩ := hy
      exact ⟨e1, (v1.mono x2).at e2⟩
    | str z =>
      refine .inr (.inr (start fun ρ1 H1 v x1 s1 r => ?_))
      rw [VR_str] at r; subst r
      refine ⟨z, rfl, o ρ1 H1 _ x1 s1 ?_⟩
      refine src_at (n := z.cps.size) (r := ⟨z.cps.toList.map fun c => .str ⟨#[c]⟩, none⟩) (G := fun _ => True) (by simpa using walk_str) (fun _ _ _ _ _ _ => True.intro) fun i ρ2 S2 H2 y H3 hi x2 s2 _ hy => ?_
      obtain ⟨e1, c, e2, rfl⟩ := hy
      refine ⟨e1, .str ⟨#[c]⟩, ?_, VR_str.mpr rfl⟩
      show (z.cps.toList.map _)[i]? = _
      rw [List.getElem?_map, Array.getElem?_toList, e2]
      rfl
    | ref n =>
      refine .inl (start fun ρ1 H1 v x1 s1 r => ?_)
      unfold seqSrc at o
      dsimp only at o
      cases q : S1[n]? with
      | none => rw [q] at o; exact o.elim
      | some ob =>
        rw [q] at o
        cases ob with
        | lst ds =>
          obtain ⟨a, rfl, p1, vs, w1, v1⟩ := s1.ref r q
          refine ⟨a, rfl, ⟨vs, SqL.of w1⟩, o ρ1 H1 _ x1 s1 ?_⟩
          refine ⟨fun H => ∃ ρ S, ρ[n]? = some a ∧ Sim X.K X.mg ρ S H ∧ S[n]? = some (.lst ds), fun i H x H' => H' = H ∧ ∀ xs, SqL X.K H a xs → xs[i]? = some x, ⟨fun i H hi z => ?_, fun H z => ?_, fun i H x H' hi z y => y⟩, fun ρ2 S2 H2 x2 s2 h2 => ⟨ρ2, S2, x2.get p1, s2, h2⟩, fun i ρ2 S2 H2 y H3 hi x2 s2 h2 hy => ?_⟩
          · obtain ⟨ρ2, S2, p2, s2, h2⟩ := z
            obtain ⟨vs2, w2, v2⟩ := s2.obj n a _ p2 h2
            exact ⟨vs2, vs2[i]'(by rw [← v2.length]; exact hi), SqL.of w2, by simp⟩
          · obtain ⟨ρ2, S2, p2, s2, h2⟩ := z
            obtain ⟨vs2, w2, v2⟩ := s2.obj n a _ p2 h2
            exact ⟨vs2, SqL.of w2, by rw [← v2.length]; exact Nat.le_refl _⟩
          · obtain ⟨rfl, hy⟩ := hy
            have h2 : S2[n]? = some (.lst ds) := h2
            obtain ⟨vs2, w2, v2⟩ := s2.obj n a _ (x2.get p1) h2
            exact ⟨.refl _ _, s2, v2.at (hy vs2 (SqL.of w2))⟩
        | _ => exact o.elim
    | _ => exact o.elim
/-- ranges -/
def lim62 (i : Int) : Bool := decide (-4611686018427387904 ≤ i) && decide (i < 4611686018427387904)
def rngD (lo c : Int) (n : Nat) : List D := (List.range n).map fun (i : Nat) => D.int (lo + (i : Int) * c)
theorem rngD_get {lo c : Int} {n i : Nat} (h : i < n) : (rngD lo c n)[i]? = some (.int (lo + (i : Int) * c)) := by
  unfold rngD
  rw [List.getElem?_map, List.getElem?_range h]
  rfl
theorem src_rng {J : It} {lo c : Int} {n : Nat} {ρ : List Addr} {H : Hp} (w : L2.Walk J n (fun _ => True) (YFn fun i => .int (lo + (i : Int) * c))) : IsSrc X ρ H ⟨rngD lo c n, none⟩ J := by
  refine src_at (n := n) (r := ⟨rngD lo c n, none⟩) (G := fun _ => True) (by simpa [rngD] using w) (fun _ _ _ _ _ _ => True.intro) fun i ρ2 S2 H2 y H3 hi x2 s2 _ hy => ?_
  obtain ⟨e1, e2⟩ := hy
  subst e2
  exact ⟨e1, _, rngD_get (by simpa [rngD] using hi), VR_int.mpr rfl⟩
def iRg1 (f : MA) : MI := fun G S => (f G S).bind fun ds S1 => match ds with | [.int j] => if lim62 j = true then .ok ⟨rngD 0 1 j.toNat, none⟩ S1 else .bad | _ => .bad
theorem di_range1 (hg : Gl X "range") (hm : X.mg "range" = none) (ha : DA X W [a] ga) (hs : starEach [a] X.env = [(false, eval a X.env)] := by rfl) : DI X W tg (.Call (.Name "range" p) [a] [] pos) (iRg1 ga) := by
  refine PI.weak (pi_range1 hg hm ha hs) fun σ H Rk h => ?_
  refine tG_mono (tG_bind (f := ga) (g := fun ds G S1 => match ds with | [.int j] => if lim62 j = true then R.ok (Src.mk (rngD 0 1 j.toNat) none) S1 else .bad | _ => .bad) h) fun x H1 q => ?_
  obtain ⟨ρ, G, S, ds, g, s, r, o⟩ := q
  split at o
  · rename_i j
    split at o
    · rename_i c
      obtain ⟨v, rfl, r1⟩ := VRs.one r
      rw [VR_int] at r1; subst r1
      simp only [lim62, Bool.and_eq_true, decide_eq_true_eq] at c
      refine ⟨j, rfl, by omega, by omega, o ρ H1 _ (.refl _ _) s (src_rng ?_)⟩
      simpa using walk_range (lo := 0) (n := j.toNat)
    · exact o.elim
  · exact o.elim
def iRg2 (f : MA) : MI := fun G S => (f G S).bind fun ds S1 => match ds with | [.int i, .int j] => if (lim62 i && lim62 j) = true then .ok ⟨rngD i 1 (j - i).toNat, none⟩ S1 else .bad | _ => .bad
theorem di_range2 (hg : Gl X "range") (hm : X.mg "range" = none) (ha : DA X W [a, b] ga) (hs : starEach [a, b] X.env = [(false, eval a X.env), (false, eval b X.env)] := by rfl) (hs2 : starEach [b] X.env = [(false, eval b X.env)] := by rfl) :
    DI X W tg (.Call (.Name "range" p) [a, b] [] pos) (iRg2 ga) := by
  refine PI.weak (pi_range2 hg hm ha hs hs2) fun σ H Rk h => ?_
  refine tG_mono (tG_bind (f := ga) (g := fun ds G S1 => match ds with | [.int i, .int j] => if (lim62 i && lim62 j) = true then R.ok (Src.mk (rngD i 1 (j - i).toNat) none) S1 else .bad | _ => .bad) h) fun x H1 q => ?_
  obtain ⟨ρ, G, S, ds, g, s, r, o⟩ := q
  split at o
  · rename_i i j
    split at o
    · rename_i c
      obtain ⟨v, w, rfl, r1, r2⟩ := VRs.two r
      rw [VR_int] at r1 r2; subst r1 r2
      simp only [lim62, Bool.and_eq_true, decide_eq_true_eq] at c
      refine ⟨i, j, rfl, by omega, o ρ H1 _ (.refl _ _) s (src_rng ?_)⟩
      simpa using walk_range (lo := i) (n := (j - i).toNat)
    · exact o.elim
  · exact o.elim
/-- range(i, j, -1) -/
def iRgN (f : MA) : MI := fun G S => (f G S).bind fun ds S1 => match ds with | [.int i, .int j, .int c] => if (decide (c = -1) && (lim62 i && lim62 j)) = true then .ok ⟨rngD i (-1) (i - j).toNat, none⟩ S1 else .bad | _ => .bad
theorem di_range3 (hg : Gl X "range") (hm : X.mg "range" = none) (ha : DA X W [a, b, c] ga) (hs : starEach [a, b, c] X.env = (false, eval a X.env) :: starEach [b, c] X.env := by rfl) (hpl : (backTo pos (starEach [b, c] X.env)).any (·.1) = false := by rfl) :
    DI X W tg (.Call (.Name "range" p) [a, b, c] [] pos) (iRgN ga) := by
  refine PI.weak (pi_range3 hg hm ha hs hpl) fun σ H Rk h => ?_
  refine tG_mono (tG_bind (f := ga) (g := fun ds G S1 => match ds with | [.int i, .int j, .int c] => if (decide (c = -1) && (lim62 i && lim62 j)) = true then R.ok (Src.mk (rngD i (-1) (i - j).toNat) none) S1 else .bad | _ => .bad) h) fun x H1 q => ?_
  obtain ⟨ρ, G, S, ds, g, s, r, o⟩ := q
  split at o
  · rename_i i j cc
    split at o
    · rename_i c
      obtain ⟨u, r', rfl, r1, r2⟩ := VRs.cons_l r
      obtain ⟨v, w, rfl, r2, r3⟩ := VRs.two r2
      rw [VR_int] at r1 r2 r3; subst r1 r2 r3
      simp only [lim62, Bool.and_eq_true, decide_eq_true_eq] at c
      obtain ⟨c0, c⟩ := c
      subst c0
      refine ⟨i, j, -1, (i - j).toNat, rfl, RgC.neg (by omega) (by omega) (by omega) (by omega), o ρ H1 _ (.refl _ _) s (src_rng walk_rangeC)⟩
    · exact o.elim
  · exact o.elim
end
end Mir

namespace Mir
open PySem L2 PyProof.Rows
section
variable {X : Cx} {W : WX} {a b c e o i tg iter elt : Expr} {es : List Expr} {fa fb fc fe fo fi : ME} {ga : MA} {pos p apos : Pos} {x : Str}

/-! ### for -/
open Classical in
noncomputable def forF (r : Src) (t : Tg) (body : MS) : List D → MS
  | [] => fun G S => if r.ok S then .nx G S else .bad
  | d :: ds => fun G S => if r.ok S then (match bindT t d G S with
    | some G1 => (match body G1 S with
      | .nx G2 S2 => forF r t body ds G2 S2
      | .ct G2 S2 => forF r t body ds G2 S2
      | .bk G2 S2 => .nx G2 S2
      | q => q)
    | none => .bad) else .bad
noncomputable def sFor (f : MI) (t : Tg) (body : MS) : MS := fun G S => (f G S).s G fun r S1 => forF r t body r.ds G S1
theorem ds_for {f : MI} {t : Tg} {fb : MS} {body : List Stmt} (hp : PassesOwn (model X.prog X.w) X.A X.env X.xe) (hc : X.calm = true) (hi : DI X W tg iter f) (hg : DG X tg t) (hb : DSs X W body fb)
    (hs : ∀ x, foldedSetIterable iter X.env x = pure x := by intro _; rfl) : DS X W (.For tg iter body [] pos) (sFor f t fb) := by
  refine PS.weak (ps_for hp hc hi hg hb hs) fun Dn σ H h => ?_
  refine tG_mono (tS_bind (f := f) (k := fun r G S1 => forF r t fb r.ds G S1) (rel := fun ρ H r J => IsSrc X ρ H r J) h) fun J H0 q => ?_
  obtain ⟨ρ0, G0, S0, r, g0, s0, ⟨Gd, Y, w, hG, hY⟩, o0⟩ := q
  refine for_it w (fun i σ H => ∃ ρ G S, Ext ρ0 H0 ρ H ∧ GR X.K ρ H G σ ∧ Sim X.K X.mg ρ S H ∧ OutS X W ρ H (forF r t fb (r.ds.drop i) G S) Dn) ⟨ρ0, G0, S0, .refl _ _, g0, s0, o0⟩ ?_ ?_ ?_
  · rintro i σ1 H1 hi ⟨ρ, G, S, x1, g, s, o⟩
    refine hG ρ S H1 x1 s ?_
    cases e : r.ds.drop i with
    | nil =>
      rw [e] at o
      unfold forF at o
      by_cases k : r.ok S
      · exact k
      · rw [if_neg k] at o; exact (show False from o).elim
    | cons d ds =>
      rw [e] at o
      unfold forF at o
      by_cases k : r.ok S
      · exact k
      · rw [if_neg k] at o; exact (show False from o).elim
  · rintro i v σ1 H1 H2 hi ⟨ρ, G, S, x1, g, s, o⟩ hy
    rw [List.drop_eq_getElem_cons hi] at o
    unfold forF at o
    by_cases k : r.ok S
    · rw [if_pos k] at o
      obtain ⟨x2, s2, d, hd, rd⟩ := hY i ρ S H1 v H2 hi x1 s k hy
      have ed : r.ds[i] = d := by
        rw [List.getElem?_eq_getElem hi] at hd
        exact Option.some.inj hd
      rw [ed] at o
      split at o
      · rename_i G1 hG1
        refine bindT_ok s2 (g.mono x2) rd hG1 fun vs _ g1 => ?_
        refine ⟨ρ, G1, S, g1, s2, ?_⟩
        cases q : fb G1 S with
        | nx G2 S2 => rw [q] at o; exact fun ρ3 H3 σ3 x3 s3 g3 => ⟨ρ3, G2, S2, (x1.trans x2).trans x3, g3, s3, OutS.mono (r := forF r t fb (r.ds.drop (i + 1)) G2 S2) o (x2.trans x3)⟩
        | ct G2 S2 => rw [q] at o; exact fun ρ3 H3 σ3 x3 s3 g3 => ⟨ρ3, G2, S2, (x1.trans x2).trans x3, g3, s3, OutS.mono (r := forF r t fb (r.ds.drop (i + 1)) G2 S2) o (x2.trans x3)⟩
        | bk G2 S2 => rw [q] at o; exact fun ρ3 H3 σ3 x3 s3 g3 => o ρ3 H3 σ3 (x2.trans x3) s3 g3
        | rt d S2 => rw [q] at o; exact fun ρ3 H3 v x3 s3 r3 => o ρ3 H3 v (x2.trans x3) s3 r3
        | exc c fs G2 S2 => rw [q] at o; exact fun ρ3 H3 σ3 cls dx x3 s3 g3 r3 => o ρ3 H3 σ3 cls dx (x2.trans x3) s3 g3 r3
        | bad => rw [q] at o; exact o
      · exact (show False from o).elim
    · rw [if_neg k] at o; exact (show False from o).elim
  · rintro σ1 H1 ⟨ρ, G, S, x1, g, s, o⟩
    rw [List.drop_length] at o
    unfold forF at o
    by_cases k : r.ok S
    · rw [if_pos k] at o; exact outS_nx g s o
    · rw [if_neg k] at o; exact (show False from o).elim

/-! ### comprehensions -/
abbrev DPT (X : Cx) (W : WX) (ifs : List Expr) (f : MT) : Prop := PTs X ifs (tT X W f)
def tYesM : MT := fun _ S => .ok true S
theorem PTs.weak {ifs : List Expr} {t t' : TT} (h : PTs X ifs t) (k : ∀ σ H Q, t' σ H Q → t σ H Q) : PTs X ifs t' := ⟨fun pins s σ H Q I q => h.run pins s σ H Q I (k σ H Q q)⟩
theorem dpt_nil : DPT X W [] tYesM := PTs.weak pts_nil fun σ H Q h => by
  obtain ⟨ρ, G, S, g, s, o⟩ := h
  exact o ρ H true (.refl _ _) s rfl
theorem dpt_one {f : MT} (h : DT X W c f) : DPT X W [c] f := pts_one h
open Classical in
/-- the items into the list at n -/
noncomputable def lcF (r : Src) (t : Tg) (tt : MT) (fe : ME) (n : Nat) (G : GE) : List D → ST → R D
  | [], S => if r.ok S then .ok (.ref n) S else .bad
  | d :: ds, S => if r.ok S then (match bindT t d G S with
    | some G1 => (match tt G1 S with
      | .ok true S1 => (match fe G1 S1 with
        | .ok v S2 => (match S2[n]? with
          | some (.lst acc) => if acc.length < SZ then lcF r t tt fe n G ds (S2.set n (.lst (acc ++ [v]))) else .bad
          | _ => .bad)
        | _ => .bad)
      | .ok false S1 => lcF r t tt fe n G ds S1
      | _ => .bad)
    | none => .bad) else .bad
noncomputable def eLc (f : MI) (t : Tg) (tt : MT) (fe : ME) (own : List Nat) : ME := fun G S => (f G S).bind fun r S1 => lcF r t tt fe S1.length (wipeG G own) r.ds (S1 ++ [.lst []])
theorem wipe_sets : ∀ {is own : List Nat} {σ : L2.St} {vs : List V}, (∀ i ∈ is, i ∈ own) → L2.wipe (setσ σ is vs) own = L2.wipe σ own := by
  have one : ∀ {own : List Nat} {i : Nat} {σ : L2.St} {v : V}, i ∈ own → L2.wipe (σ.set i (some v)) own = L2.wipe σ own := by
    intro own
    induction own with
    | nil => intro i σ v h; cases h
    | cons j own ih =>
      intro i σ v h
      unfold L2.wipe
      by_cases hi : i ∈ own
      · rw [ih hi]
      · have e : i = j := by
          rcases List.mem_cons.mp h with e | e
          · exact e
          · exact absurd e hi
        subst e
        have comm : ∀ {own : List Nat}, i ∉ own → L2.wipe (σ.set i (some v)) own = (L2.wipe σ own).set i (some v) := by
          intro own
          induction own with
          | nil => intro _; rfl
          | cons k own ih2 =>
            intro hk
            unfold L2.wipe
            rw [ih2 (fun z => hk (List.mem_cons_of_mem _ z)), List.set_comm _ _ (fun z => hk (by rw [z]; exact List.mem_cons_self))]
        rw [comm hi, List.set_set]
  intro is
  induction is with
  | nil => intro own σ vs _; cases vs <;> rfl
  | cons i is ih =>
    intro own σ vs h
    cases vs with
    | nil => rfl
    | cons v vs =>
      show L2.wipe (setσ (σ.set i (some v)) is vs) own = _
      rw [ih fun j hj => h j (List.mem_cons_of_mem _ hj), one (h i List.mem_cons_self)]
theorem wipe_wipe {own : List Nat} {σ : L2.St} : ∀ {l : List Nat}, (∀ i ∈ l, i ∈ own) → L2.wipe (L2.wipe σ own) l = L2.wipe σ own := by
  intro l
  induction l with
  | nil => intro _; rfl
  | cons j l ih =>
    intro hl
    show (L2.wipe (L2.wipe σ own) l).set j none = L2.wipe σ own
    rw [ih fun i hi => hl i (List.mem_cons_of_mem _ hi)]
    refine List.ext_getElem? fun m => ?_
    by_cases hm : j = m
    · subst hm
      have hj := hl j List.mem_cons_self
      by_cases hl2 : j < (L2.wipe σ own).length
      · rw [List.getElem?_set_self hl2]
        cases e : (L2.wipe σ own)[j]? with
        | none => rw [List.getElem?_eq_none_iff] at e; omega
        | some z =>
          cases z with
          | none => rfl
          | some z => exact absurd hj (wipe_some e).2
      · rw [List.getElem?_eq_none (by simpa using Nat.not_lt.mp hl2), List.getElem?_eq_none (Nat.not_lt.mp hl2)]
    · rw [List.getElem?_set_ne hm]
theorem lc_end {f : MI} {t : Tg} {tt : MT} {own : List Nat} (ht : ∀ i ∈ t.slots, i ∈ own) {σ : L2.St} {H : Hp} {Q : VK} (h : tE X W (eLc f t tt fe own) σ H Q) : tLc (tI X W f) (tgOf X.K t) (tT X W0 tt) (tE X W0 fe) own σ H Q := by
  refine tG_mono (tG_bind (f := f) (g := fun r G S1 => lcF r t tt fe S1.length (wipeG G own) r.ds (S1 ++ [.lst []])) h) fun J H0 q => ?_
  obtain ⟨ρ0, G0, S0, r, g0, s0, ⟨Gd, Y, w, hG, hY⟩, o0⟩ := q
  intro Dd hD
  have sA := s0.alloc (ho := .lst []) (o := .lst []) hD ⟨[], upd_same, .nil⟩
  have xA : Ext ρ0 H0 (ρ0 ++ [Dd]) (upd H0 Dd (.lst [])) := .alloc hD
  have nA : (ρ0 ++ [Dd])[S0.length]? = some Dd := by rw [← s0.len]; simp
  have okof : ∀ {ds : List D} {S : ST} {ρ : List Addr} {H : Hp} {G : GE}, OutG X W (rV X) ρ σ H (lcF r t tt fe S0.length G ds S) Q → r.ok S := fun {ds S ρ H G} o => by
    cases ds <;> (unfold lcF at o; by_cases k : r.ok S <;> first | exact k | (rw [if_neg k] at o; exact (show False from o).elim))
  refine lc_it w (fun i H => ∃ ρ S, Ext (ρ0 ++ [Dd]) (upd H0 Dd (.lst [])) ρ H ∧ Sim X.K X.mg ρ S H ∧ OutG X W (rV X) ρ σ H (lcF r t tt fe S0.length (wipeG G0 own) (r.ds.drop i) S) Q) ⟨ρ0 ++ [Dd], S0 ++ [.lst []], .refl _ _, sA, OutG.mono o0 xA fun _ _ z => z⟩ ?_ ?_ ?_
  · rintro i H1 hi ⟨ρ, S, x1, s, o⟩
    exact hG ρ S H1 (xA.trans x1) s (okof o)
  · rintro i v H1 H2 hi ⟨ρ, S, x1, s, o⟩ hy
    have k := okof o
    rw [List.drop_eq_getElem_cons hi] at o
    unfold lcF at o
    rw [if_pos k] at o
    obtain ⟨x2, s2, d, hd, rd⟩ := hY i ρ S H1 v H2 hi (xA.trans x1) s k hy
    have ed : r.ds[i] = d := by
      rw [List.getElem?_eq_getElem hi] at hd
      exact Option.some.inj hd
    rw [ed] at o
    have gw : GR X.K ρ H2 (wipeG G0 own) (L2.wipe σ own) := (g0.mono ((xA.trans x1).trans x2)).wipe own
    split at o
    · rename_i G1 hG1
      refine bindT_ok s2 gw rd hG1 fun vs _ g1 => ⟨?_, ρ, G1, S, g1, s2, ?_⟩
      · rw [wipe_sets ht]
        exact wipe_wipe fun _ h => h
      · -- the test
        cases e1 : tt G1 S with
        | exc c fs S1 => rw [e1] at o; exact (show False from o).elim
        | bad => rw [e1] at o; exact (show False from o).elim
        | ok kb S1 =>
          rw [e1] at o
          intro ρ3 H3 kb' x3 s3 r3
          have r3 : kb' = kb := r3
          subst r3
          cases kb' with
          | false =>
            rw [if_neg (by decide)]
            exact ⟨ρ3, S1, x1.trans (x2.trans x3), s3, OutG.mono (r := lcF r t tt fe S0.length (wipeG G0 own) (r.ds.drop (i + 1)) S1) o (x2.trans x3) fun _ _ z => z⟩
          | true =>
            rw [if_pos rfl]
            dsimp only at o
            refine ⟨ρ3, G1, S1, g1.mono x3, s3, ?_⟩
            cases e2 : fe G1 S1 with
            | exc c fs S2 => rw [e2] at o; exact (show False from o).elim
            | bad => rw [e2] at o; exact (show False from o).elim
            | ok y S2 =>
              rw [e2] at o
              intro ρ4 H4 yv x4 s4 r4
              dsimp only at o
              split at o
              · rename_i acc hacc
                split at o
                · rename_i hlen
                  have pA : ρ4[S0.length]? = some Dd := (x1.trans (x2.trans (x3.trans x4))).get nA
                  obtain ⟨vs4, w4, v4⟩ := s4.obj _ Dd _ pA hacc
                  have hm : Mut (H4 Dd) := by rw [w4]; exact True.intro
                  refine ⟨vs4, w4, by rw [sizeLine_eq, ← v4.length]; exact hlen, ρ4, S2.set S0.length (.lst (acc ++ [y])), ?_, s4.write pA hm ⟨_, upd_same, (v4.append (.cons r4 .nil)).mono (.write hm)⟩, ?_⟩
                  · exact x1.trans (x2.trans (x3.trans (x4.trans (.write hm))))
                  · exact OutG.mono o (x2.trans (x3.trans (x4.trans (.write hm)))) fun _ _ z => z
                · exact (show False from o).elim
              · exact (show False from o).elim
    · exact (show False from o).elim
  · rintro H1 ⟨ρ, S, x1, s, o⟩
    rw [List.drop_length] at o
    have k := okof o
    unfold lcF at o
    rw [if_pos k] at o
    exact o ρ H1 _ (.refl _ _) s (VR_ref.mpr ⟨Dd, x1.get nA, rfl⟩)
theorem de_lc {f : MI} {t : Tg} {tt : MT} {ifs : List Expr} {scope : Scope} {own : List (Str × Nat)} (hc : X.calm = true) (hN : X.N.Nodup) (hi : DI X W tg iter f) (ok : BlkOk X.N X.env.scope scope own)
    (hg : ∀ (s : Shared) (H : Hp) (C : Addr) (cl : List (Str × Addr)) (fp : List Addr), DG (X.blk s H scope (compEnvC scope cl C X.env) fp) tg t)
    (ht : ∀ (s : Shared) (H : Hp) (C : Addr) (cl : List (Str × Addr)) (fp : List Addr), DPT (X.blk s H scope (compEnvC scope cl C X.env) fp) W0 ifs tt)
    (he : ∀ (s : Shared) (H : Hp) (C : Addr) (cl : List (Str × Addr)) (fp : List Addr), DE (X.blk s H scope (compEnvC scope cl C X.env) fp) W0 elt fe)
    (hts : ∀ i ∈ t.slots, i ∈ own.map (·.2) := by decide) (hs : ∀ x, foldedSetIterable iter X.env x = pure x := by intro _; rfl) :
    DE X W (.ListComp elt [⟨tg, iter, ifs, 0⟩] scope pos) (eLc f t tt fe (own.map (·.2))) :=
  PE.weak (pe_lc (g := tgOf X.K t) (tt := tT X W0 tt) (te := tE X W0 fe) hc hN hi ok hg ht he hs) fun σ H Q h => lc_end hts h
theorem ds_setLc {i : Nat} {y : Str} {py spos : Pos} {f : MI} {t : Tg} {tt : MT} {ifs : List Expr} {scope : Scope} {own : List (Str × Nat)} (hc : X.calm = true) (hN : X.N.Nodup) (hy : X.N[i]? = some y) (hyl : X.env.scope.names.lookup y = some .local)
    (hsw : swapsWith (.ListComp elt [⟨tg, iter, ifs, 0⟩] scope pos) (some (.Name y py)) spos.line X.env = pure true) (hi : DI X W tg iter f) (ok : BlkOk X.N X.env.scope scope own)
    (hg : ∀ (s : Shared) (H : Hp) (C : Addr) (cl : List (Str × Addr)) (fp : List Addr), DG (X.blk s H scope (compEnvC scope cl C X.env) fp) tg t)
    (ht : ∀ (s : Shared) (H : Hp) (C : Addr) (cl : List (Str × Addr)) (fp : List Addr), DPT (X.blk s H scope (compEnvC scope cl C X.env) fp) W0 ifs tt)
    (he : ∀ (s : Shared) (H : Hp) (C : Addr) (cl : List (Str × Addr)) (fp : List Addr), DE (X.blk s H scope (compEnvC scope cl C X.env) fp) W0 elt fe)
    (hts : ∀ i ∈ t.slots, i ∈ own.map (·.2) := by decide) (hs : ∀ x, foldedSetIterable iter X.env x = pure x := by intro _; rfl) :
    DS X W (.Assign [.Name y py] (.ListComp elt [⟨tg, iter, ifs, 0⟩] scope pos) spos) (sSet i (eLc f t tt fe (own.map (·.2)))) :=
  PS.weak (ps_setLc (g := tgOf X.K t) (tt := tT X W0 tt) (te := tE X W0 fe) hc hN hy hyl hsw hi ok hg ht he hs) fun D σ H h => by
    show tLc _ _ _ _ _ σ H fun x H1 => gName i x σ H1 D.nx
    exact lc_end hts (set_end h)
end
end Mir

namespace Mir
open PySem L2 PyProof.Rows

theorem hu65 {k : Nat} {A : Around} (r : Room k A) : A.units + 65 < cLine := by have := r.un; omega
theorem hu64 {k : Nat} {A : Around} (r : Room k A) : A.units + 64 < cLine := by have := r.un; omega
/-! ### built-ins -/
theorem bb_len : bootBuiltins "len" = some (.builtin "len") := by decide +kernel
theorem bb_abs : bootBuiltins "abs" = some (.builtin "abs") := by decide +kernel
theorem bb_max : bootBuiltins "max" = some (.builtin "max") := by decide +kernel
theorem bb_min : bootBuiltins "min" = some (.builtin "min") := by decide +kernel
theorem bb_sum : bootBuiltins "sum" = some (.builtin "sum") := by decide +kernel
theorem bb_sorted : bootBuiltins "sorted" = some (.builtin "sorted") := by decide +kernel
theorem bb_isinstance : bootBuiltins "isinstance" = some (.builtin "isinstance") := by decide +kernel
theorem bb_all : bootBuiltins "all" = some (.builtin "all") := by decide +kernel
theorem bb_any : bootBuiltins "any" = some (.builtin "any") := by decide +kernel
theorem bb_int : bootBuiltins "int" = some (.type "int") := by decide +kernel
theorem bb_bool : bootBuiltins "bool" = some (.type "bool") := by decide +kernel
theorem bb_str : bootBuiltins "str" = some (.type "str") := by decide +kernel
theorem bb_list : bootBuiltins "list" = some (.type "list") := by decide +kernel
theorem bb_tuple : bootBuiltins "tuple" = some (.type "tuple") := by decide +kernel
theorem bb_dict : bootBuiltins "dict" = some (.type "dict") := by decide +kernel
/-! ### facts of the text -/
/-- a def of the text, at its name -/
def DefAt (K : PySem.W.Frag) (mg : Str → Option Value) (x qual : Str) (st : Stmt) (ps : List Str) : Prop := ∃ f fd, Fun K x qual st f fd ∧ Binds K fd ps [] ∧ mg x = some (.ref f)
/-- it keeps its promise -/
def Okd (P : Program) (w : World) (K : PySem.W.Frag) (mg : Str → Option Value) (base : Heap) (CX : CXT) (k : Nat) (x : Str) (n : Nat) (m : Fn) : Prop :=
  ∃ f fd ps, FnOk P w K mg base CX k f fd ps (spM K mg n m) ∧ PySem.W.keepIn K (.ref f) = true ∧ Binds K fd ps [] ∧ mg x = some (.ref f)
/-- a class of the text: its own attributes -/
def ClsAt (K : PySem.W.Frag) (mg : Str → Option Value) (c : Str) (fs : List Str) : Prop := ∃ C, mg c = some (.ref C) ∧ Cls K C ∧ ∀ f ∈ fs, NoAttr K C f
/-- a method of the text -/
def MethAt (K : PySem.W.Frag) (mg : Str → Option Value) (c x qual : Str) (st : Stmt) (ps : List Str) : Prop := ∃ C f fd, mg c = some (.ref C) ∧ Cls K C ∧ Meth K C x f ∧ Fun K x qual st f fd ∧ Binds K fd ps []
def InitAt (K : PySem.W.Frag) (mg : Str → Option Value) (c qual : Str) (st : Stmt) (ps : List Str) : Prop := ∃ C f fd, mg c = some (.ref C) ∧ Mk K C f ∧ Fun K "__init__" qual st f fd ∧ Binds K fd ps []
def Okm (P : Program) (w : World) (K : PySem.W.Frag) (mg : Str → Option Value) (base : Heap) (CX : CXT) (k : Nat) (c x : Str) (n : Nat) (m : Fn) : Prop :=
  ∃ C f fd ps, mg c = some (.ref C) ∧ Cls K C ∧ Meth K C x f ∧ FnOk P w K mg base CX k f fd ps (spM K mg n m) ∧ Binds K fd ps []
def Oki (P : Program) (w : World) (K : PySem.W.Frag) (mg : Str → Option Value) (base : Heap) (k : Nat) (c : Str) (n : Nat) (m : Fn) : Prop :=
  ∃ C f fd ps, mg c = some (.ref C) ∧ Mk K C f ∧ FnOk P w K mg base CX0 k f fd ps (spM K mg n m) ∧ Binds K fd ps []
def ConAt (K : PySem.W.Frag) (mg : Str → Option Value) (x : Str) (d : D) : Prop := ∃ v u, mg x = some u ∧ RelV v u ∧ ∀ ρ H, VR K ρ H d v
section
variable {X : Cx} {W : WX} {e o : Expr} {es : List Expr} {fe fo : ME} {ga : MA} {pos p apos : Pos} {x : Str} {CX : CXT} {k l n : Nat} {m : Fn}
theorem de_fnE (h : Okd X.prog X.w X.K X.mg X.base CX k x n m) (hr : Room k X.A) (hg : Gl X x) (hx : Hx CX X W)
    (ha : DA X W (e :: es) ga) (hdb : (x == ("__debug__" : Str)) = false := by decide) (he : starEach (e :: es) X.env = (false, eval e X.env) :: starEach es X.env := by rfl) (hpl : (backTo pos (starEach es X.env)).any (·.1) = false := by rfl) :
    DE X W (.Call (.Name x p) (e :: es) [] pos) (eFn n m ga) := by
  obtain ⟨f, fd, ps, F, hk, hb, hm⟩ := h
  exact de_fn F hr hg hm hk hb hx ha hdb he hpl
theorem de_fn0E (h : Okd X.prog X.w X.K X.mg X.base CX k x n m) (hr : Room k X.A) (hg : Gl X x) (hx : Hx CX X W) (hdb : (x == ("__debug__" : Str)) = false := by decide) : DE X W (.Call (.Name x p) [] [] pos) (eFn n m aNil) := by
  obtain ⟨f, fd, ps, F, hk, hb, hm⟩ := h
  exact de_fn0 F hr hg hm hk hb hx hdb
theorem de_makeE {c : Str} (h : Oki X.prog X.w X.K X.mg X.base k c n m) (hr : Room (k + 1) X.A) (hg : Gl X c)
    (ha : DA X W (e :: es) ga) (hdb : (c == ("__debug__" : Str)) = false := by decide) (he : starEach (e :: es) X.env = (false, eval e X.env) :: starEach es X.env := by rfl) (hpl : (backTo pos (starEach es X.env)).any (·.1) = false := by rfl) :
    DE X W (.Call (.Name c p) (e :: es) [] pos) (eMake c n m ga) := by
  obtain ⟨C, f, fd, ps, hm, M, F, hb⟩ := h
  exact de_make M F hr hg hm hb ha hdb he hpl
theorem de_make0E {c : Str} (h : Oki X.prog X.w X.K X.mg X.base k c n m) (hr : Room (k + 1) X.A) (hg : Gl X c) (hdb : (c == ("__debug__" : Str)) = false := by decide) : DE X W (.Call (.Name c p) [] [] pos) (eMake c n m aNil) := by
  obtain ⟨C, f, fd, ps, hm, M, F, hb⟩ := h
  exact de_make0 M F hr hg hm hb hdb
theorem methOf {c name : Str} (h : Okm X.prog X.w X.K X.mg X.base CX k c name n m) (hr : Room k X.A) (hx : Hx CX X W) (hl : ∀ ds S, ds.length ≠ n → m ds S = .bad) : MethOf X W name c m := by
  obtain ⟨C, f, fd, ps, hm, kc, km, F, hb⟩ := h
  refine ⟨fun C' hC => ?_⟩
  rw [hm] at hC
  cases hC
  exact ⟨f, CX, k, n, fd, ps, kc, km, F, hr, hb, hx, hl⟩
theorem mkFn_len {n k : Nat} {b : MS} : ∀ ds S, ds.length ≠ n → mkFn n k b ds S = .bad := fun ds S h => by
  unfold mkFn
  rw [if_neg h]
theorem de_cg {d : D} (h : ConAt X.K X.mg x d) (hg : Gl X x) (hdb : (x == ("__debug__" : Str)) = false := by decide) : DE X W (.Name x pos) (eC d) := by
  obtain ⟨v, u, h1, h2, h3⟩ := h
  exact de_glob hg h1 h2 h3 hdb
end
abbrev BearsK (K : PySem.W.Frag) (mg : Str → Option Value) (cs : List Str) (f : Str) : Prop := ∀ c ∈ cs, ∀ C, mg c = some (.ref C) → Cls K C ∧ NoAttr K C f
theorem bears_one {K : PySem.W.Frag} {mg : Str → Option Value} {c f : Str} {fs : List Str} (h : ClsAt K mg c fs) (hf : f ∈ fs) : BearsK K mg [c] f := fun c' hc C hC => by
  have e : c' = c := by simpa using hc
  subst e
  obtain ⟨C', h1, h2, h3⟩ := h
  rw [h1] at hC
  cases hC
  exact ⟨h2, h3 f hf⟩
theorem bears_cons {K : PySem.W.Frag} {mg : Str → Option Value} {c f : Str} {cs : List Str} (h : BearsK K mg [c] f) (t : BearsK K mg cs f) : BearsK K mg (c :: cs) f := fun c' hc C hC => by
  rcases List.mem_cons.mp hc with e | hc
  · exact h c' (by rw [e]; exact List.mem_cons_self) C hC
  · exact t c' hc C hC
section
variable {P : Program} {w : World} {K : PySem.W.Frag} {mg : Str → Option Value} {base : Heap} {x qual : Str} {st : Stmt} {N ps : List Str} {l n k : Nat} {body : MS}
theorem okd0 (Dx : DefAt K mg x qual st ps) (Sc : FnScope N ps (defScope st)) (hN : N.length = n + k) (hp : ps.length = n)
    (hb : ∀ (f : Addr) (cdv : Value) (A : Around) (outer : List Env) (s : Shared) (H : Hp) (E : XK), Room l (A.deeper (envOfC qual (defScope st) s.heap.objs.size f cdv)) →
      DSs (cxOf CX0 P w K mg base N qual (defScope st) f cdv A outer s H E).nox (fun c d _ H => E c d H) (defBody st) body) : Okd P w K mg base CX0 (l + 1) x n (mkFn n k body) := by
  obtain ⟨f, fd, F, b, m⟩ := Dx
  exact ⟨f, fd, ps, fn0 F Sc hN hp (hb f), F.kp, b, m⟩
theorem okm0 {c : Str} (Dx : MethAt K mg c x qual st ps) (Sc : FnScope N ps (defScope st)) (hN : N.length = n + k) (hp : ps.length = n)
    (hb : ∀ (f : Addr) (cdv : Value) (A : Around) (outer : List Env) (s : Shared) (H : Hp) (E : XK), Room l (A.deeper (envOfC qual (defScope st) s.heap.objs.size f cdv)) →
      DSs (cxOf CX0 P w K mg base N qual (defScope st) f cdv A outer s H E).nox (fun c d _ H => E c d H) (defBody st) body) : Okm P w K mg base CX0 (l + 1) c x n (mkFn n k body) := by
  obtain ⟨C, f, fd, hm, kc, km, F, b⟩ := Dx
  exact ⟨C, f, fd, ps, hm, kc, km, fn0 F Sc hN hp (hb f), b⟩
theorem oki0 {c : Str} (Dx : InitAt K mg c qual st ps) (Sc : FnScope N ps (defScope st)) (hN : N.length = n + k) (hp : ps.length = n)
    (hb : ∀ (f : Addr) (cdv : Value) (A : Around) (outer : List Env) (s : Shared) (H : Hp) (E : XK), Room l (A.deeper (envOfC qual (defScope st) s.heap.objs.size f cdv)) →
      DSs (cxOf CX0 P w K mg base N qual (defScope st) f cdv A outer s H E).nox (fun c d _ H => E c d H) (defBody st) body) : Oki P w K mg base (l + 1) c n (mkFn n k body) := by
  obtain ⟨C, f, fd, hm, M, F, b⟩ := Dx
  exact ⟨C, f, fd, ps, hm, M, fn0 F Sc hN hp (hb f), b⟩
def mBad : Fn := fun _ _ => .bad
theorem spM_bad {vs : List V} {H : Hp} {Q : VK} {E : XK} (h : spM K mg n mBad vs H Q E) : False := by
  obtain ⟨ρ, S, ds, _, _, _, o⟩ := h
  exact o
theorem okd_bad (Dx : DefAt K mg x qual st ps) (hp : ps.length = n) {CX : CXT} {l : Nat} : Okd P w K mg base CX l x n mBad := by
  obtain ⟨f, fd, F, b, m⟩ := Dx
  exact ⟨f, fd, ps, ⟨fun vs H Q E h => (spM_bad h).elim, fun A outer s H args us vs Q E _ _ _ _ h => (spM_bad h).elim⟩, F.kp, b, m⟩
theorem okm_bad {c : Str} (Dx : MethAt K mg c x qual st ps) (hp : ps.length = n) {CX : CXT} {l : Nat} : Okm P w K mg base CX l c x n mBad := by
  obtain ⟨C, f, fd, hm, kc, km, F, b⟩ := Dx
  exact ⟨C, f, fd, ps, hm, kc, km, ⟨fun vs H Q E h => (spM_bad h).elim, fun A outer s H args us vs Q E _ _ _ _ h => (spM_bad h).elim⟩, b⟩
end
/-! ### the law -/
/-- law's promise: for a list of at most 63 ints the answer is True -/
def spLaw (K : PySem.W.Frag) : Sp := fun vs H Q _ => ∃ (a : Addr) (ns : List Int), vs = [.ref a] ∧ Only H ∧ SqL K H a (ns.map V.int) ∧ ns.length ≤ 63 ∧ ∀ H', Q (.bl true) H'
theorem law_fn {P : Program} {w : World} {K : PySem.W.Frag} {mg : Str → Option Value} {base : Heap} {k : Nat} {f : Addr} {fd : FuncData} {ps : List Str} {m : Fn} (F : FnOk P w K mg base CX0 k f fd ps (spM K mg 1 m)) (hm : ∀ ns : List Int, ns.length ≤ 63 → ∃ S', m [.fl (ns.map D.int)] [] = .ok (.bl true) S') : FnOk P w K mg base CX0 k f fd ps (spLaw K) :=
  F.imp fun vs H Q E h => by
    obtain ⟨a, ns, rfl, ho, hS, hl, q⟩ := h
    obtain ⟨S', e⟩ := hm ns hl
    refine ⟨[], [], [.fl (ns.map D.int)], .cons (VR_fl.mpr ⟨a, ns.map V.int, rfl, ?_, VRs.of_ints ns⟩) .nil, rfl, ⟨List.nodup_nil, rfl, fun n a o h => by simp at h⟩, ?_⟩
    · rcases hS with (h | ⟨o, h⟩) | h
      · rcases ho a with z | ⟨o, xs, z⟩
        · rw [h] at z; cases z
        · rw [h] at z; cases z
      · exact .inl ⟨o, h⟩
      · exact .inr h
    · rw [e]
      intro ρ' H' v x s r
      rw [VR_bl] at r; subst r
      exact q H'
end Mir

namespace Mir
open PySem L2 PyProof.Rows

/-! ### running the mirror, from the left -/
abbrev XQ := Str → List (Str × D) → ST → Prop
def wpR {α : Type} (r : R α) (Q : α → ST → Prop) (X : XQ) : Prop := match r with
  | .ok a S => Q a S
  | .exc c fs S => X c fs S
  | .bad => False
def wpE {α : Type} (f : GE → ST → R α) (G : GE) (S : ST) (Q : α → ST → Prop) (X : XQ) : Prop := wpR (f G S) Q X
structure Kt where
  nx : GE → ST → Prop
  rt : D → ST → Prop
  bk : GE → ST → Prop
  ct : GE → ST → Prop
  ex : Str → List (Str × D) → GE → ST → Prop
def runK (r : RS) (K : Kt) : Prop := match r with
  | .nx G S => K.nx G S
  | .rt d S => K.rt d S
  | .bk G S => K.bk G S
  | .ct G S => K.ct G S
  | .exc c fs G S => K.ex c fs G S
  | .bad => False
def wpS (f : MS) (G : GE) (S : ST) (K : Kt) : Prop := runK (f G S) K

section
variable {α β : Type} {Q : α → ST → Prop} {X : XQ} {S : ST} {G : GE} {K : Kt}
theorem wp_ok {a : α} : wpR (.ok a S) Q X = Q a S := rfl
theorem wp_exc {c fs} : wpR (.exc c fs S : R α) Q X = X c fs S := rfl
theorem wp_bad : wpR (.bad : R α) Q X = False := rfl
theorem wp_ite {c : Prop} [Decidable c] {r : R α} : wpR (if c then r else .bad) Q X = (c ∧ wpR r Q X) := by
  by_cases h : c
  · rw [if_pos h]; simp [h]
  · rw [if_neg h]; simp [h, wp_bad]
theorem wp_bind {r : R β} {f : β → ST → R α} : wpR (r.bind f) Q X = wpR r (fun b S => wpR (f b S) Q X) X := by cases r <;> rfl
/-- names -/
def kV (o : Option (Option D)) (S : ST) (Q : D → ST → Prop) : Prop := match o with | some (some d) => Q d S | _ => False
theorem kV_some {d : D} {Q : D → ST → Prop} : kV (some (some d)) S Q = Q d S := rfl
theorem wp_eV {i : Nat} {Q : D → ST → Prop} : wpE (eV i) G S Q X = kV G[i]? S Q := by
  unfold wpE eV kV
  split <;> rename_i h
  · simp [h, wpR]
  · first
    | rfl
    | (split
       · rename_i d e; exact absurd e (h d)
       · rfl)
theorem wp_eC {d : D} {Q : D → ST → Prop} : wpE (eC d) G S Q X = Q d S := rfl
def k2b (m : D → D → C D) (a : D) (Q : D → ST → Prop) (X : XQ) : D → ST → Prop := fun b S => wpR (m a b S) Q X
def k2a (m : D → D → C D) (fb : ME) (G : GE) (Q : D → ST → Prop) (X : XQ) : D → ST → Prop := fun a S => wpE fb G S (k2b m a Q X) X
theorem wp_e2 {m : D → D → C D} {fa fb : ME} {Q : D → ST → Prop} : wpE (e2 m fa fb) G S Q X = wpE fa G S (k2a m fb G Q X) X := by
  unfold wpE e2 k2a
  rw [wp_bind]
  congr 1
  funext a S
  unfold wpE
  rw [wp_bind]
  rfl
theorem k2a_eq {m : D → D → C D} {fb : ME} {Q : D → ST → Prop} {a : D} : k2a m fb G Q X a S = wpE fb G S (k2b m a Q X) X := rfl
theorem k2b_eq {m : D → D → C D} {Q : D → ST → Prop} {a b : D} : k2b m a Q X b S = wpR (m a b S) Q X := rfl
def k1 {γ : Type} (m : γ → C α) (Q : α → ST → Prop) (X : XQ) : γ → ST → Prop := fun a S => wpR (m a S) Q X
theorem k1_eq {γ : Type} {m : γ → C α} {a : γ} : k1 m Q X a S = wpR (m a S) Q X := rfl
theorem wp_e1 {m : D → C D} {fa : ME} {Q : D → ST → Prop} : wpE (e1 m fa) G S Q X = wpE fa G S (k1 m Q X) X := by
  unfold wpE e1 k1; rw [wp_bind]
theorem wp_eCall {m : List D → C D} {ga : MA} {Q : D → ST → Prop} : wpE (eCall m ga) G S Q X = wpE ga G S (k1 m Q X) X := by
  unfold wpE eCall k1; rw [wp_bind]
theorem wp_aNil {Q : List D → ST → Prop} : wpE aNil G S Q X = Q [] S := rfl
def kC2 (d : D) (Q : List D → ST → Prop) : List D → ST → Prop := fun ds S => Q (d :: ds) S
def kC1 (g : MA) (G : GE) (Q : List D → ST → Prop) (X : XQ) : D → ST → Prop := fun d S => wpE g G S (kC2 d Q) X
theorem wp_aCons {f : ME} {g : MA} {Q : List D → ST → Prop} : wpE (aCons f g) G S Q X = wpE f G S (kC1 g G Q X) X := by
  unfold wpE aCons kC1
  rw [wp_bind]
  congr 1
  funext d S
  unfold wpE
  rw [wp_bind]
  rfl
theorem kC1_eq {g : MA} {Q : List D → ST → Prop} {d : D} : kC1 g G Q X d S = wpE g G S (kC2 d Q) X := rfl
theorem kC2_eq {d : D} {Q : List D → ST → Prop} {ds : List D} : kC2 d Q ds S = Q (d :: ds) S := rfl
def kTup (Q : D → ST → Prop) : List D → ST → Prop := fun ds S => ds.length ≤ SZ ∧ Q (.tup ds) S
theorem wp_eTup {ga : MA} {Q : D → ST → Prop} : wpE (eTup ga) G S Q X = wpE ga G S (kTup Q) X := by
  unfold wpE eTup kTup
  rw [wp_bind]
  congr 1
  funext ds S
  rw [wp_ite]; rfl
theorem kTup_eq {Q : D → ST → Prop} {ds : List D} : kTup Q ds S = (ds.length ≤ SZ ∧ Q (.tup ds) S) := rfl
def kLst (Q : D → ST → Prop) : List D → ST → Prop := fun ds S => ds.length ≤ SZ ∧ Q (.ref S.length) (S ++ [.lst ds])
theorem wp_eLst {ga : MA} {Q : D → ST → Prop} : wpE (eLst ga) G S Q X = wpE ga G S (kLst Q) X := by
  unfold wpE eLst kLst
  rw [wp_bind]
  congr 1
  funext ds S
  rw [wp_ite]; rfl
theorem kLst_eq {Q : D → ST → Prop} {ds : List D} : kLst Q ds S = (ds.length ≤ SZ ∧ Q (.ref S.length) (S ++ [.lst ds])) := rfl
theorem wp_allocO {o : O} {Q : D → ST → Prop} : wpR (allocO o S) Q X = Q (.ref S.length) (S ++ [o]) := rfl
def kFn (n : Nat) (m : Fn) (Q : D → ST → Prop) (X : XQ) : List D → ST → Prop := fun ds S => ds.length = n ∧ wpR (m ds S) Q X
theorem wp_eFn {n : Nat} {m : Fn} {ga : MA} {Q : D → ST → Prop} : wpE (eFn n m ga) G S Q X = wpE ga G S (kFn n m Q X) X := by
  unfold wpE eFn kFn
  rw [wp_bind]
  congr 1
  funext ds S
  rw [wp_ite]
theorem kFn_eq {n : Nat} {m : Fn} {Q : D → ST → Prop} {ds : List D} : kFn n m Q X ds S = (ds.length = n ∧ wpR (m ds S) Q X) := rfl
/-- tests -/
def kTb (Q : Bool → ST → Prop) : D → ST → Prop := fun d S => match d with | .bl b => Q b S | _ => False
theorem wp_tb {f : ME} {Q : Bool → ST → Prop} : wpE (tb f) G S Q X = wpE f G S (kTb Q) X := by
  unfold wpE tb
  rw [wp_bind]
  congr 1
  funext d S
  cases d <;> rfl
theorem kTb_eq {Q : Bool → ST → Prop} {b : Bool} : kTb Q (.bl b) S = Q b S := rfl
def kTru (Q : Bool → ST → Prop) : D → ST → Prop := fun d S => match truD S d with | some b => Q b S | none => False
theorem wp_tTru {f : ME} {Q : Bool → ST → Prop} : wpE (tTru f) G S Q X = wpE f G S (kTru Q) X := by
  unfold wpE tTru kTru
  rw [wp_bind]
  congr 1
  funext d S
  cases truD S d <;> rfl
theorem kTru_eq {Q : Bool → ST → Prop} {d : D} {b : Bool} (h : truD S d = some b) : kTru Q d S = Q b S := by unfold kTru; rw [h]
theorem kTru_bl {Q : Bool → ST → Prop} {b : Bool} : kTru Q (.bl b) S = Q b S := rfl
def kAnd (g : MT) (G : GE) (Q : Bool → ST → Prop) (X : XQ) : Bool → ST → Prop := fun b S => (b = true → wpE g G S Q X) ∧ (b = false → Q false S)
theorem wp_tAnd {f g : MT} {Q : Bool → ST → Prop} : wpE (Mir.tAnd f g) G S Q X = wpE f G S (kAnd g G Q X) X := by
  unfold wpE Mir.tAnd kAnd
  rw [wp_bind]
  congr 1
  funext b S
  cases b <;> simp [wpE, wp_ok]
theorem kAnd_t {g : MT} {Q : Bool → ST → Prop} : kAnd g G Q X true S = wpE g G S Q X := by simp [kAnd]
theorem kAnd_d {g : MT} {Q : Bool → ST → Prop} {p : Prop} [Decidable p] : kAnd g G Q X (decide p) S = ((p → wpE g G S Q X) ∧ (¬p → Q false S)) := by simp [kAnd]
theorem kAnd_n {g : MT} {Q : Bool → ST → Prop} {p : Prop} [Decidable p] : kAnd g G Q X (!decide p) S = ((¬p → wpE g G S Q X) ∧ (p → Q false S)) := by simp [kAnd]
theorem kAnd_f {g : MT} {Q : Bool → ST → Prop} : kAnd g G Q X false S = Q false S := by simp [kAnd]
def kOr (g : MT) (G : GE) (Q : Bool → ST → Prop) (X : XQ) : Bool → ST → Prop := fun b S => (b = true → Q true S) ∧ (b = false → wpE g G S Q X)
theorem wp_tOr {f g : MT} {Q : Bool → ST → Prop} : wpE (Mir.tOr f g) G S Q X = wpE f G S (kOr g G Q X) X := by
  unfold wpE Mir.tOr kOr
  rw [wp_bind]
  congr 1
  funext b S
  cases b <;> simp [wpE, wp_ok]
theorem kOr_t {g : MT} {Q : Bool → ST → Prop} : kOr g G Q X true S = Q true S := by simp [kOr]
theorem kOr_d {g : MT} {Q : Bool → ST → Prop} {p : Prop} [Decidable p] : kOr g G Q X (decide p) S = ((p → Q true S) ∧ (¬p → wpE g G S Q X)) := by simp [kOr]
theorem kOr_n {g : MT} {Q : Bool → ST → Prop} {p : Prop} [Decidable p] : kOr g G Q X (!decide p) S = ((¬p → Q true S) ∧ (p → wpE g G S Q X)) := by simp [kOr]
theorem kOr_f {g : MT} {Q : Bool → ST → Prop} : kOr g G Q X false S = wpE g G S Q X := by simp [kOr]
def kNot (Q : Bool → ST → Prop) : Bool → ST → Prop := fun b S => Q (!b) S
theorem wp_tNot {f : MT} {Q : Bool → ST → Prop} : wpE (Mir.tNot f) G S Q X = wpE f G S (kNot Q) X := by
  unfold wpE Mir.tNot
  rw [wp_bind]
  rfl
theorem kNot_eq {Q : Bool → ST → Prop} {b : Bool} : kNot Q b S = Q (!b) S := rfl
def kIf (f g : ME) (G : GE) (Q : D → ST → Prop) (X : XQ) : Bool → ST → Prop := fun b S => (b = true → wpE f G S Q X) ∧ (b = false → wpE g G S Q X)
theorem wp_eIf {t : MT} {f g : ME} {Q : D → ST → Prop} : wpE (eIf t f g) G S Q X = wpE t G S (kIf f g G Q X) X := by
  unfold wpE eIf kIf
  rw [wp_bind]
  congr 1
  funext b S
  cases b <;> simp [wpE]
theorem kIf_eq {f g : ME} {Q : D → ST → Prop} {b : Bool} : kIf f g G Q X b S = ((b = true → wpE f G S Q X) ∧ (b = false → wpE g G S Q X)) := rfl
theorem kIf_t {f g : ME} {Q : D → ST → Prop} : kIf f g G Q X true S = wpE f G S Q X := by simp [kIf]
theorem kIf_d {f g : ME} {Q : D → ST → Prop} {p : Prop} [Decidable p] : kIf f g G Q X (decide p) S = ((p → wpE f G S Q X) ∧ (¬p → wpE g G S Q X)) := by simp [kIf]
theorem kIf_n {f g : ME} {Q : D → ST → Prop} {b : Bool} : kIf f g G Q X (!b) S = kIf g f G Q X b S := by cases b <;> simp [kIf]
theorem kIf_f {f g : ME} {Q : D → ST → Prop} : kIf f g G Q X false S = wpE g G S Q X := by simp [kIf]
/-- and, or, not as values -/
def kAndV (g : ME) (G : GE) (Q : D → ST → Prop) (X : XQ) : D → ST → Prop := fun d S => match truD S d with | some true => wpE g G S Q X | some false => Q d S | none => False
theorem wp_eAnd {f g : ME} {Q : D → ST → Prop} : wpE (eAnd f g) G S Q X = wpE f G S (kAndV g G Q X) X := by
  unfold wpE eAnd kAndV
  rw [wp_bind]
  congr 1
  funext d S
  cases truD S d with
  | none => rfl
  | some b => cases b <;> rfl
theorem kAndV_bl {g : ME} {Q : D → ST → Prop} {b : Bool} : kAndV g G Q X (.bl b) S = ((b = true → wpE g G S Q X) ∧ (b = false → Q (.bl false) S)) := by cases b <;> simp [kAndV, truD]
def kOrV (g : ME) (G : GE) (Q : D → ST → Prop) (X : XQ) : D → ST → Prop := fun d S => match truD S d with | some true => Q d S | some false => wpE g G S Q X | none => False
theorem wp_eOr {f g : ME} {Q : D → ST → Prop} : wpE (eOr f g) G S Q X = wpE f G S (kOrV g G Q X) X := by
  unfold wpE eOr kOrV
  rw [wp_bind]
  congr 1
  funext d S
  cases truD S d with
  | none => rfl
  | some b => cases b <;> rfl
theorem kOrV_bl {g : ME} {Q : D → ST → Prop} {b : Bool} : kOrV g G Q X (.bl b) S = ((b = true → Q (.bl true) S) ∧ (b = false → wpE g G S Q X)) := by cases b <;> simp [kOrV, truD]
def kNotV (Q : D → ST → Prop) : D → ST → Prop := fun d S => match truD S d with | some b => Q (.bl (!b)) S | none => False
theorem wp_eNot {f : ME} {Q : D → ST → Prop} : wpE (eNot f) G S Q X = wpE f G S (kNotV Q) X := by
  unfold wpE eNot kNotV
  rw [wp_bind]
  congr 1
  funext d S
  cases truD S d <;> rfl
theorem kAndV_d {g : ME} {Q : D → ST → Prop} {p : Prop} [Decidable p] : kAndV g G Q X (.bl (decide p)) S = ((p → wpE g G S Q X) ∧ (¬p → Q (.bl false) S)) := by by_cases h : p <;> simp [kAndV, truD, h]
theorem kAndV_n {g : ME} {Q : D → ST → Prop} {p : Prop} [Decidable p] : kAndV g G Q X (.bl (!decide p)) S = ((¬p → wpE g G S Q X) ∧ (p → Q (.bl false) S)) := by by_cases h : p <;> simp [kAndV, truD, h]
theorem kOrV_d {g : ME} {Q : D → ST → Prop} {p : Prop} [Decidable p] : kOrV g G Q X (.bl (decide p)) S = ((p → Q (.bl true) S) ∧ (¬p → wpE g G S Q X)) := by by_cases h : p <;> simp [kOrV, truD, h]
theorem kOrV_n {g : ME} {Q : D → ST → Prop} {p : Prop} [Decidable p] : kOrV g G Q X (.bl (!decide p)) S = ((¬p → Q (.bl true) S) ∧ (p → wpE g G S Q X)) := by by_cases h : p <;> simp [kOrV, truD, h]
theorem kAndV_t {g : ME} {Q : D → ST → Prop} : kAndV g G Q X (.bl true) S = wpE g G S Q X := by simp [kAndV, truD]
theorem kAndV_f {g : ME} {Q : D → ST → Prop} : kAndV g G Q X (.bl false) S = Q (.bl false) S := by simp [kAndV, truD]
theorem kOrV_t {g : ME} {Q : D → ST → Prop} : kOrV g G Q X (.bl true) S = Q (.bl true) S := by simp [kOrV, truD]
theorem kOrV_f {g : ME} {Q : D → ST → Prop} : kOrV g G Q X (.bl false) S = wpE g G S Q X := by simp [kOrV, truD]
theorem kNotV_bl {Q : D → ST → Prop} {b : Bool} : kNotV Q (.bl b) S = Q (.bl (!b)) S := rfl
/-- a op b op' c -/
def kCh3 (m' : D → D → C D) (fc : ME) (b : D) (G : GE) (Q : D → ST → Prop) (X : XQ) : D → ST → Prop := fun k S => match k with
  | .bl true => wpE fc G S (k2b m' b Q X) X
  | .bl false => Q (.bl false) S
  | _ => False
def kCh2 (m m' : D → D → C D) (fc : ME) (a : D) (G : GE) (Q : D → ST → Prop) (X : XQ) : D → ST → Prop := fun b S => wpR (m a b S) (kCh3 m' fc b G Q X) X
def kCh1 (m m' : D → D → C D) (fb fc : ME) (G : GE) (Q : D → ST → Prop) (X : XQ) : D → ST → Prop := fun a S => wpE fb G S (kCh2 m m' fc a G Q X) X
theorem wp_eChain {m m' : D → D → C D} {fa fb fc : ME} {Q : D → ST → Prop} : wpE (eChain m m' fa fb fc) G S Q X = wpE fa G S (kCh1 m m' fb fc G Q X) X := by
  unfold wpE eChain kCh1
  rw [wp_bind]
  congr 1
  funext a S
  unfold wpE
  rw [wp_bind]
  unfold kCh2
  congr 1
  funext b S
  rw [wp_bind]
  congr 1
  funext k S
  unfold kCh3
  cases k <;> first | rfl | skip
  rename_i b
  cases b <;> first | rfl | skip
  unfold wpE
  rw [wp_bind]
  rfl
theorem kCh1_eq {m m' : D → D → C D} {fb fc : ME} {Q : D → ST → Prop} {a : D} : kCh1 m m' fb fc G Q X a S = wpE fb G S (kCh2 m m' fc a G Q X) X := rfl
theorem kCh2_eq {m m' : D → D → C D} {fc : ME} {Q : D → ST → Prop} {a b : D} : kCh2 m m' fc a G Q X b S = wpR (m a b S) (kCh3 m' fc b G Q X) X := rfl
theorem kCh3_eq {m' : D → D → C D} {fc : ME} {Q : D → ST → Prop} {b : D} {k : Bool} : kCh3 m' fc b G Q X (.bl k) S = ((k = true → wpE fc G S (k2b m' b Q X) X) ∧ (k = false → Q (.bl false) S)) := by cases k <;> simp [kCh3]
/-- slices -/
def kSl3 (d : D) (lo : Option Int) (Q : D → ST → Prop) (X : XQ) : Option Int → ST → Prop := fun hi S => wpR (mSl d lo hi S) Q X
def kSl2 (d : D) (fh : MO) (G : GE) (Q : D → ST → Prop) (X : XQ) : Option Int → ST → Prop := fun lo S => wpE fh G S (kSl3 d lo Q X) X
def kSl1 (fl fh : MO) (G : GE) (Q : D → ST → Prop) (X : XQ) : D → ST → Prop := fun d S => wpE fl G S (kSl2 d fh G Q X) X
theorem wp_eSl {fe : ME} {fl fh : MO} {Q : D → ST → Prop} : wpE (eSl fe fl fh) G S Q X = wpE fe G S (kSl1 fl fh G Q X) X := by
  unfold wpE eSl kSl1
  rw [wp_bind]
  congr 1
  funext d S
  unfold wpE
  rw [wp_bind]
  unfold kSl2
  congr 1
  funext lo S
  unfold wpE
  rw [wp_bind]
  rfl
theorem kSl1_eq {fl fh : MO} {Q : D → ST → Prop} {d : D} : kSl1 fl fh G Q X d S = wpE fl G S (kSl2 d fh G Q X) X := rfl
theorem kSl2_eq {fh : MO} {Q : D → ST → Prop} {d : D} {lo : Option Int} : kSl2 d fh G Q X lo S = wpE fh G S (kSl3 d lo Q X) X := rfl
theorem kSl3_eq {Q : D → ST → Prop} {d : D} {lo hi : Option Int} : kSl3 d lo Q X hi S = wpR (mSl d lo hi S) Q X := rfl
theorem wp_oNone {Q : Option Int → ST → Prop} : wpE oNone G S Q X = Q none S := rfl
def kO (Q : Option Int → ST → Prop) : D → ST → Prop := fun d S => match d with | .int i => Q (some i) S | _ => False
theorem wp_oSome {f : ME} {Q : Option Int → ST → Prop} : wpE (oSome f) G S Q X = wpE f G S (kO Q) X := by
  unfold wpE oSome
  rw [wp_bind]
  congr 1
  funext d S
  cases d <;> rfl
theorem kO_eq {Q : Option Int → ST → Prop} {i : Int} : kO Q (.int i) S = Q (some i) S := rfl
/-- methods -/
def kBm2 (m : D → List D → C D) (d : D) (Q : D → ST → Prop) (X : XQ) : List D → ST → Prop := fun ds S => wpR (m d ds S) Q X
def kBm (T : String) (m : D → List D → C D) (g : MA) (G : GE) (Q : D → ST → Prop) (X : XQ) : D → ST → Prop := fun d S => tyD T S d = true ∧ wpE g G S (kBm2 m d Q X) X
theorem wp_eBm {T : String} {m : D → List D → C D} {f : ME} {g : MA} {Q : D → ST → Prop} : wpE (eBm T m f g) G S Q X = wpE f G S (kBm T m g G Q X) X := by
  unfold wpE eBm kBm
  rw [wp_bind]
  congr 1
  funext d S
  rw [wp_ite]
  unfold wpE
  rw [wp_bind]
  rfl
theorem kBm_eq {T : String} {m : D → List D → C D} {g : MA} {Q : D → ST → Prop} {d : D} : kBm T m g G Q X d S = (tyD T S d = true ∧ wpE g G S (kBm2 m d Q X) X) := rfl
theorem kBm2_eq {m : D → List D → C D} {Q : D → ST → Prop} {d : D} {ds : List D} : kBm2 m d Q X ds S = wpR (m d ds S) Q X := rfl
def kBm0 (T : String) (m : D → List D → C D) (Q : D → ST → Prop) (X : XQ) : D → ST → Prop := fun d S => tyD T S d = true ∧ wpR (m d [] S) Q X
theorem wp_eBm0 {T : String} {m : D → List D → C D} {f : ME} {Q : D → ST → Prop} : wpE (eBm0 T m f) G S Q X = wpE f G S (kBm0 T m Q X) X := by
  unfold wpE eBm0 kBm0
  rw [wp_bind]
  congr 1
  funext d S
  rw [wp_ite]
theorem kBm0_eq {T : String} {m : D → List D → C D} {Q : D → ST → Prop} {d : D} : kBm0 T m Q X d S = (tyD T S d = true ∧ wpR (m d [] S) Q X) := rfl
def kMt2 (m : Fn) (o : D) (Q : D → ST → Prop) (X : XQ) : List D → ST → Prop := fun ds S => wpR (m (o :: ds) S) Q X
def kMt (name : Str) (tab : List (Str × Fn)) (g : MA) (G : GE) (Q : D → ST → Prop) (X : XQ) : D → ST → Prop := fun o S => ∃ m, methD name tab S o = some m ∧ wpE g G S (kMt2 m o Q X) X
theorem wp_eMeth {name : Str} {tab : List (Str × Fn)} {f : ME} {g : MA} {Q : D → ST → Prop} : wpE (eMeth name tab f g) G S Q X = wpE f G S (kMt name tab g G Q X) X := by
  unfold wpE eMeth kMt
  rw [wp_bind]
  congr 1
  funext o S
  cases e : methD name tab S o with
  | none => simp [wp_bad]
  | some m =>
    simp only [Option.some.injEq, exists_eq_left']
    unfold wpE
    rw [wp_bind]
    rfl
theorem kMt_eq {name : Str} {tab : List (Str × Fn)} {g : MA} {Q : D → ST → Prop} {o : D} {m : Fn} (h : methD name tab S o = some m) : kMt name tab g G Q X o S = wpE g G S (kMt2 m o Q X) X := by
  unfold kMt
  rw [h]
  simp
theorem kMt2_eq {m : Fn} {Q : D → ST → Prop} {o : D} {ds : List D} : kMt2 m o Q X ds S = wpR (m (o :: ds) S) Q X := rfl
/-- new instances -/
def kMkI (n : Nat) (Q : D → ST → Prop) : D → ST → Prop := fun d S => match d with | .non => Q (.ref n) S | _ => False
def kMk (c : Str) (n : Nat) (m : Fn) (Q : D → ST → Prop) : List D → ST → Prop := fun ds S => ds.length + 1 = n ∧ wpR (m (.ref S.length :: ds) (S ++ [.ins c []])) (kMkI S.length Q) fun _ _ _ => False
theorem wp_eMake {c : Str} {n : Nat} {m : Fn} {ga : MA} {Q : D → ST → Prop} : wpE (eMake c n m ga) G S Q X = wpE ga G S (kMk c n m Q) X := by
  unfold wpE eMake kMk
  rw [wp_bind]
  congr 1
  funext ds S
  rw [wp_ite]
  congr 1
  cases m (.ref S.length :: ds) (S ++ [.ins c []]) with
  | ok d S2 => cases d <;> rfl
  | exc c fs S2 => rfl
  | bad => rfl
theorem kMk_eq {c : Str} {n : Nat} {m : Fn} {Q : D → ST → Prop} {ds : List D} : kMk c n m Q ds S = (ds.length + 1 = n ∧ wpR (m (.ref S.length :: ds) (S ++ [.ins c []])) (kMkI S.length Q) fun _ _ _ => False) := rfl
theorem kMkI_eq {n : Nat} {Q : D → ST → Prop} : kMkI n Q .non S = Q (.ref n) S := rfl
/-- dicts -/
theorem wp_pairs_nil {Q : List (D × D) → ST → Prop} : wpE (pairsF []) G S Q X = Q [] S := rfl
def kP3 (k v : D) (Q : List (D × D) → ST → Prop) : List (D × D) → ST → Prop := fun ps S => Q ((k, v) :: ps) S
def kP2 (k : D) (r : List (ME × ME)) (G : GE) (Q : List (D × D) → ST → Prop) (X : XQ) : D → ST → Prop := fun v S => wpE (pairsF r) G S (kP3 k v Q) X
def kP1 (g : ME) (r : List (ME × ME)) (G : GE) (Q : List (D × D) → ST → Prop) (X : XQ) : D → ST → Prop := fun k S => wpE g G S (kP2 k r G Q X) X
theorem wp_pairs_cons {f g : ME} {r : List (ME × ME)} {Q : List (D × D) → ST → Prop} : wpE (pairsF ((f, g) :: r)) G S Q X = wpE f G S (kP1 g r G Q X) X := by
  unfold wpE pairsF
  rw [wp_bind]
  congr 1
  funext k S
  unfold kP1 wpE
  rw [wp_bind]
  congr 1
  funext v S
  unfold kP2 wpE
  rw [wp_bind]
  rfl
theorem kP1_eq {g : ME} {r : List (ME × ME)} {Q : List (D × D) → ST → Prop} {k : D} : kP1 g r G Q X k S = wpE g G S (kP2 k r G Q X) X := rfl
theorem kP2_eq {k v : D} {r : List (ME × ME)} {Q : List (D × D) → ST → Prop} : kP2 k r G Q X v S = wpE (pairsF r) G S (kP3 k v Q) X := rfl
theorem kP3_eq {k v : D} {Q : List (D × D) → ST → Prop} {ps : List (D × D)} : kP3 k v Q ps S = Q ((k, v) :: ps) S := rfl
def kDict (n : Nat) (Q : D → ST → Prop) : List (D × D) → ST → Prop := fun ps S => S[n]? = some (.dk []) ∧ ∃ kvs, keysD ps = some kvs ∧ kvs.length ≤ 15 ∧ Q (.ref n) (S.set n (.dk (dmerge kvs)))
theorem wp_eDict {fs : List (ME × ME)} {Q : D → ST → Prop} : wpE (eDict fs) G S Q X = wpE (pairsF fs) G (S ++ [.dk []]) (kDict S.length Q) X := by
  unfold wpE eDict
  rw [wp_bind]
  congr 1
  funext ps S1
  unfold kDict
  split
  · rename_i kvs h1 h2
    rw [wp_ite, h1, h2]
    simp [wp_ok]
  · rename_i h
    simp only [wp_bad]
    refine (eq_false ?_).symm
    rintro ⟨h1, kvs, h2, _⟩
    exact h kvs h1 h2
theorem kDict_eq {n : Nat} {Q : D → ST → Prop} {ps : List (D × D)} {kvs : List (Key × D)} (h : keysD ps = some kvs) : kDict n Q ps S = (S[n]? = some (.dk []) ∧ kvs.length ≤ 15 ∧ Q (.ref n) (S.set n (.dk (dmerge kvs)))) := by
  unfold kDict
  rw [h]
  simp

/-! ### statements -/
def kx (K : Kt) (G : GE) : XQ := fun c fs S => K.ex c fs G S
theorem run_s {α : Type} {r : R α} {k : α → ST → RS} : runK (r.s G k) K = wpR r (fun a S => runK (k a S) K) (kx K G) := by cases r <;> rfl
def Kt.seq (g : MS) (K : Kt) : Kt := { K with nx := fun G S => wpS g G S K }
theorem seq_nx {g : MS} : (K.seq g).nx G S = wpS g G S K := rfl
theorem seq_rt {g : MS} : (K.seq g).rt = K.rt := rfl
theorem seq_ex {g : MS} : (K.seq g).ex = K.ex := rfl
theorem seq_bk {g : MS} : (K.seq g).bk = K.bk := rfl
theorem seq_ct {g : MS} : (K.seq g).ct = K.ct := rfl
theorem kx_seq {g : MS} : kx (K.seq g) G = kx K G := rfl
theorem kx_mk {nx bk ct : GE → ST → Prop} {rt : D → ST → Prop} {ex : Str → List (Str × D) → GE → ST → Prop} : kx ⟨nx, rt, bk, ct, ex⟩ G = fun c fs S => ex c fs G S := rfl
theorem wp_sSeq {f g : MS} : wpS (sSeq f g) G S K = wpS f G S (K.seq g) := by
  unfold wpS sSeq
  cases f G S <;> rfl
theorem wp_sNil : wpS sNil G S K = K.nx G S := rfl
theorem wp_sBreak : wpS sBreak G S K = K.bk G S := rfl
theorem wp_sCont : wpS sCont G S K = K.ct G S := rfl
theorem wp_sRetN : wpS sRetN G S K = K.rt .non S := rfl
def kExpr (K : Kt) (G : GE) : D → ST → Prop := fun _ S => K.nx G S
theorem wp_sExpr {f : ME} : wpS (sExpr f) G S K = wpE f G S (kExpr K G) (kx K G) := by
  unfold wpS sExpr; rw [run_s]; rfl
theorem kExpr_eq {d : D} : kExpr K G d S = K.nx G S := rfl
def kRet (K : Kt) : D → ST → Prop := fun d S => K.rt d S
theorem wp_sRet {f : ME} : wpS (sRet f) G S K = wpE f G S (kRet K) (kx K G) := by
  unfold wpS sRet; rw [run_s]; rfl
theorem kRet_seq {g : MS} : kRet (K.seq g) = kRet K := rfl
theorem kRet_mk {nx bk ct : GE → ST → Prop} {rt : D → ST → Prop} {ex : Str → List (Str × D) → GE → ST → Prop} : kRet ⟨nx, rt, bk, ct, ex⟩ = rt := rfl
theorem kRet_eq {d : D} : kRet K d S = K.rt d S := rfl
def kSet (i : Nat) (K : Kt) (G : GE) : D → ST → Prop := fun d S => K.nx (G.set i (some d)) S
theorem wp_sSet {i : Nat} {f : ME} : wpS (sSet i f) G S K = wpE f G S (kSet i K G) (kx K G) := by
  unfold wpS sSet; rw [run_s]; rfl
theorem kSet_eq {i : Nat} {d : D} : kSet i K G d S = K.nx (G.set i (some d)) S := rfl
def kSetT (t : Tg) (K : Kt) (G : GE) : D → ST → Prop := fun d S => match bindT t d G S with | some G' => K.nx G' S | none => False
theorem wp_sSetT {t : Tg} {f : ME} : wpS (sSetT t f) G S K = wpE f G S (kSetT t K G) (kx K G) := by
  unfold wpS sSetT; rw [run_s]
  unfold wpE kSetT
  congr 1
  funext d S
  cases bindT t d G S <;> rfl
theorem kSetT_eq {t : Tg} {d : D} {G' : GE} (h : bindT t d G S = some G') : kSetT t K G d S = K.nx G' S := by unfold kSetT; rw [h]
def kIfS (f g : MS) (G : GE) (K : Kt) : Bool → ST → Prop := fun b S => (b = true → wpS f G S K) ∧ (b = false → wpS g G S K)
theorem wp_sIf {t : MT} {f g : MS} : wpS (sIf t f g) G S K = wpE t G S (kIfS f g G K) (kx K G) := by
  unfold wpS sIf; rw [run_s]
  unfold wpE kIfS
  congr 1
  funext b S
  cases b <;> simp [wpS]
theorem kIfS_eq {f g : MS} {b : Bool} : kIfS f g G K b S = ((b = true → wpS f G S K) ∧ (b = false → wpS g G S K)) := rfl
theorem kIfS_t {f g : MS} : kIfS f g G K true S = wpS f G S K := by simp [kIfS]
theorem kIfS_d {f g : MS} {p : Prop} [Decidable p] : kIfS f g G K (decide p) S = ((p → wpS f G S K) ∧ (¬p → wpS g G S K)) := by simp [kIfS]
theorem kIfS_n {f g : MS} {b : Bool} : kIfS f g G K (!b) S = kIfS g f G K b S := by cases b <;> simp [kIfS]
theorem kIfS_f {f g : MS} : kIfS f g G K false S = wpS g G S K := by simp [kIfS]
def kPar (i j : Nat) (K : Kt) (G : GE) : List D → ST → Prop := fun ds S => match ds with | [d, e] => K.nx ((G.set i (some d)).set j (some e)) S | _ => False
theorem wp_sPar {i j : Nat} {f : MA} : wpS (sPar i j f) G S K = wpE f G S (kPar i j K G) (kx K G) := by
  unfold wpS sPar; rw [run_s]
  unfold wpE kPar
  congr 1
  funext ds S
  split
  · rfl
  · rename_i h
    first
    | rfl
    | (split
       · exact (h _ _ rfl).elim
       · rfl)
theorem kPar_eq {i j : Nat} {d e : D} : kPar i j K G [d, e] S = K.nx ((G.set i (some d)).set j (some e)) S := rfl
def kAug2 (m : D → D → C D) (i : Nat) (d : D) (K : Kt) (G : GE) : D → ST → Prop := fun e S => wpR (m d e S) (kSet i K G) (kx K G)
def kAug (m : D → D → C D) (i : Nat) (f : ME) (K : Kt) (G : GE) : D → ST → Prop := fun d S => wpE f G S (kAug2 m i d K G) (kx K G)
theorem wp_sAug {i : Nat} {m : D → D → C D} {f : ME} : wpS (sAug i m f) G S K = kV G[i]? S (kAug m i f K G) := by
  unfold wpS sAug kV
  split
  · rename_i d e
    rw [run_s]
    (try rw [e])
    unfold kAug wpE kAug2
    (try dsimp only)
    congr 1
    funext e S
    rw [run_s]
    rfl
  · rename_i h
    first
    | rfl
    | (split
       · rename_i d e; exact absurd e (h d)
       · rfl)
theorem kAug_eq {m : D → D → C D} {i : Nat} {f : ME} {d : D} : kAug m i f K G d S = wpE f G S (kAug2 m i d K G) (kx K G) := rfl
theorem kAug2_eq {m : D → D → C D} {i : Nat} {d e : D} : kAug2 m i d K G e S = wpR (m d e S) (kSet i K G) (kx K G) := rfl
def kPut3 (v o : D) (K : Kt) (G : GE) : D → ST → Prop := fun i S => match putD S o i v with | some S4 => K.nx G S4 | none => False
def kPut2 (v : D) (fi : ME) (K : Kt) (G : GE) : D → ST → Prop := fun o S => wpE fi G S (kPut3 v o K G) (kx K G)
def kPut1 (fo fi : ME) (K : Kt) (G : GE) : D → ST → Prop := fun v S => wpE fo G S (kPut2 v fi K G) (kx K G)
theorem wp_sPut {fo fi fe : ME} : wpS (sPut fo fi fe) G S K = wpE fe G S (kPut1 fo fi K G) (kx K G) := by
  unfold wpS sPut; rw [run_s]
  unfold wpE kPut1
  congr 1
  funext v S
  rw [run_s]
  unfold wpE kPut2
  congr 1
  funext o S
  rw [run_s]
  unfold wpE kPut3
  congr 1
  funext i S
  cases putD S o i v <;> rfl
theorem kPut1_eq {fo fi : ME} {v : D} : kPut1 fo fi K G v S = wpE fo G S (kPut2 v fi K G) (kx K G) := rfl
theorem kPut2_eq {fi : ME} {v o : D} : kPut2 v fi K G o S = wpE fi G S (kPut3 v o K G) (kx K G) := rfl
theorem kPut3_eq {v o i : D} {S' : ST} (h : putD S o i v = some S') : kPut3 v o K G i S = K.nx G S' := by unfold kPut3; rw [h]
def kPA4 (o i : D) (K : Kt) (G : GE) : D → ST → Prop := fun z S => ∃ S5, o.isDict S = true ∧ putD S o i z = some S5 ∧ K.nx G S5
def kPA3 (m : D → D → C D) (old o i : D) (K : Kt) (G : GE) : D → ST → Prop := fun v S => wpR (m old v S) (kPA4 o i K G) (kx K G)
def kPA2 (m : D → D → C D) (o : D) (fe : ME) (K : Kt) (G : GE) : D → ST → Prop := fun i S => ∃ old, dGet S o i = some (some old) ∧ wpE fe G S (kPA3 m old o i K G) (kx K G)
def kPA1 (m : D → D → C D) (fi fe : ME) (K : Kt) (G : GE) : D → ST → Prop := fun o S => wpE fi G S (kPA2 m o fe K G) (kx K G)
theorem wp_sPutAug {m : D → D → C D} {fo fi fe : ME} : wpS (sPutAug m fo fi fe) G S K = wpE fo G S (kPA1 m fi fe K G) (kx K G) := by
  unfold wpS sPutAug; rw [run_s]
  unfold wpE kPA1
  congr 1
  funext o S
  rw [run_s]
  unfold wpE kPA2
  congr 1
  funext i S
  split
  · rename_i old h
    rw [run_s, h]
    simp only [Option.some.injEq, exists_eq_left']
    unfold wpE kPA3
    congr 1
    funext v S
    rw [run_s]
    congr 1
    funext z S
    unfold kPA4
    by_cases c : o.isDict S = true
    · rw [if_pos c]
      cases putD S o i z <;> simp [runK, c]
    · rw [if_neg c]
      simp [runK, c]
  · rename_i h
    refine (eq_false ?_).symm
    rintro ⟨old, h1, _⟩
    exact h old h1
theorem kPA1_eq {m : D → D → C D} {fi fe : ME} {o : D} : kPA1 m fi fe K G o S = wpE fi G S (kPA2 m o fe K G) (kx K G) := rfl
theorem kPA2_eq {m : D → D → C D} {fe : ME} {o i old : D} (h : dGet S o i = some (some old)) : kPA2 m o fe K G i S = wpE fe G S (kPA3 m old o i K G) (kx K G) := by unfold kPA2; rw [h]; simp
theorem kPA3_eq {m : D → D → C D} {old o i v : D} : kPA3 m old o i K G v S = wpR (m old v S) (kPA4 o i K G) (kx K G) := rfl
theorem kPA4_eq {o i z : D} {S5 : ST} (h : o.isDict S = true) (h5 : putD S o i z = some S5) : kPA4 o i K G z S = K.nx G S5 := by unfold kPA4; rw [h5]; simp [h]
def kFld2 (cs : List Str) (f : Str) (v : D) (K : Kt) (G : GE) : D → ST → Prop := fun o S => match putFD cs f S o v with | some S3 => K.nx G S3 | none => False
def kFld1 (cs : List Str) (f : Str) (fo : ME) (K : Kt) (G : GE) : D → ST → Prop := fun v S => wpE fo G S (kFld2 cs f v K G) (kx K G)
theorem wp_sFld {cs : List Str} {f : Str} {fo fe : ME} : wpS (Mir.sFld cs f fo fe) G S K = wpE fe G S (kFld1 cs f fo K G) (kx K G) := by
  unfold wpS Mir.sFld; rw [run_s]
  unfold wpE kFld1
  congr 1
  funext v S
  rw [run_s]
  unfold wpE kFld2
  congr 1
  funext o S
  cases putFD cs f S o v <;> rfl
theorem kFld1_eq {cs : List Str} {f : Str} {fo : ME} {v : D} : kFld1 cs f fo K G v S = wpE fo G S (kFld2 cs f v K G) (kx K G) := rfl
theorem kFld2_eq {cs : List Str} {f : Str} {v o : D} {S' : ST} (h : putFD cs f S o v = some S') : kFld2 cs f v K G o S = K.nx G S' := by unfold kFld2; rw [h]
def kFA3 (c f : Str) (o : D) (K : Kt) (G : GE) : D → ST → Prop := fun z S => match putFD [c] f S o z with | some S5 => K.nx G S5 | none => False
def kFA2 (m : D → D → C D) (c f : Str) (old o : D) (K : Kt) (G : GE) : D → ST → Prop := fun v S => wpR (m old v S) (kFA3 c f o K G) (kx K G)
def kFA1 (m : D → D → C D) (c f : Str) (o : D) (fe : ME) (K : Kt) (G : GE) : D → ST → Prop := fun old S => wpE fe G S (kFA2 m c f old o K G) (kx K G)
def kFA0 (m : D → D → C D) (c f : Str) (fe : ME) (K : Kt) (G : GE) : D → ST → Prop := fun o S => wpR (mFld [c] f o S) (kFA1 m c f o fe K G) (kx K G)
theorem wp_sFldAug {c f : Str} {m : D → D → C D} {fo fe : ME} : wpS (Mir.sFldAug c f m fo fe) G S K = wpE fo G S (kFA0 m c f fe K G) (kx K G) := by
  unfold wpS Mir.sFldAug; rw [run_s]
  unfold wpE kFA0
  congr 1
  funext o S
  rw [run_s]
  unfold kFA1 wpE
  congr 1
  funext old S
  rw [run_s]
  unfold kFA2
  congr 1
  funext v S
  rw [run_s]
  unfold kFA3
  congr 1
  funext z S
  cases putFD [c] f S o z <;> rfl
theorem kFA0_eq {m : D → D → C D} {c f : Str} {fe : ME} {o : D} : kFA0 m c f fe K G o S = wpR (mFld [c] f o S) (kFA1 m c f o fe K G) (kx K G) := rfl
theorem kFA1_eq {m : D → D → C D} {c f : Str} {fe : ME} {o old : D} : kFA1 m c f o fe K G old S = wpE fe G S (kFA2 m c f old o K G) (kx K G) := rfl
theorem kFA2_eq {m : D → D → C D} {c f : Str} {o old v : D} : kFA2 m c f old o K G v S = wpR (m old v S) (kFA3 c f o K G) (kx K G) := rfl
theorem kFA3_eq {c f : Str} {o z : D} {S' : ST} (h : putFD [c] f S o z = some S') : kFA3 c f o K G z S = K.nx G S' := by unfold kFA3; rw [h]

/-! ### loops -/
def kFor (t : Tg) (body : MS) (K : Kt) (G : GE) : Src → ST → Prop := fun r S => runK (forF r t body r.ds G S) K
theorem bindT_nm {i : Nat} {d : D} : bindT (.nm i) d G S = some (G.set i (some d)) := rfl
theorem wp_sFor {f : MI} {t : Tg} {body : MS} : wpS (sFor f t body) G S K = wpE f G S (kFor t body K G) (kx K G) := by
  unfold wpS sFor; rw [run_s]; rfl
/-- the loop's word: P of what is left, the names, the store -/
theorem for_inv {t : Tg} {body : MS} {r : Src} (P : List D → GE → ST → Prop) (h0 : P r.ds G S) (hok : ∀ ds G S, P ds G S → r.ok S) (hd : ∀ G S, P [] G S → K.nx G S)
    (hs : ∀ d ds G S, P (d :: ds) G S → ∃ G1, bindT t d G S = some G1 ∧ wpS body G1 S { nx := P ds, ct := P ds, bk := K.nx, rt := K.rt, ex := K.ex }) : kFor t body K G r S := by
  unfold kFor
  have gen : ∀ ds G S, P ds G S → runK (forF r t body ds G S) K := by
    intro ds
    induction ds with
    | nil =>
      intro G S p
      unfold forF
      rw [if_pos (hok _ _ _ p)]
      exact hd G S p
    | cons d ds ih =>
      intro G S p
      unfold forF
      rw [if_pos (hok _ _ _ p)]
      obtain ⟨G1, e, w⟩ := hs d ds G S p
      rw [e]
      unfold wpS at w
      dsimp only
      cases q : body G1 S with
      | nx G2 S2 => rw [q] at w; exact ih G2 S2 w
      | ct G2 S2 => rw [q] at w; exact ih G2 S2 w
      | bk G2 S2 => rw [q] at w; exact w
      | rt d S2 => rw [q] at w; exact w
      | exc c fs G2 S2 => rw [q] at w; exact w
      | bad => rw [q] at w; exact w
  exact gen _ _ _ h0
/-- by places -/
theorem for_at {t : Tg} {body : MS} {r : Src} (P : Nat → GE → ST → Prop) (h0 : P 0 G S) (hok : ∀ i G S, i ≤ r.ds.length → P i G S → r.ok S) (hd : ∀ G S, P r.ds.length G S → K.nx G S)
    (hs : ∀ i d G S, r.ds[i]? = some d → P i G S → ∃ G1, bindT t d G S = some G1 ∧ wpS body G1 S { nx := P (i + 1), ct := P (i + 1), bk := K.nx, rt := K.rt, ex := K.ex }) : kFor t body K G r S := by
  refine for_inv (fun ds G S => ∃ i, i ≤ r.ds.length ∧ ds = r.ds.drop i ∧ P i G S) ⟨0, Nat.zero_le _, by simp, h0⟩ ?_ ?_ ?_
  · rintro ds G S ⟨i, hi, _, p⟩
    exact hok i G S hi p
  · rintro G S ⟨i, hi, e, p⟩
    have e2 : i = r.ds.length := by
      have := congrArg List.length e
      simp at this
      omega
    subst e2
    exact hd G S p
  · rintro d ds G S ⟨i, hi, e, p⟩
    have hlt : i < r.ds.length := by
      apply Classical.byContradiction
      intro z
      rw [List.drop_eq_nil_of_le (by omega)] at e
      cases e
    rw [List.drop_eq_getElem_cons hlt] at e
    injection e with e1 e2
    obtain ⟨G1, b, w⟩ := hs i d G S (by rw [List.getElem?_eq_getElem hlt, e1]) p
    refine ⟨G1, b, ?_⟩
    have m : ∀ G S, P (i + 1) G S → ∃ i, i ≤ r.ds.length ∧ ds = r.ds.drop i ∧ P i G S := fun G S p => ⟨i + 1, hlt, e2, p⟩
    unfold wpS at w ⊢
    cases q : body G1 S with
    | nx G2 S2 => rw [q] at w; exact m _ _ w
    | ct G2 S2 => rw [q] at w; exact m _ _ w
    | bk G2 S2 => rw [q] at w; exact w
    | rt d S2 => rw [q] at w; exact w
    | exc c fs G2 S2 => rw [q] at w; exact w
    | bad => rw [q] at w; exact w
theorem rngD_len {lo c : Int} {n : Nat} : (rngD lo c n).length = n := by simp [rngD]
theorem for_rng {t : Tg} {body : MS} {lo c : Int} {n : Nat} (P : Nat → GE → ST → Prop) (h0 : P 0 G S) (hd : ∀ G S, P n G S → K.nx G S)
    (hs : ∀ i G S, i < n → P i G S → ∃ G1, bindT t (.int (lo + (i : Int) * c)) G S = some G1 ∧ wpS body G1 S { nx := P (i + 1), ct := P (i + 1), bk := K.nx, rt := K.rt, ex := K.ex }) : kFor t body K G ⟨rngD lo c n, none⟩ S := by
  refine for_at P h0 (fun _ _ _ _ _ => True.intro) (fun G S p => hd G S (by simpa [rngD_len] using p)) fun i d G S hi p => ?_
  have hlt : i < n := by
    have := (List.getElem?_eq_some_iff.mp hi).1
    simpa [rngD_len] using this
  rw [rngD_get hlt] at hi
  cases hi
  exact hs i G S hlt p
/-- while: a word and a measure -/
theorem while_inv {t : MT} {b : MS} (P : Nat → GE → ST → Prop) {n : Nat} (h0 : P n G S)
    (hs : ∀ n G S, P n G S → wpE t G S (fun k S1 => (k = true → wpS b G S1 { nx := fun G S => ∃ m, m < n ∧ P m G S, ct := fun G S => ∃ m, m < n ∧ P m G S, bk := K.nx, rt := K.rt, ex := K.ex }) ∧ (k = false → K.nx G S1)) (kx K G)) : wpS (sWhile t b) G S K := by
  unfold wpS
  induction n using Nat.strongRecOn generalizing G S with
  | _ n ih =>
    rw [sWhile_step]
    unfold whStep
    rw [run_s]
    have w := hs n G S h0
    unfold wpE at w
    cases e : t G S with
    | ok k S1 =>
      rw [e] at w
      obtain ⟨w1, w2⟩ := w
      simp only [wp_ok]
      cases k with
      | false =>
        rw [if_neg (by decide)]
        exact w2 rfl
      | true =>
        rw [if_pos rfl]
        have w1 := w1 rfl
        unfold wpS at w1
        cases q : b G S1 with
        | nx G2 S2 => rw [q] at w1; obtain ⟨m, hm, p⟩ := w1; exact ih m hm p
        | ct G2 S2 => rw [q] at w1; obtain ⟨m, hm, p⟩ := w1; exact ih m hm p
        | bk G2 S2 => rw [q] at w1; exact w1
        | rt d S2 => rw [q] at w1; exact w1
        | exc c fs G2 S2 => rw [q] at w1; exact w1
        | bad => rw [q] at w1; exact w1
    | exc c fs S1 => rw [e] at w; exact w
    | bad => rw [e] at w; exact w
/-- what is walked -/
def kSeq (Q : Src → ST → Prop) : D → ST → Prop := fun d S => match seqSrc S d with | some r => Q r S | none => False
theorem wp_iSeq {f : ME} {Q : Src → ST → Prop} : wpE (iSeq f) G S Q X = wpE f G S (kSeq Q) X := by
  unfold wpE iSeq kSeq
  rw [wp_bind]
  congr 1
  funext d S
  cases seqSrc S d <;> rfl
theorem kSeq_tup {Q : Src → ST → Prop} {ds : List D} : kSeq Q (.tup ds) S = Q ⟨ds, none⟩ S := rfl
theorem kSeq_fl {Q : Src → ST → Prop} {ds : List D} : kSeq Q (.fl ds) S = Q ⟨ds, none⟩ S := rfl
theorem kSeq_ref {Q : Src → ST → Prop} {n : Nat} {ds : List D} (h : S[n]? = some (.lst ds)) : kSeq Q (.ref n) S = Q ⟨ds, some n⟩ S := by unfold kSeq seqSrc; simp only [h]
def kRg1 (Q : Src → ST → Prop) : List D → ST → Prop := fun ds S => match ds with | [.int j] => lim62 j = true ∧ Q ⟨rngD 0 1 j.toNat, none⟩ S | _ => False
theorem wp_iRg1 {f : MA} {Q : Src → ST → Prop} : wpE (iRg1 f) G S Q X = wpE f G S (kRg1 Q) X := by
  unfold wpE iRg1
  rw [wp_bind]
  congr 1
  funext ds S
  unfold kRg1
  split
  · rw [wp_ite]; rfl
  · rename_i h
    first
    | rfl
    | (split
       · exact (h _ rfl).elim
       · rfl)
theorem kRg1_eq {Q : Src → ST → Prop} {j : Int} : kRg1 Q [.int j] S = (lim62 j = true ∧ Q ⟨rngD 0 1 j.toNat, none⟩ S) := rfl
def kRg2 (Q : Src → ST → Prop) : List D → ST → Prop := fun ds S => match ds with | [.int i, .int j] => (lim62 i && lim62 j) = true ∧ Q ⟨rngD i 1 (j - i).toNat, none⟩ S | _ => False
theorem wp_iRg2 {f : MA} {Q : Src → ST → Prop} : wpE (iRg2 f) G S Q X = wpE f G S (kRg2 Q) X := by
  unfold wpE iRg2
  rw [wp_bind]
  congr 1
  funext ds S
  unfold kRg2
  split
  · rw [wp_ite]; rfl
  · rename_i h
    first
    | rfl
    | (split
       · exact (h _ _ rfl).elim
       · rfl)
theorem kRg2_eq {Q : Src → ST → Prop} {i j : Int} : kRg2 Q [.int i, .int j] S = ((lim62 i && lim62 j) = true ∧ Q ⟨rngD i 1 (j - i).toNat, none⟩ S) := rfl
/-- comprehensions -/
def kLc (t : Tg) (tt : MT) (fe : ME) (own : List Nat) (G : GE) (Q : D → ST → Prop) (X : XQ) : Src → ST → Prop := fun r S => wpR (lcF r t tt fe S.length (wipeG G own) r.ds (S ++ [.lst []])) Q X
theorem wp_eLc {f : MI} {t : Tg} {tt : MT} {fe : ME} {own : List Nat} {Q : D → ST → Prop} : wpE (eLc f t tt fe own) G S Q X = wpE f G S (kLc t tt fe own G Q X) X := by
  unfold wpE eLc; rw [wp_bind]; rfl
/-- its word: P of what is left, the items made, the store; the new list stands at n -/
theorem lc_inv {t : Tg} {tt : MT} {fe : ME} {own : List Nat} {r : Src} {Q : D → ST → Prop} (P : List D → List D → ST → Prop) (h0 : P r.ds [] (S ++ [.lst []])) (hok : ∀ ds acc S, P ds acc S → r.ok S) (hd : ∀ acc S', P [] acc S' → Q (.ref S.length) S')
    (hs : ∀ d ds acc S', P (d :: ds) acc S' → ∃ G1, bindT t d (wipeG G own) S' = some G1 ∧ wpE tt G1 S' (fun k S1 => (k = false → P ds acc S1) ∧ (k = true → wpE fe G1 S1 (fun v S2 => S2[S.length]? = some (.lst acc) ∧ acc.length < SZ ∧ P ds (acc ++ [v]) (S2.set S.length (.lst (acc ++ [v])))) fun _ _ _ => False)) fun _ _ _ => False) :
    kLc t tt fe own G Q X r S := by
  unfold kLc
  have gen : ∀ ds acc S', P ds acc S' → wpR (lcF r t tt fe S.length (wipeG G own) ds S') Q X := by
    intro ds
    induction ds with
    | nil =>
      intro acc S' p
      unfold lcF
      rw [if_pos (hok _ _ _ p)]
      exact hd acc S' p
    | cons d ds ih =>
      intro acc S' p
      unfold lcF
      rw [if_pos (hok _ _ _ p)]
      obtain ⟨G1, e, w⟩ := hs d ds acc S' p
      rw [e]
      unfold wpE at w
      dsimp only
      cases q : tt G1 S' with
      | ok k S1 =>
        rw [q] at w
        obtain ⟨w1, w2⟩ := w
        cases k with
        | false => exact ih _ _ (w1 rfl)
        | true =>
          have w2 := w2 rfl
          dsimp only
          cases q2 : fe G1 S1 with
          | ok v S2 =>
            rw [q2] at w2
            obtain ⟨h1, h2, h3⟩ := w2
            dsimp only
            rw [h1]
            dsimp only
            rw [if_pos h2]
            exact ih _ _ h3
          | exc c fs S2 => rw [q2] at w2; exact w2.elim
          | bad => rw [q2] at w2; exact w2.elim
      | exc c fs S1 => rw [q] at w; exact w.elim
      | bad => rw [q] at w; exact w.elim
  exact gen _ _ _ h0
/-- functions -/
def kFnEnd (Q : D → ST → Prop) (X : XQ) : Kt := { nx := fun _ S => Q .non S, rt := Q, bk := fun _ _ => False, ct := fun _ _ => False, ex := fun c fs _ S => X c fs S }
theorem wp_mkFn {n k : Nat} {b : MS} {ds : List D} {Q : D → ST → Prop} : wpR (mkFn n k b ds S) Q X = (ds.length = n ∧ wpS b (ds.map some ++ List.replicate k none) S (kFnEnd Q X)) := by
  unfold mkFn wpS
  by_cases h : ds.length = n
  · rw [if_pos h]
    simp only [h, true_and]
    cases b (ds.map some ++ List.replicate k none) S <;> rfl
  · rw [if_neg h]
    simp only [h, false_and, wp_bad]
theorem fe_nx {Q : D → ST → Prop} : (kFnEnd Q X).nx G S = Q .non S := rfl
theorem fe_rt {Q : D → ST → Prop} : (kFnEnd Q X).rt = Q := rfl
theorem kRet_fe {Q : D → ST → Prop} : kRet (kFnEnd Q X) = Q := rfl
theorem kx_fe {Q : D → ST → Prop} : kx (kFnEnd Q X) G = X := rfl
theorem fe_ex {Q : D → ST → Prop} : (kFnEnd Q X).ex = fun c fs _ S => X c fs S := rfl
theorem wpR_none {r : R α} {Q : α → ST → Prop} (h : wpR r Q (fun _ _ _ => False)) : wpR r Q X := by
  cases r with
  | ok a S => exact h
  | exc c fs S => exact h.elim
  | bad => exact h
theorem wpR_mono {r : R α} {Q' : α → ST → Prop} (h : wpR r Q X) (q : ∀ a S, Q a S → Q' a S) : wpR r Q' X := by
  cases r with
  | ok a S => exact q a S h
  | exc c fs S => exact h
  | bad => exact h
theorem wpS_mono {b : MS} {G : GE} {K K' : Kt} (h : wpS b G S K) (h1 : ∀ G S, K.nx G S → K'.nx G S) (h2 : ∀ d S, K.rt d S → K'.rt d S) (h3 : ∀ G S, K.bk G S → K'.bk G S) (h4 : ∀ G S, K.ct G S → K'.ct G S) (h5 : ∀ c fs G S, K.ex c fs G S → K'.ex c fs G S) : wpS b G S K' := by
  unfold wpS runK at *
  revert h
  cases b G S with
  | nx => exact h1 _ _
  | rt => exact h2 _ _
  | bk => exact h3 _ _
  | ct => exact h4 _ _
  | exc => exact h5 _ _ _ _
  | bad => exact id
theorem wpR_eq {r : R α} (h : wpR r Q (fun _ _ _ => False)) : ∃ a S, r = .ok a S ∧ Q a S := by
  cases r with
  | ok a S => exact ⟨a, S, rfl, h⟩
  | exc c fs S => exact h.elim
  | bad => exact h.elim
theorem wpR_of {r : R α} (h : ∃ a S, r = .ok a S ∧ Q a S) : wpR r Q X := by
  obtain ⟨a, S, e, q⟩ := h
  rw [e]; exact q
end
end Mir

namespace Mir
open PySem L2 PyProof.Rows
section
variable {α : Type} {Q : D → ST → Prop} {X : XQ} {S : ST} {G : GE} {K : Kt} {i j : Int} {x y : Str} {n : Nat} {k : D} {ds es : List D} {kvs : List (Key × D)}
/-! ### the operations at known shapes -/
theorem r_add : wpR (mAdd (.int i) (.int j) S) Q X = Q (.int (i + j)) S := rfl
theorem r_addS : wpR (mAdd (.str x) (.str y) S) Q X = (x.length + y.length ≤ SZ ∧ Q (.str (x ++ y)) S) := wp_ite
theorem r_addT : wpR (mAdd (.tup ds) (.tup es) S) Q X = (ds.length + es.length ≤ SZ ∧ Q (.tup (ds ++ es)) S) := wp_ite
theorem r_iadd : wpR (mIAdd (.int i) (.int j) S) Q X = Q (.int (i + j)) S := rfl
theorem r_sub : wpR (mSub (.int i) (.int j) S) Q X = Q (.int (i - j)) S := rfl
theorem r_mul : wpR (mMul (.int i) (.int j) S) Q X = ((lim64 i || lim64 j) = true ∧ Q (.int (i * j)) S) := wp_ite
theorem r_fdiv : wpR (mFDiv (.int i) (.int j) S) Q X = (cDiv i j = true ∧ Q (.int (i / j)) S) := wp_ite
theorem r_mod : wpR (mMod (.int i) (.int j) S) Q X = (cMod i j = true ∧ Q (.int (i % j)) S) := wp_ite
theorem r_pow : wpR (mPow (.int i) (.int j) S) Q X = (cPow i j = true ∧ Q (.int (i ^ j.toNat)) S) := wp_ite
theorem r_shl : wpR (mShl (.int i) (.int j) S) Q X = (cPow i j = true ∧ Q (.int (i * 2 ^ j.toNat)) S) := wp_ite
theorem r_shr : wpR (mShr (.int i) (.int j) S) Q X = (cNn i j = true ∧ Q (.int (i / 2 ^ j.toNat)) S) := wp_ite
theorem r_and : wpR (mAnd (.int i) (.int j) S) Q X = Q (.int (Builtin.bitAnd i j)) S := rfl
theorem r_or : wpR (mOr (.int i) (.int j) S) Q X = Q (.int (Builtin.bitOr i j)) S := rfl
theorem r_xor : wpR (mXor (.int i) (.int j) S) Q X = Q (.int (Builtin.bitXor i j)) S := rfl
theorem r_neg : wpR (mNeg (.int i) S) Q X = Q (.int (-i)) S := rfl
theorem r_lt : wpR (mLt (.int i) (.int j) S) Q X = Q (.bl (decide (i < j))) S := rfl
theorem r_le : wpR (mLe (.int i) (.int j) S) Q X = Q (.bl (decide (i ≤ j))) S := rfl
theorem r_gt : wpR (mGt (.int i) (.int j) S) Q X = Q (.bl (decide (j < i))) S := rfl
theorem r_ge : wpR (mGe (.int i) (.int j) S) Q X = Q (.bl (decide (j ≤ i))) S := rfl
theorem r_eqI : wpR (mEq (.int i) (.int j) S) Q X = Q (.bl (decide (i = j))) S := rfl
theorem r_eqS : wpR (mEq (.str x) (.str y) S) Q X = Q (.bl (decide (x = y))) S := rfl
theorem r_eqB {a b : Bool} : wpR (mEq (.bl a) (.bl b) S) Q X = Q (.bl (decide (a = b))) S := rfl
theorem r_neI : wpR (mNe (.int i) (.int j) S) Q X = Q (.bl (!decide (i = j))) S := rfl
theorem r_neS : wpR (mNe (.str x) (.str y) S) Q X = Q (.bl (!decide (x = y))) S := rfl
theorem r_neB {a b : Bool} : wpR (mNe (.bl a) (.bl b) S) Q X = Q (.bl (!decide (a = b))) S := rfl
theorem r_isB {a b : Bool} : wpR (mIs (.bl a) (.bl b) S) Q X = Q (.bl (decide (a = b))) S := rfl
theorem r_isNB {a b : Bool} : wpR (mIsNot (.bl a) (.bl b) S) Q X = Q (.bl (!decide (a = b))) S := rfl
theorem r_is0 : wpR (mIs .non .non S) Q X = Q (.bl true) S := rfl
theorem r_isI : wpR (mIs (.int i) .non S) Q X = Q (.bl false) S := rfl
theorem r_isT : wpR (mIs (.tup ds) .non S) Q X = Q (.bl false) S := rfl
theorem r_isNot0 : wpR (mIsNot .non .non S) Q X = Q (.bl false) S := rfl
theorem r_isNotI : wpR (mIsNot (.int i) .non S) Q X = Q (.bl true) S := rfl
theorem r_isNotT : wpR (mIsNot (.tup ds) .non S) Q X = Q (.bl true) S := rfl
theorem r_int : wpR (bInt [.int i] S) Q X = Q (.int i) S := rfl
theorem r_intB {b : Bool} : wpR (bInt [.bl b] S) Q X = Q (.int (if b = true then 1 else 0)) S := rfl
theorem r_abs : wpR (bAbs [.int i] S) Q X = Q (.int (if i < 0 then -i else i)) S := rfl
theorem r_max2 : wpR (bMax2 [.int i, .int j] S) Q X = Q (.int (max i j)) S := rfl
theorem r_min2 : wpR (bMin2 [.int i, .int j] S) Q X = Q (.int (min i j)) S := rfl
theorem r_lenT : wpR (bLen [.tup ds] S) Q X = Q (.int ds.length) S := rfl
theorem r_lenF : wpR (bLen [.fl ds] S) Q X = Q (.int ds.length) S := rfl
def kLen (o : Option O) (Q : D → ST → Prop) (S : ST) : Prop := match o with | some (.lst ds) => Q (.int ds.length) S | some (.dk kvs) => Q (.int kvs.length) S | _ => False
theorem r_lenR : wpR (bLen [.ref n] S) Q X = kLen S[n]? Q S := by
  unfold bLen lenD kLen
  dsimp only
  split <;> split <;> simp_all [wpR]
theorem kLen_lst : kLen (some (.lst ds)) Q S = Q (.int ds.length) S := rfl
theorem kLen_dk : kLen (some (.dk kvs)) Q S = Q (.int kvs.length) S := rfl
/-- a[i] -/
def kOpt (o : Option D) (Q : D → ST → Prop) (S : ST) : Prop := match o with | some d => Q d S | none => False
theorem kOpt_some {d : D} : kOpt (some d) Q S = Q d S := rfl
def kIx (o : Option O) (k : D) (Q : D → ST → Prop) (S : ST) : Prop := match o with
  | some (.lst ds) => (match k with | .int i => kOpt (atI ds i) Q S | _ => False)
  | some (.dk kvs) => (match k.key with | some k => kOpt (look kvs k) Q S | none => False)
  | _ => False
theorem r_ixT : wpR (mIx (.tup ds) (.int i) S) Q X = kOpt (atI ds i) Q S := by
  unfold mIx mIxS ixS
  simp only [D.isDict, D.items, if_false, Bool.false_eq_true]
  cases atI ds i <;> rfl
theorem r_ixF : wpR (mIx (.fl ds) (.int i) S) Q X = kOpt (atI ds i) Q S := by
  unfold mIx mIxS ixS
  simp only [D.isDict, D.items, if_false, Bool.false_eq_true]
  cases atI ds i <;> rfl
theorem r_ixR : wpR (mIx (.ref n) k S) Q X = kIx S[n]? k Q S := by
  cases h : S[n]? with
  | none => cases k <;> simp [mIx, D.isDict, mIxS, ixS, D.items, h, kIx, wpR]
  | some o =>
    cases o with
    | lst ds =>
      simp only [mIx, D.isDict, mIxS, ixS, D.items, h, kIx, Bool.false_eq_true, if_false]
      cases k <;> first | rfl | skip
      rename_i i
      dsimp only
      cases atI ds i <;> rfl
    | dk kvs =>
      simp only [mIx, D.isDict, mIxD, dGet, h, kIx, if_true]
      cases k.key with
      | none => rfl
      | some k =>
        simp only [Option.map_some]
        cases look kvs k <;> rfl
    | dt kvs => simp [mIx, D.isDict, mIxD, dGet, h, kIx, wpR]
    | ins c fs => cases k <;> simp [mIx, D.isDict, mIxS, ixS, D.items, h, kIx, wpR]
theorem kIx_lst : kIx (some (.lst ds)) (.int i) Q S = kOpt (atI ds i) Q S := rfl
theorem kIx_dkS : kIx (some (.dk kvs)) (.str x) Q S = kOpt (look kvs (.inr x)) Q S := rfl
theorem kIx_dkI : kIx (some (.dk kvs)) (.int i) Q S = kOpt (look kvs (.inl i)) Q S := rfl
theorem look_cons {κ α : Type} [DecidableEq κ] {k j : κ} {d : α} {r : List (κ × α)} : look ((j, d) :: r) k = if j = k then some d else look r k := by
  unfold look
  by_cases h : j = k <;> simp [List.find?_cons, h]
theorem look_nil {κ α : Type} [DecidableEq κ] {k : κ} : look ([] : List (κ × α)) k = none := rfl
theorem key_int : D.key (.int i) = some (.inl i) := rfl
theorem key_str : D.key (.str x) = some (.inr x) := rfl
theorem dput_cons {κ α : Type} [DecidableEq κ] {k j : κ} {d v : α} {r : List (κ × α)} (h : j ≠ k) : dput ((j, d) :: r) k v = (j, d) :: dput r k v := by
  unfold dput
  simp only [List.any_cons, h, decide_false, Bool.false_or, List.map_cons, if_false]
  split <;> rfl
theorem dput_nil {κ α : Type} [DecidableEq κ] {k : κ} {v : α} : dput ([] : List (κ × α)) k v = [(k, v)] := rfl
theorem inr_inj {a b : Str} : ((Sum.inr a : Key) = Sum.inr b) = (a = b) := by simp
theorem inl_inj {a b : Int} : ((Sum.inl a : Key) = Sum.inl b) = (a = b) := by simp
theorem ofS_inj {a b : String} : (Str.ofString a = Str.ofString b) = (a = b) := propext ofString_inj
theorem dput_hit {κ α : Type} [DecidableEq κ] {k : κ} {d v : α} {r : List (κ × α)} (h : ∀ p ∈ r, p.1 ≠ k) : dput ((k, d) :: r) k v = (k, v) :: r := by
  unfold dput
  have e : r.map (fun kv => if kv.1 = k then (kv.1, v) else kv) = r := by
    conv => rhs; rw [← List.map_id r]
    exact List.map_congr_left fun p hp => by simp [h p hp]
  simp [e]
/-- stores -/
def kPutO (o : Option O) (n : Nat) (i v : D) (S : ST) (N : ST → Prop) : Prop := match o with
  | some (.lst ds) => (match i with | .int i => (match ixN ds.length i with | some j => N (S.set n (.lst (ds.set j v))) | none => False) | _ => False)
  | some (.dk kvs) => (match i.key with | some k => kvs.length < SZ ∧ N (S.set n (.dk (dput kvs k v))) | none => False)
  | _ => False
theorem kPut3_ref {v i : D} : kPut3 v (.ref n) K G i S = kPutO S[n]? n i v S (fun S' => K.nx G S') := by
  unfold kPut3 putD kPutO
  dsimp only
  cases S[n]? with
  | none => rfl
  | some o =>
    cases o with
    | lst ds =>
      cases i <;> first | rfl | skip
      dsimp only
      cases ixN ds.length _ <;> rfl
    | dk kvs =>
      cases i.key with
      | none => rfl
      | some k =>
        dsimp only
        by_cases h : kvs.length < SZ <;> simp [h]
    | dt kvs => rfl
    | ins c fs => rfl
theorem kPutO_lst {v : D} {N : ST → Prop} : kPutO (some (.lst ds)) n (.int i) v S N = (match ixN ds.length i with | some j => N (S.set n (.lst (ds.set j v))) | none => False) := rfl
theorem kPutO_dkS {v : D} {N : ST → Prop} : kPutO (some (.dk kvs)) n (.str x) v S N = (kvs.length < SZ ∧ N (S.set n (.dk (dput kvs (.inr x) v)))) := rfl
theorem kPutO_dkI {v : D} {N : ST → Prop} : kPutO (some (.dk kvs)) n (.int i) v S N = (kvs.length < SZ ∧ N (S.set n (.dk (dput kvs (.inl i) v)))) := rfl
theorem dGet_ref {k : D} : dGet S (.ref n) k = (match S[n]? with | some (.dk kvs) => k.key.map fun k => look kvs k | _ => none) := rfl
theorem isDict_ref : D.isDict S (.ref n) = (match S[n]? with | some (.dk _) => true | some (.dt _) => true | _ => false) := rfl
theorem putD_ref {k v : D} : putD S (.ref n) k v = (match S[n]? with
    | some (.lst ds) => (match k with | .int i => (ixN ds.length i).map fun j => S.set n (.lst (ds.set j v)) | _ => none)
    | some (.dk kvs) => (match k.key with | some k => if kvs.length < SZ then some (S.set n (.dk (dput kvs k v))) else none | none => none)
    | _ => none) := rfl
theorem tyD_ref {T : String} : tyD T S (.ref n) = (match S[n]? with | some (.lst _) => T == "list" | some (.dk _) => T == "dict" | some (.dt _) => T == "dict" | _ => false) := rfl
theorem r_append {y : D} : wpR (bAppend (.ref n) [y] S) Q X = (match S[n]? with | some (.lst es) => es.length < SZ ∧ Q .non (S.set n (.lst (es ++ [y]))) | _ => False) := by
  unfold bAppend withL
  dsimp only
  cases S[n]? with
  | none => rfl
  | some o => cases o <;> first | rfl | (dsimp only; rw [wp_ite]; rfl)
theorem sl_ref {lo hi : Option Int} : wpR (mSl (.ref n) lo hi S) Q X = (match S[n]? with | some (.lst ds) => Q (.ref S.length) (S ++ [.lst (cutD ds lo hi)]) | _ => False) := by
  unfold mSl D.items
  dsimp only
  cases S[n]? with
  | none => rfl
  | some o => cases o <;> rfl
/-- d[k] op= e of a dict in the store -/
def kPAo (o : Option O) (m : D → D → C D) (n : Nat) (fe : ME) (K : Kt) (G : GE) (i : D) (S : ST) : Prop := match o with
  | some (.dk kvs) => (match i.key with
    | some k => (match look kvs k with | some old => wpE fe G S (kPA3 m old (.ref n) i K G) (kx K G) | none => False)
    | none => False)
  | _ => False
theorem kPA2_ref {m : D → D → C D} {fe : ME} {i : D} : kPA2 m (.ref n) fe K G i S = kPAo S[n]? m n fe K G i S := by
  cases h : S[n]? with
  | none => simp [kPA2, dGet, h, kPAo]
  | some o =>
    cases o with
    | dk kvs =>
      simp only [kPA2, dGet, h, kPAo]
      cases i.key with
      | none => simp
      | some k => simp only [Option.map_some]; cases look kvs k <;> simp
    | _ => simp [kPA2, dGet, h, kPAo]
theorem kPAo_dkS {m : D → D → C D} {fe : ME} : kPAo (some (.dk kvs)) m n fe K G (.str x) S = (match look kvs (.inr x) with | some old => wpE fe G S (kPA3 m old (.ref n) (.str x) K G) (kx K G) | none => False) := rfl
theorem kPAo_dkI {m : D → D → C D} {fe : ME} : kPAo (some (.dk kvs)) m n fe K G (.int i) S = (match look kvs (.inl i) with | some old => wpE fe G S (kPA3 m old (.ref n) (.int i) K G) (kx K G) | none => False) := rfl
def kPDo (o : Option O) (n : Nat) (i z : D) (S : ST) (N : ST → Prop) : Prop := match o with
  | some (.dk kvs) => (match i.key with | some k => kvs.length < SZ ∧ N (S.set n (.dk (dput kvs k z))) | none => False)
  | _ => False
theorem kPA4_ref {i z : D} : kPA4 (.ref n) i K G z S = kPDo S[n]? n i z S (K.nx G) := by
  cases h : S[n]? with
  | none => simp [kPA4, D.isDict, h, kPDo]
  | some o =>
    cases o with
    | dk kvs =>
      simp only [kPA4, D.isDict, putD, h, kPDo]
      cases i.key with
      | none => simp
      | some k => by_cases c : kvs.length < SZ <;> simp [c]
    | dt kvs => simp [kPA4, D.isDict, putD, h, kPDo]
    | _ => simp [kPA4, D.isDict, h, kPDo]
theorem kPDo_dkS {z : D} {N : ST → Prop} : kPDo (some (.dk kvs)) n (.str x) z S N = (kvs.length < SZ ∧ N (S.set n (.dk (dput kvs (.inr x) z)))) := rfl
theorem kPDo_dkI {z : D} {N : ST → Prop} : kPDo (some (.dk kvs)) n (.int i) z S N = (kvs.length < SZ ∧ N (S.set n (.dk (dput kvs (.inl i) z)))) := rfl
theorem dput_eq {κ α : Type} [DecidableEq κ] {k j : κ} {d v : α} {r : List (κ × α)} (h : ∀ p ∈ r, p.1 ≠ j) : dput ((j, d) :: r) k v = if j = k then (j, v) :: r else (j, d) :: dput r k v := by
  by_cases e : j = k
  · subst e; rw [if_pos rfl, dput_hit h]
  · rw [if_neg e, dput_cons e]
theorem set_get {iw n : Nat} {o : O} (h : n ≠ iw) : (S.set iw o)[n]? = S[n]? := List.getElem?_set_ne (Ne.symm h)
theorem set_same {iw : Nat} {o : O} (h : iw < S.length) : (S.set iw o)[iw]? = some o := List.getElem?_set_self h
theorem lim64_of {i : Int} (h0 : -18446744073709551616 < i) (h1 : i < 18446744073709551616) : lim64 i = true := by simp [lim64, h0, h1]
theorem lim64_l {i j : Int} (h0 : -18446744073709551616 < i) (h1 : i < 18446744073709551616) : (lim64 i || lim64 j) = true := by rw [lim64_of h0 h1]; rfl
theorem lim64_r {i j : Int} (h0 : -18446744073709551616 < j) (h1 : j < 18446744073709551616) : (lim64 i || lim64 j) = true := by rw [lim64_of h0 h1]; simp
theorem lim62_of {i : Int} (h0 : -4611686018427387904 ≤ i) (h1 : i < 4611686018427387904) : lim62 i = true := by simp [lim62, h0, h1]
theorem cMod_of {i j : Int} (h : 0 < j) : cMod i j = true := by simp [cMod, h]
theorem cDiv_of {i j : Int} (h : 0 < j) (h1 : j < 18446744073709551616) : cDiv i j = true := by simp [cDiv, h, h1]
theorem cNn_of {i j : Int} (h : 0 ≤ j) : cNn i j = true := by simp [cNn, h]
theorem cPow_of {i j : Int} (h : 0 ≤ j) (h1 : j ≤ 1000000) (h2 : -18446744073709551616 < i) (h3 : i < 18446744073709551616) : cPow i j = true := by simp [cPow, h, h1, lim64_of h2 h3]
theorem atI_pos {α : Type} {xs : List α} {i : Int} (h0 : 0 ≤ i) (h1 : i < xs.length) : atI xs i = xs[i.toNat]? := by
  unfold atI ixN
  rw [if_pos h0, if_pos h1]
  rfl
theorem cut_len (ds : List D) (lo hi : Option Int) : (cutD ds lo hi).length ≤ ds.length := by
  unfold cutD
  rw [List.length_take, List.length_drop]
  omega
theorem cut_sub {ds : List D} {lo hi : Option Int} {d : D} (h : d ∈ cutD ds lo hi) : d ∈ ds := List.mem_of_mem_drop (List.mem_of_mem_take h)
/-! ### in -/
theorem r_inT {a : D} (h : (a.flat && ds.all D.flat) = true) : wpR (mIn a (.tup ds) S) Q X = Q (.bl (ds.any fun y => eqF y a)) S := by
  unfold mIn mInG
  simp only [D.isDict, inB, D.items, h, if_true, Bool.false_eq_true, if_false]
  rfl
theorem r_ninT {a : D} (h : (a.flat && ds.all D.flat) = true) : wpR (mNotIn a (.tup ds) S) Q X = Q (.bl (!(ds.any fun y => eqF y a))) S := by
  unfold mNotIn mInG
  simp only [D.isDict, inB, D.items, h, if_true, Bool.false_eq_true, if_false]
  rfl
def kInO (o : Option O) (g : Bool → Bool) (a : D) (Q : D → ST → Prop) (S : ST) : Prop := match o with
  | some (.lst ds) => (a.flat && ds.all D.flat) = true ∧ Q (.bl (g (ds.any fun y => eqF y a))) S
  | some (.dk kvs) => (match a.key with | some k => Q (.bl (g (look kvs k).isSome)) S | none => False)
  | _ => False
theorem r_inG {g : Bool → Bool} {a : D} (h : kInO S[n]? g a Q S) : wpR (mInG g a (.ref n) S) Q X := by
  unfold kInO at h
  split at h
  · rename_i ds e
    unfold mInG
    simp only [D.isDict, e, Bool.false_eq_true, if_false, inB, D.items, h.1, if_true]
    exact h.2
  · rename_i kvs e
    unfold mInG
    simp only [D.isDict, e, if_true, dGet]
    cases ek : a.key with
    | none => rw [ek] at h; exact h.elim
    | some k => rw [ek] at h; exact h
  · exact h.elim
theorem r_inR {a : D} (h : kInO S[n]? id a Q S) : wpR (mIn a (.ref n) S) Q X := r_inG h
theorem r_ninR {a : D} (h : kInO S[n]? not a Q S) : wpR (mNotIn a (.ref n) S) Q X := r_inG h
theorem flat_int : D.flat (.int i) = true := rfl
theorem flat_str : D.flat (.str x) = true := rfl
theorem flat_bl {b : Bool} : D.flat (.bl b) = true := rfl
theorem eqF_int : eqF (.int i) (.int j) = decide (i = j) := rfl
theorem eqF_str : eqF (.str x) (.str y) = decide (x = y) := rfl
theorem dec_or {p q : Prop} [Decidable p] [Decidable q] : (decide p || decide q) = decide (p ∨ q) := by by_cases p <;> simp_all
theorem dec_and {p q : Prop} [Decidable p] [Decidable q] : (decide p && decide q) = decide (p ∧ q) := by by_cases p <;> simp_all
/-! ### isinstance -/
def kIsi (o : Option Bool) (Q : D → ST → Prop) (S : ST) : Prop := match o with | some b => Q (.bl b) S | none => False
theorem r_isi {d : D} {T : String} : wpR (bIsi [d, .opq (.ty T)] S) Q X = kIsi ((tyN S d).bind fun t => subN t T) Q S := by
  unfold bIsi kIsi
  dsimp only
  cases (tyN S d).bind fun t => subN t T <;> rfl
theorem kIsi_some {b : Bool} : kIsi (some b) Q S = Q (.bl b) S := rfl
theorem tyN_non : tyN S .non = some "NoneType" := rfl
theorem tyN_bl {b : Bool} : tyN S (.bl b) = some "bool" := rfl
theorem tyN_int : tyN S (.int i) = some "int" := rfl
theorem tyN_str : tyN S (.str x) = some "str" := rfl
theorem tyN_tup : tyN S (.tup ds) = some "tuple" := rfl
theorem tyN_fl : tyN S (.fl ds) = some "list" := rfl
def tyO (o : Option O) : Option String := match o with | some (.lst _) => some "list" | some (.dk _) => some "dict" | some (.dt _) => some "dict" | _ => none
theorem tyN_ref : tyN S (.ref n) = tyO S[n]? := rfl
theorem tyO_lst : tyO (some (.lst ds)) = some "list" := rfl
theorem tyO_dk : tyO (some (.dk kvs)) = some "dict" := rfl
theorem subN_int {t : String} : subN t "int" = some (t == "int" || t == "bool") := rfl
theorem subN_bool {t : String} : subN t "bool" = some (t == "bool") := rfl
theorem subN_str {t : String} : subN t "str" = some (t == "str") := rfl
theorem subN_tuple {t : String} : subN t "tuple" = some (t == "tuple") := rfl
theorem subN_list {t : String} : subN t "list" = some (t == "list") := rfl
theorem subN_dict {t : String} : subN t "dict" = some (t == "dict") := rfl
theorem r_isS : wpR (mIs (.str x) .non S) Q X = Q (.bl false) S := rfl
theorem r_isBl {b : Bool} : wpR (mIs (.bl b) .non S) Q X = Q (.bl false) S := rfl
theorem r_isR : wpR (mIs (.ref n) .non S) Q X = Q (.bl false) S := rfl
theorem r_isF : wpR (mIs (.fl ds) .non S) Q X = Q (.bl false) S := rfl
theorem r_isNotS : wpR (mIsNot (.str x) .non S) Q X = Q (.bl true) S := rfl
theorem r_isNotBl {b : Bool} : wpR (mIsNot (.bl b) .non S) Q X = Q (.bl true) S := rfl
theorem r_isNotR : wpR (mIsNot (.ref n) .non S) Q X = Q (.bl true) S := rfl
theorem r_isNotF : wpR (mIsNot (.fl ds) .non S) Q X = Q (.bl true) S := rfl
/-! ### dict displays -/
def kDk (o : Option (List (Key × D))) (n : Nat) (Q : D → ST → Prop) (S : ST) : Prop := match o with
  | some kvs => kvs.length ≤ 15 ∧ Q (.ref n) (S.set n (.dk (dmerge kvs)))
  | none => False
theorem kDict_dk {ps : List (D × D)} : kDict n Q ps S = (S[n]? = some (.dk []) ∧ kDk (keysD ps) n Q S) := by
  cases h : keysD ps with
  | none => simp [kDict, h, kDk]
  | some kvs => rw [kDict_eq h]; rfl
theorem kDk_some : kDk (some kvs) n Q S = (kvs.length ≤ 15 ∧ Q (.ref n) (S.set n (.dk (dmerge kvs)))) := rfl
theorem keysD_nil : keysD [] = some [] := rfl
theorem keysD_s {v : D} {r : List (D × D)} : keysD ((.str x, v) :: r) = (keysD r).map ((.inr x, v) :: ·) := by
  rw [keysD]
  cases h : keysD r <;> rfl
theorem keysD_i {v : D} {r : List (D × D)} : keysD ((.int i, v) :: r) = (keysD r).map ((.inl i, v) :: ·) := by
  rw [keysD]
  cases h : keysD r <;> rfl
theorem dmerge_def : dmerge kvs = kvs.foldl (fun acc kv => dput acc kv.1 kv.2) [] := rfl
theorem dput_n {κ α : Type} [DecidableEq κ] {k j : κ} {d v : α} {r : List (κ × α)} (h : (j = k) = False) : dput ((j, d) :: r) k v = (j, d) :: dput r k v := dput_cons (of_eq_false h)
theorem dput_h {κ α : Type} [DecidableEq κ] {k : κ} {d v : α} {r : List (κ × α)} (h : (∀ p ∈ r, p.1 ≠ k) = True) : dput ((k, d) :: r) k v = (k, v) :: r := dput_hit (of_eq_true h)
/-! ### the store's end -/
theorem get_app {α : Type} {S T : List α} {k : Nat} : (S ++ T)[S.length + k]? = T[k]? := by
  rw [List.getElem?_append_right (by omega)]
  congr 1
  omega
theorem get_app0 {α : Type} {S T : List α} : (S ++ T)[S.length]? = T[0]? := get_app (k := 0)
theorem set_app {α : Type} {S T : List α} {k : Nat} {o : α} : (S ++ T).set (S.length + k) o = S ++ T.set k o := by
  rw [List.set_append_right (h := by omega)]
  congr 2
  omega
theorem set_app0 {α : Type} {S T : List α} {o : α} : (S ++ T).set S.length o = S ++ T.set 0 o := set_app (k := 0)
/-! ### small facts -/
theorem sz_le (h : (n ≤ 100) = True) : (n ≤ SZ) = True := eq_true (Nat.le_trans (of_eq_true h) (by decide))
theorem sz_lt (h : (n ≤ 100) = True) : (n < SZ) = True := eq_true (Nat.lt_of_le_of_lt (of_eq_true h) (by decide))
theorem lk_nil {α : Type} {f : Str} : List.lookup f ([] : List (Str × α)) = none := rfl
theorem lk_cons {α : Type} {f k : Str} {v : α} {r : List (Str × α)} : List.lookup f ((k, v) :: r) = if f = k then some v else List.lookup f r := by
  rw [List.lookup_cons]
  by_cases h : f = k
  · subst h; simp
  · rw [if_neg h, beq_false_of_ne h]
def kFldO (o : Option O) (cs : List Str) (f : Str) (Q : D → ST → Prop) (S : ST) : Prop := match o with
  | some (.ins c fs) => c ∈ cs ∧ kOpt (fs.lookup f) Q S
  | _ => False
theorem r_fld {cs : List Str} {f : Str} : wpR (mFld cs f (.ref n) S) Q X = kFldO S[n]? cs f Q S := by
  unfold mFld kFldO
  dsimp only
  cases S[n]? with
  | none => rfl
  | some o =>
    cases o with
    | ins c fs =>
      dsimp only
      by_cases h : c ∈ cs
      · rw [if_pos h]
        cases fs.lookup f <;> simp [h, kOpt, wpR]
      · rw [if_neg h]; simp [h, wpR]
    | _ => rfl
theorem kFldO_ins {c f : Str} {cs : List Str} {fs : List (Str × D)} : kFldO (some (.ins c fs)) cs f Q S = (c ∈ cs ∧ kOpt (fs.lookup f) Q S) := rfl
def kFlO (o : Option O) (n : Nat) (cs : List Str) (f : Str) (v : D) (S : ST) (N : ST → Prop) : Prop := match o with
  | some (.ins c fs) => c ∈ cs ∧ fs.length < 1000 ∧ N (S.set n (.ins c (putA f v fs)))
  | _ => False
theorem kFlO_eq {cs : List Str} {f : Str} {v : D} {N : ST → Prop} : (match putFD cs f S (.ref n) v with | some S' => N S' | none => False) = kFlO S[n]? n cs f v S N := by
  unfold putFD kFlO
  dsimp only
  cases S[n]? with
  | none => rfl
  | some o =>
    cases o with
    | ins c fs =>
      dsimp only
      by_cases h : c ∈ cs ∧ fs.length < 1000
      · rw [if_pos h]; simp [h]
      · rw [if_neg h]
        simp only [eq_iff_iff, false_iff]
        exact fun q => h ⟨q.1, q.2.1⟩
    | _ => rfl
theorem kFld2_ref {cs : List Str} {f : Str} {v : D} : kFld2 cs f v K G (.ref n) S = kFlO S[n]? n cs f v S (fun S' => K.nx G S') := kFlO_eq
theorem kFA3_ref {c f : Str} {v : D} : kFA3 c f (.ref n) K G v S = kFlO S[n]? n [c] f v S (fun S' => K.nx G S') := kFlO_eq
theorem kFlO_ins {c f : Str} {cs : List Str} {fs : List (Str × D)} {v : D} {N : ST → Prop} : kFlO (some (.ins c fs)) n cs f v S N = (c ∈ cs ∧ fs.length < 1000 ∧ N (S.set n (.ins c (putA f v fs)))) := rfl
def kMtM (o : Option Fn) (n : Nat) (g : MA) (G : GE) (Q : D → ST → Prop) (X : XQ) (S : ST) : Prop := match o with | some m => wpE g G S (kMt2 m (.ref n) Q X) X | none => False
def kMtO (o : Option O) (name : Str) (tab : List (Str × Fn)) (n : Nat) (g : MA) (G : GE) (Q : D → ST → Prop) (X : XQ) (S : ST) : Prop := match o with
  | some (.ins c fs) => fs.lookup name = none ∧ kMtM (tab.lookup c) n g G Q X S
  | _ => False
theorem kMt_ref {name : Str} {tab : List (Str × Fn)} {g : MA} : kMt name tab g G Q X (.ref n) S = kMtO S[n]? name tab n g G Q X S := by
  unfold kMt methD kMtO
  dsimp only
  cases S[n]? with
  | none => simp
  | some o =>
    cases o with
    | ins c fs =>
      dsimp only
      cases fs.lookup name with
      | none =>
        cases tab.lookup c <;> simp [kMtM]
      | some d => simp
    | _ => simp
theorem kMtO_ins {c name : Str} {tab : List (Str × Fn)} {fs : List (Str × D)} {g : MA} : kMtO (some (.ins c fs)) name tab n g G Q X S = (fs.lookup name = none ∧ kMtM (tab.lookup c) n g G Q X S) := rfl
theorem kMtM_some {m : Fn} {g : MA} : kMtM (some m) n g G Q X S = wpE g G S (kMt2 m (.ref n) Q X) X := rfl
theorem putA_nil {f : Str} {v : D} : putA f v [] = [(f, v)] := rfl
theorem putA_cons {f g : Str} {v d : D} {r : List (Str × D)} : putA f v ((g, d) :: r) = if g = f then (g, v) :: r else (g, d) :: putA f v r := rfl
theorem mem_one {c d : Str} : (c ∈ [d]) = (c = d) := by simp
/-! ### list methods -/
def kLsO (o : Option O) (Q : List D → Prop) : Prop := match o with | some (.lst ds) => Q ds | _ => False
theorem kLsO_lst {R : List D → Prop} : kLsO (some (.lst ds)) R = R ds := rfl
theorem wp_withL {f : Nat → List D → R D} : wpR (withL (.ref n) S f) Q X = kLsO S[n]? (fun es => wpR (f n es) Q X) := by
  unfold withL kLsO
  dsimp only
  cases S[n]? with
  | none => rfl
  | some o => cases o <;> rfl
theorem wp_optR {α : Type} {o : Option α} {f : α → R D} : wpR (match o with | some y => f y | none => R.bad) Q X = (∃ y, o = some y ∧ wpR (f y) Q X) := by
  cases o <;> simp [wpR]
theorem r_pop0 : wpR (bPop (.ref n) [] S) Q X = kLsO S[n]? (fun es => kOpt es[es.length - 1]? (fun y _ => Q y (S.set n (.lst es.dropLast))) S) := by
  unfold bPop
  dsimp only
  rw [wp_withL]
  congr 1
  funext es
  cases es[es.length - 1]? <;> rfl
theorem r_popAt0 : wpR (bPopAt (.ref n) [.int 0] S) Q X = kLsO S[n]? (fun es => es.length ≤ SZ ∧ kOpt es.head? (fun y _ => Q y (S.set n (.lst es.tail))) S) := by
  unfold bPopAt
  dsimp only
  rw [wp_withL]
  congr 1
  funext es
  cases es with
  | nil => simp [ixN, kOpt, wpR]
  | cons d ds =>
    have e : ixN (d :: ds).length 0 = some 0 := by simp [ixN]
    rw [e]
    dsimp only [List.getElem?_cons_zero, List.head?_cons, List.tail_cons, List.eraseIdx_cons_zero]
    rw [wp_ite]
    rfl
theorem r_insert {y : D} : wpR (bInsert (.ref n) [.int i, y] S) Q X = kLsO S[n]? (fun es => (es.length < SZ ∧ 0 ≤ i ∧ i < 16777216) ∧ Q .non (S.set n (.lst (es.take i.toNat ++ [y] ++ es.drop i.toNat)))) := by
  unfold bInsert
  dsimp only
  rw [wp_withL]
  congr 1
  funext es
  rw [wp_ite]
  rfl
theorem r_extend {m : Nat} : wpR (bExtend (.ref n) [.ref m] S) Q X = kLsO S[n]? (fun es => kLsO S[m]? (fun zs => es.length + zs.length ≤ SZ ∧ Q .non (S.set n (.lst (es ++ zs))))) := by
  unfold bExtend
  dsimp only
  rw [wp_withL]
  congr 1
  funext es
  cases S[m]? with
  | none => rfl
  | some o =>
    cases o with
    | lst zs => dsimp only; rw [wp_ite]; rfl
    | _ => rfl
theorem r_tupR : wpR (bTuple [.ref n] S) Q X = kLsO S[n]? (fun es => Q (.tup es) S) := by
  unfold bTuple D.items kLsO
  dsimp only
  cases S[n]? with
  | none => rfl
  | some o => cases o <;> rfl
theorem r_tupT : wpR (bTuple [.tup ds] S) Q X = Q (.tup ds) S := rfl
theorem r_tupF : wpR (bTuple [.fl ds] S) Q X = Q (.tup ds) S := rfl
theorem r_listR : wpR (bList [.ref n] S) Q X = kLsO S[n]? (fun es => Q (.ref S.length) (S ++ [.lst es])) := by
  unfold bList D.items kLsO
  dsimp only
  cases S[n]? with
  | none => rfl
  | some o => cases o <;> rfl
theorem r_listT : wpR (bList [.tup ds] S) Q X = Q (.ref S.length) (S ++ [.lst ds]) := rfl
theorem r_listF : wpR (bList [.fl ds] S) Q X = Q (.ref S.length) (S ++ [.lst ds]) := rfl
theorem r_addR {m : Nat} : wpR (mAdd (.ref n) (.ref m) S) Q X = kLsO S[n]? (fun es => kLsO S[m]? (fun zs => es.length + zs.length ≤ SZ ∧ Q (.ref S.length) (S ++ [.lst (es ++ zs)]))) := by
  unfold mAdd kLsO
  dsimp only
  cases S[n]? with
  | none => rfl
  | some o =>
    cases S[m]? with
    | none => cases o <;> rfl
    | some o2 =>
      cases o <;> cases o2 <;> first | rfl | (dsimp only; rw [wp_ite]; rfl)
theorem kSeq_refO {R : Src → ST → Prop} : kSeq R (.ref n) S = kLsO S[n]? (fun ds => R ⟨ds, some n⟩ S) := by
  unfold kSeq seqSrc kLsO
  dsimp only
  cases S[n]? with
  | none => rfl
  | some o => cases o <;> rfl
theorem kPutO_l {v : D} {N : ST → Prop} : kPutO (some (.lst ds)) n (.int i) v S N = kOpt ((ixN ds.length i).map fun j => D.int j) (fun d _ => match d with | .int j => N (S.set n (.lst (ds.set j.toNat v))) | _ => False) S := by
  rw [kPutO_lst]
  cases ixN ds.length i <;> simp [kOpt]
theorem set_get' {iw n : Nat} {o : O} (h : iw ≠ n) : (S.set iw o)[n]? = S[n]? := List.getElem?_set_ne h
end
end Mir

namespace Mir
open PySem L2 PyProof.Rows
/-! ### == of nested data -/
/-- data with no truth and no list in it, at most n deep -/
def Nb : Nat → D → Prop
  | 0, _ => False
  | n + 1, d => match d with
    | .non => True
    | .int _ => True
    | .str x => PyData.strOk x = true
    | .tup ds => ∀ d ∈ ds, Nb n d
    | _ => False
theorem nb_pys {n : Nat} (ih : ∀ d, Nb n d → ∃ p, d.py = some p ∧ p.canLay0 = true ∧ p.depth ≤ n) : ∀ ds : List D, (∀ d ∈ ds, Nb n d) → ∃ ps, D.pys ds = some ps ∧ PyData.canLayAll0 ps = true ∧ PyData.depthAll ps ≤ n
  | [], _ => ⟨[], by rw [D.pys], by rw [PyData.canLayAll0], by rw [PyData.depthAll]; omega⟩
  | d :: ds, h => by
    obtain ⟨p, h1, h2, h3⟩ := ih d (h d (List.mem_cons_self ..))
    obtain ⟨ps, g1, g2, g3⟩ := nb_pys ih ds fun e he => h e (List.mem_cons_of_mem _ he)
    refine ⟨p :: ps, by rw [D.pys, h1, g1], by rw [PyData.canLayAll0, h2, g2]; rfl, by rw [PyData.depthAll]; omega⟩
theorem nb_py : ∀ (n : Nat) (d : D), Nb n d → ∃ p, d.py = some p ∧ p.canLay0 = true ∧ p.depth ≤ n
  | 0, d, h => h.elim
  | n + 1, d, h => by
    cases d with
    | non => exact ⟨.none, by rw [D.py], by rw [PyData.canLay0], by rw [PyData.depth]; omega⟩
    | int i => exact ⟨.int i, by rw [D.py], by rw [PyData.canLay0], by rw [PyData.depth]; omega⟩
    | str x => exact ⟨.str x, by rw [D.py], by rw [PyData.canLay0]; exact h, by rw [PyData.depth]; omega⟩
    | tup ds =>
      obtain ⟨ps, h1, h2, h3⟩ := nb_pys (nb_py n) ds h
      exact ⟨.tuple ps, by rw [D.py, h1]; rfl, by rw [PyData.canLay0]; exact h2, by rw [PyData.depth]; omega⟩
    | _ => exact h.elim
theorem eqv_pys {n : Nat} (ih : ∀ d e p q, Nb n d → Nb n e → d.py = some p → e.py = some q → (PyData.eqv p q = true ↔ d = e)) : ∀ (ds es : List D) (ps qs : List PyData), (∀ d ∈ ds, Nb n d) → (∀ d ∈ es, Nb n d) → D.pys ds = some ps → D.pys es = some qs → (PyData.eqvAll ps qs = true ↔ ds = es)
  | [], [], ps, qs, _, _, h1, h2 => by
    rw [D.pys] at h1 h2; cases h1; cases h2
    rw [PyData.eqvAll]; simp
  | [], e :: es, ps, qs, _, _, h1, h2 => by
    rw [D.pys] at h1; cases h1
    rw [D.pys] at h2
    split at h2 <;> cases h2
    rw [PyData.eqvAll]; simp
  | d :: ds, [], ps, qs, _, _, h1, h2 => by
    rw [D.pys] at h2; cases h2
    rw [D.pys] at h1
    split at h1 <;> cases h1
    rw [PyData.eqvAll]; simp
  | d :: ds, e :: es, ps, qs, hd, he, h1, h2 => by
    rw [D.pys] at h1 h2
    split at h1
    · rename_i p ps e1 e2
      cases h1
      split at h2
      · rename_i q qs e3 e4
        cases h2
        rw [PyData.eqvAll, Bool.and_eq_true, ih d e p q (hd d (List.mem_cons_self ..)) (he e (List.mem_cons_self ..)) e1 e3,
          eqv_pys ih ds es ps qs (fun x hx => hd x (List.mem_cons_of_mem _ hx)) (fun x hx => he x (List.mem_cons_of_mem _ hx)) e2 e4]
        simp
      · cases h2
    · cases h1
theorem eqv_py : ∀ (n : Nat) (d e : D) (p q : PyData), Nb n d → Nb n e → d.py = some p → e.py = some q → (PyData.eqv p q = true ↔ d = e)
  | 0, d, e, p, q, h, _, _, _ => h.elim
  | n + 1, d, e, p, q, hd, he, h1, h2 => by
    cases d <;> first | exact hd.elim | skip
    all_goals (cases e <;> first | exact he.elim | skip)
    all_goals (simp only [D.py, Option.map_eq_some_iff, Option.some.injEq] at h1 h2)
    all_goals first
      | (subst h1; subst h2; rw [PyData.eqv]; simp; done)
      | (obtain ⟨qs, h3, rfl⟩ := h2; subst h1; rw [PyData.eqv]; simp; done)
      | (obtain ⟨ps, h3, rfl⟩ := h1; subst h2; rw [PyData.eqv]; simp; done)
      | (obtain ⟨ps, h3, rfl⟩ := h1; obtain ⟨qs, h4, rfl⟩ := h2; rw [PyData.eqv, eqv_pys (eqv_py n) _ _ _ _ hd he h3 h4]; simp; done)
theorem shaped_of {p : PyData} {n : Nat} (h : p.canLay0 = true) (h2 : p.depth ≤ n) (hn : n ≤ 64) : SeqAt.shaped p = true := by
  unfold SeqAt.shaped
  rw [h, decide_eq_true (Nat.le_trans h2 hn)]
  rfl
section
variable {Q : D → ST → Prop} {X : XQ} {S : ST} {n : Nat} {d e : D}
theorem mEqB_nb (hd : Nb n d) (he : Nb n e) (hn : n ≤ 64) : ∃ b : Bool, mEqB d e S = some b ∧ (b = true ↔ d = e) := by
  obtain ⟨p, p1, p2, p3⟩ := nb_py n d hd
  obtain ⟨q, q1, q2, q3⟩ := nb_py n e he
  have h := eqv_py n d e p q hd he p1 q1
  have s1 := shaped_of p2 p3 hn
  have s2 := shaped_of q2 q3 hn
  have pd : d.pyS S = d.py := by
    cases n with
    | zero => exact hd.elim
    | succ n => cases d <;> first | exact hd.elim | rfl
  have pe : e.pyS S = e.py := by
    cases n with
    | zero => exact he.elim
    | succ n => cases e <;> first | exact he.elim | rfl
  unfold mEqB
  split
  · exact ⟨_, rfl, by simp⟩
  · exact ⟨_, rfl, by simp⟩
  · exact ⟨_, rfl, by simp⟩
  · rw [pd, pe, p1, q1]
    dsimp only
    rw [s1, s2]
    exact ⟨_, rfl, h⟩
theorem w_eqN (hd : Nb n d) (he : Nb n e) (hn : n ≤ 64) (h1 : d = e → Q (.bl true) S) (h2 : d ≠ e → Q (.bl false) S) : wpR (mEq d e S) Q X := by
  obtain ⟨b, hb, h⟩ := mEqB_nb (S := S) hd he hn
  unfold mEq
  rw [hb]
  cases b with
  | true => exact h1 (h.mp rfl)
  | false => exact h2 fun c => nomatch h.mpr c
theorem w_neN (hd : Nb n d) (he : Nb n e) (hn : n ≤ 64) (h1 : d = e → Q (.bl false) S) (h2 : d ≠ e → Q (.bl true) S) : wpR (mNe d e S) Q X := by
  obtain ⟨b, hb, h⟩ := mEqB_nb (S := S) hd he hn
  unfold mNe
  rw [hb]
  cases b with
  | true => exact h1 (h.mp rfl)
  | false => exact h2 fun c => nomatch h.mpr c
/-- two lists in the store -/
theorem mEqB_lst {k m : Nat} {ds es : List D} (h1 : S[k]? = some (.lst ds)) (h2 : S[m]? = some (.lst es)) (hd : ∀ d ∈ ds, Nb n d) (he : ∀ d ∈ es, Nb n d) (hn : n ≤ 63) : ∃ b : Bool, mEqB (.ref k) (.ref m) S = some b ∧ (b = true ↔ ds = es) := by
  obtain ⟨ps, p1, p2, p3⟩ := nb_pys (nb_py n) ds hd
  obtain ⟨qs, q1, q2, q3⟩ := nb_pys (nb_py n) es he
  have h := eqv_pys (eqv_py n) ds es ps qs hd he p1 q1
  have s1 : SeqAt.shaped (.list ps) = true := shaped_of (n := n + 1) (by rw [PyData.canLay0]; exact p2) (by rw [PyData.depth]; omega) (by omega)
  have s2 : SeqAt.shaped (.list qs) = true := shaped_of (n := n + 1) (by rw [PyData.canLay0]; exact q2) (by rw [PyData.depth]; omega) (by omega)
  unfold mEqB
  dsimp only
  unfold D.pyS
  simp only [h1, h2, p1, q1, Option.map_some, s1, s2, Bool.and_self, if_true]
  exact ⟨_, rfl, by rw [PyData.eqv]; exact h⟩
theorem w_eqL {k m : Nat} {ds es : List D} (g1 : S[k]? = some (.lst ds)) (g2 : S[m]? = some (.lst es)) (hd : ∀ d ∈ ds, Nb n d) (he : ∀ d ∈ es, Nb n d) (hn : n ≤ 63) (h1 : ds = es → Q (.bl true) S) (h2 : ds ≠ es → Q (.bl false) S) : wpR (mEq (.ref k) (.ref m) S) Q X := by
  obtain ⟨b, hb, h⟩ := mEqB_lst g1 g2 hd he hn
  unfold mEq
  rw [hb]
  cases b with
  | true => exact h1 (h.mp rfl)
  | false => exact h2 fun c => nomatch h.mpr c
theorem w_neL {k m : Nat} {ds es : List D} (g1 : S[k]? = some (.lst ds)) (g2 : S[m]? = some (.lst es)) (hd : ∀ d ∈ ds, Nb n d) (he : ∀ d ∈ es, Nb n d) (hn : n ≤ 63) (h1 : ds = es → Q (.bl false) S) (h2 : ds ≠ es → Q (.bl true) S) : wpR (mNe (.ref k) (.ref m) S) Q X := by
  obtain ⟨b, hb, h⟩ := mEqB_lst g1 g2 hd he hn
  unfold mNe
  rw [hb]
  cases b with
  | true => exact h1 (h.mp rfl)
  | false => exact h2 fun c => nomatch h.mpr c
end
/-! ### frames of the store -/
/-- all but the places L stands as it was -/
structure Frm (L : List Nat) (S S' : ST) : Prop where
  le : S.length ≤ S'.length
  eq : ∀ i, i ∉ L → i < S.length → S'[i]? = S[i]?
theorem Frm.refl (L : List Nat) (S : ST) : Frm L S S := ⟨Nat.le_refl _, fun _ _ _ => rfl⟩
theorem Frm.trans {L : List Nat} {S S1 S2 : ST} (a : Frm L S S1) (b : Frm L S1 S2) : Frm L S S2 := ⟨Nat.le_trans a.le b.le, fun i h1 h2 => (b.eq i h1 (Nat.lt_of_lt_of_le h2 a.le)).trans (a.eq i h1 h2)⟩
theorem Frm.app (L : List Nat) (S T : ST) : Frm L S (S ++ T) := ⟨by simp, fun i _ h => List.getElem?_append_left h⟩
theorem Frm.set {L : List Nat} (S : ST) (o : O) {n : Nat} (h : n ∈ L) : Frm L S (S.set n o) := ⟨by simp, fun i h1 _ => List.getElem?_set_ne fun c => by subst c; exact h1 h⟩
theorem Frm.get {L : List Nat} {S S' : ST} (f : Frm L S S') {i : Nat} {o : O} (h : i ∉ L) (e : S[i]? = some o) : S'[i]? = some o := by rw [f.eq i h (List.getElem?_eq_some_iff.mp e).1]; exact e
theorem Frm.mono {L M : List Nat} {S S' : ST} (f : Frm L S S') (h : ∀ i ∈ L, i ∈ M) : Frm M S S' := ⟨f.le, fun i h1 h2 => f.eq i (fun c => h1 (h i c)) h2⟩
theorem lt_of_get {S : ST} {i : Nat} {o : O} (h : S[i]? = some o) : i < S.length := (List.getElem?_eq_some_iff.mp h).1
theorem ne_of_get {S : ST} {i j : Nat} {a b : O} (h1 : S[i]? = some a) (h2 : S[j]? = some b) (h : a ≠ b) : i ≠ j := fun c => by
  subst c
  rw [h1] at h2
  exact h (Option.some.inj h2)
/-- a comprehension that changes nothing -/
theorem lc_map {α : Type} {S : ST} {G : GE} {X : XQ} {t : Tg} {tt : MT} {fe : ME} {own : List Nat} {r : Src} {Q : D → ST → Prop} (xs : List α) (g : α → D) (c : α → Bool) (v : α → D) (hr : r.ds = xs.map g) (hok : ∀ acc, r.ok (S ++ [.lst acc])) (hl : xs.length < SZ)
    (hs : ∀ a ∈ xs, ∀ acc, ∃ G1, bindT t (g a) (wipeG G own) (S ++ [.lst acc]) = some G1 ∧ wpE tt G1 (S ++ [.lst acc]) (fun k S1 => S1 = S ++ [.lst acc] ∧ k = c a ∧ (c a = true → wpE fe G1 (S ++ [.lst acc]) (fun x S2 => S2 = S ++ [.lst acc] ∧ x = v a) fun _ _ _ => False)) fun _ _ _ => False)
    (hd : Q (.ref S.length) (S ++ [.lst ((xs.filter c).map v)])) : kLc t tt fe own G Q X r S := by
  refine lc_inv (fun ds acc S' => ∃ ys : List α, S' = S ++ [.lst acc] ∧ ds = ys.map g ∧ acc ++ (ys.filter c).map v = (xs.filter c).map v ∧ (∀ a ∈ ys, a ∈ xs) ∧ acc.length + ys.length ≤ xs.length) ⟨xs, rfl, hr, rfl, fun _ h => h, by simp⟩ ?_ ?_ ?_
  · intro ds acc S' h
    obtain ⟨ys, h1, _⟩ := h
    rw [h1]
    exact hok acc
  · intro acc S' h
    obtain ⟨ys, h1, h0, h2, _, _⟩ := h
    have e : ys = [] := List.map_eq_nil_iff.mp h0.symm
    rw [e, List.filter_nil, List.map_nil, List.append_nil] at h2
    rw [h1, h2]
    exact hd
  · intro d ds acc S' h
    obtain ⟨ys, h1, h0, h2, h3, h4⟩ := h
    cases ys with
    | nil => cases h0
    | cons a ys =>
      rw [List.map_cons] at h0
      injection h0 with e1 e2
      rw [e1]
      obtain ⟨G1, g1, g2⟩ := hs a (h3 a (List.mem_cons_self ..)) acc
      rw [h1]
      refine ⟨G1, g1, wpR_mono g2 fun k S1 q => ?_⟩
      obtain ⟨q1, q2, q3⟩ := q
      rw [List.length_cons] at h4
      refine ⟨fun hk => ?_, fun hk => ?_⟩
      · rw [q1]
        rw [List.filter_cons_of_neg (by rw [← q2, hk]; exact Bool.false_ne_true)] at h2
        exact ⟨ys, rfl, e2, h2, fun e he => h3 e (List.mem_cons_of_mem _ he), by omega⟩
      · have hc : c a = true := q2.symm.trans hk
        rw [q1]
        refine wpR_mono (q3 hc) fun x S2 z => ?_
        rw [List.filter_cons_of_pos hc, List.map_cons] at h2
        rw [z.1, z.2]
        refine ⟨by simp, by omega, ys, by simp, e2, ?_, fun e he => h3 e (List.mem_cons_of_mem _ he), by rw [List.length_append, List.length_singleton]; omega⟩
        rw [List.append_assoc]
        exact h2
theorem wipe_nil {G : GE} : wipeG G [] = G := rfl
theorem wipe_cons {G : GE} {v : Nat} {vs : List Nat} : wipeG G (v :: vs) = (wipeG G vs).set v none := rfl
theorem atI_0 {α : Type} {x : α} {xs : List α} : atI (x :: xs) 0 = some x := by
  rw [atI_pos (by omega) (by rw [List.length_cons]; omega)]; rfl
theorem atI_1 {α : Type} {x y : α} {xs : List α} : atI (x :: y :: xs) 1 = some y := by
  rw [atI_pos (by omega) (by rw [List.length_cons, List.length_cons]; omega)]; rfl
theorem atI_2 {α : Type} {x y z : α} {xs : List α} : atI (x :: y :: z :: xs) 2 = some z := by
  rw [atI_pos (by omega) (by rw [List.length_cons, List.length_cons, List.length_cons]; omega)]; rfl
theorem atI_3 {α : Type} {x y z w : α} {xs : List α} : atI (x :: y :: z :: w :: xs) 3 = some w := by
  rw [atI_pos (by omega) (by rw [List.length_cons, List.length_cons, List.length_cons, List.length_cons]; omega)]; rfl
/-- a loop over a typed list -/
theorem for_map {α : Type} {S : ST} {G : GE} {K : Kt} {t : Tg} {body : MS} {r : Src} (xs : List α) (g : α → D) (hr : r.ds = xs.map g) (P : List α → GE → ST → Prop) (h0 : P xs G S) (hok : ∀ ys G S, P ys G S → r.ok S) (hd : ∀ G S, P [] G S → K.nx G S)
    (hs : ∀ a ys G S, P (a :: ys) G S → ∃ G1, bindT t (g a) G S = some G1 ∧ wpS body G1 S { nx := P ys, ct := P ys, bk := K.nx, rt := K.rt, ex := K.ex }) : kFor t body K G r S := by
  refine for_inv (fun ds G S => ∃ ys, ds = ys.map g ∧ P ys G S) ⟨xs, hr, h0⟩ (fun ds G S h => by obtain ⟨ys, _, h⟩ := h; exact hok ys G S h) ?_ ?_
  · intro G S h
    obtain ⟨ys, h1, h2⟩ := h
    rw [List.map_eq_nil_iff.mp h1.symm] at h2
    exact hd G S h2
  · intro d ds G S h
    obtain ⟨ys, h1, h2⟩ := h
    cases ys with
    | nil => cases h1
    | cons a ys =>
      rw [List.map_cons] at h1
      injection h1 with e1 e2
      rw [e1]
      obtain ⟨G1, g1, g2⟩ := hs a ys G S h2
      exact ⟨G1, g1, wpS_mono g2 (fun _ _ q => ⟨ys, e2, q⟩) (fun _ _ q => q) (fun _ _ q => q) (fun _ _ q => ⟨ys, e2, q⟩) fun _ _ _ _ q => q⟩
theorem setG_nil {G : GE} {ds : List D} : setG G [] ds = G := by cases ds <;> rfl
theorem setG_cons {G : GE} {i : Nat} {is : List Nat} {d : D} {ds : List D} : setG G (i :: is) (d :: ds) = setG (G.set i (some d)) is ds := rfl
theorem kSetT_ref {is : List Nat} {K : Kt} {G : GE} {S : ST} {n : Nat} : kSetT (.tp is) K G (.ref n) S = kLsO S[n]? (fun ds => ds.length = is.length ∧ K.nx (setG G is ds) S) := by
  unfold kSetT bindT D.items kLsO
  dsimp only
  cases S[n]? with
  | none => rfl
  | some o =>
    cases o with
    | lst ds =>
      dsimp only
      by_cases h : ds.length = is.length
      · rw [if_pos h]; simp [h]
      · rw [if_neg h]; simp [h]
    | _ => rfl
theorem kSetT_tup {is : List Nat} {K : Kt} {G : GE} {S : ST} {ds : List D} : kSetT (.tp is) K G (.tup ds) S = (ds.length = is.length ∧ K.nx (setG G is ds) S) := by
  unfold kSetT bindT D.items
  dsimp only
  by_cases h : ds.length = is.length
  · rw [if_pos h]; simp [h]
  · rw [if_neg h]; simp [h]
theorem kSetT_nm {i : Nat} {K : Kt} {G : GE} {S : ST} {d : D} : kSetT (.nm i) K G d S = K.nx (G.set i (some d)) S := rfl
theorem bindT_ref {is : List Nat} {G : GE} {S : ST} {n : Nat} {ds : List D} (h : S[n]? = some (.lst ds)) (hl : ds.length = is.length) : bindT (.tp is) (.ref n) G S = some (setG G is ds) := by
  unfold bindT D.items
  simp only [h, hl, if_true]
theorem wp_tYes {G : GE} {S : ST} {Q : Bool → ST → Prop} {X : XQ} : wpE tYesM G S Q X = Q true S := rfl
theorem erase_idx {xs : List Int} {k : Int} (h : k ∈ xs) : ∃ j, idxI xs k = some j ∧ xs.eraseIdx j = xs.erase k := by
  induction xs with
  | nil => cases h
  | cons x xs ih =>
    unfold idxI at ih ⊢
    rw [List.findIdx?_cons]
    by_cases e : x = k
    · subst e
      exact ⟨0, by simp, by simp⟩
    · have hm : k ∈ xs := by
        rcases List.mem_cons.mp h with c | c
        · exact absurd c.symm e
        · exact c
      obtain ⟨j, h1, h2⟩ := ih hm
      refine ⟨j + 1, by simp [e, h1], ?_⟩
      rw [List.eraseIdx_cons_succ, h2, List.erase_cons_tail (by simpa using e)]
theorem r_removeI {S : ST} {n : Nat} {xs : List Int} {k : Int} {Q : D → ST → Prop} {X : XQ} (h : S[n]? = some (.lst (xs.map D.int))) (hk : k ∈ xs) (q : Q .non (S.set n (.lst ((xs.erase k).map D.int)))) : wpR (bRemove (.ref n) [.int k] S) Q X := by
  obtain ⟨j, h1, h2⟩ := erase_idx hk
  unfold bRemove withL
  simp only [h, intsD_map, h1, h2]
  exact q
theorem any_ints {xs : List Int} {k : Int} : ((xs.map D.int).any fun y => eqF y (.int k)) = decide (k ∈ xs) := by
  rw [List.any_map]
  induction xs with
  | nil => rfl
  | cons x xs ih =>
    rw [List.any_cons, ih]
    show (decide (x = k) || _) = _
    rw [dec_or]
    congr 1
    rw [List.mem_cons, eq_comm (a := x)]
theorem flat_ints {xs : List Int} : (xs.map D.int).all D.flat = true := by
  rw [List.all_map]
  exact List.all_eq_true.mpr fun _ _ => rfl
theorem r_inInts {S : ST} {n : Nat} {xs : List Int} {k : Int} {Q : D → ST → Prop} {X : XQ} (h : S[n]? = some (.lst (xs.map D.int))) (q : Q (.bl (decide (k ∈ xs))) S) : wpR (mIn (.int k) (.ref n) S) Q X := by
  refine r_inR ?_
  rw [h]
  unfold kInO
  refine ⟨by rw [flat_ints]; rfl, ?_⟩
  rw [any_ints]
  exact q
theorem r_ninInts {S : ST} {n : Nat} {xs : List Int} {k : Int} {Q : D → ST → Prop} {X : XQ} (h : S[n]? = some (.lst (xs.map D.int))) (q : Q (.bl (!decide (k ∈ xs))) S) : wpR (mNotIn (.int k) (.ref n) S) Q X := by
  refine r_ninR ?_
  rw [h]
  unfold kInO
  refine ⟨by rw [flat_ints]; rfl, ?_⟩
  rw [any_ints]
  exact q
/-! ### frames by a predicate -/
structure FrP (P : Nat → Prop) (S S' : ST) : Prop where
  le : S.length ≤ S'.length
  eq : ∀ i, ¬ P i → i < S.length → S'[i]? = S[i]?
theorem FrP.refl (P : Nat → Prop) (S : ST) : FrP P S S := ⟨Nat.le_refl _, fun _ _ _ => rfl⟩
theorem FrP.trans {P : Nat → Prop} {S S1 S2 : ST} (a : FrP P S S1) (b : FrP P S1 S2) : FrP P S S2 := ⟨Nat.le_trans a.le b.le, fun i h1 h2 => (b.eq i h1 (Nat.lt_of_lt_of_le h2 a.le)).trans (a.eq i h1 h2)⟩
theorem FrP.mono {P P' : Nat → Prop} {S S' : ST} (f : FrP P S S') (h : ∀ i, P i → P' i) : FrP P' S S' := ⟨f.le, fun i h1 h2 => f.eq i (fun c => h1 (h i c)) h2⟩
theorem FrP.get {P : Nat → Prop} {S S' : ST} (f : FrP P S S') {i : Nat} {o : O} (h : ¬ P i) (e : S[i]? = some o) : S'[i]? = some o := by rw [f.eq i h (lt_of_get e)]; exact e
theorem FrP.app (P : Nat → Prop) (S T : ST) : FrP P S (S ++ T) := ⟨by simp, fun i _ h => List.getElem?_append_left h⟩
theorem FrP.set {P : Nat → Prop} (S : ST) (o : O) {n : Nat} (h : P n) : FrP P S (S.set n o) := ⟨by simp, fun i h1 _ => List.getElem?_set_ne fun c => by subst c; exact h1 h⟩
theorem Frm.frp {L : List Nat} {S S' : ST} (f : Frm L S S') {P : Nat → Prop} (h : ∀ i ∈ L, P i) : FrP P S S' := ⟨f.le, fun i h1 h2 => f.eq i (fun c => h1 (h i c)) h2⟩
/-- lists of numbers at the places rs -/
def Rows (S : ST) (rs : List Nat) (rows : List (List Int)) : Prop := rs.length = rows.length ∧ ∀ (k : Nat) (r : Nat) (xs : List Int), rs[k]? = some r → rows[k]? = some xs → S[r]? = some (.lst (xs.map D.int))
theorem Rows.mono {S S' : ST} {rs : List Nat} {rows : List (List Int)} (h : Rows S rs rows) (f : ∀ r ∈ rs, S'[r]? = S[r]?) : Rows S' rs rows := ⟨h.1, fun k r xs h1 h2 => by rw [f r (List.mem_of_getElem? h1)]; exact h.2 k r xs h1 h2⟩
theorem Rows.at {S : ST} {rs : List Nat} {rows : List (List Int)} (h : Rows S rs rows) {k : Nat} {xs : List Int} (hk : rows[k]? = some xs) : ∃ r, rs[k]? = some r ∧ r ∈ rs ∧ S[r]? = some (.lst (xs.map D.int)) := by
  have l := (List.getElem?_eq_some_iff.mp hk).1
  have l2 : k < rs.length := by rw [h.1]; exact l
  exact ⟨rs[k], List.getElem?_eq_getElem l2, List.getElem_mem l2, h.2 k _ xs (List.getElem?_eq_getElem l2) hk⟩
theorem Rows.lt {S : ST} {rs : List Nat} {rows : List (List Int)} (h : Rows S rs rows) {r : Nat} (hr : r ∈ rs) : r < S.length := by
  obtain ⟨k, hk, e⟩ := List.mem_iff_getElem.mp hr
  have l : k < rows.length := by rw [← h.1]; exact hk
  exact lt_of_get (h.2 k r _ (by rw [List.getElem?_eq_getElem hk, e]) (List.getElem?_eq_getElem l))
theorem set_self {S : ST} {n : Nat} {o : O} (h : S[n]? = some o) : S.set n o = S := by
  refine List.ext_getElem? fun i => ?_
  by_cases c : n = i
  · subst c
    rw [set_same (lt_of_get h), h]
  · exact set_get' c
theorem kPutO_at {S : ST} {n : Nat} {ds : List D} {i : Int} {v : D} {N : ST → Prop} (h0 : 0 ≤ i) (h1 : i < ds.length) : kPutO (some (.lst ds)) n (.int i) v S N = N (S.set n (.lst (ds.set i.toNat v))) := by
  rw [kPutO_lst]
  unfold ixN
  rw [if_pos h0, if_pos h1]
theorem cut_pos (ds : List D) (r : Nat) : Mir.cutD ds none (some (r : Int)) = ds.take r := by
  have e1 : HT.sIx ds.length ds.length (some (r : Int)) = min r ds.length := HT.sIx_nat _ _ _
  have e2 : HT.sIx ds.length 0 none = 0 := rfl
  unfold Mir.cutD
  rw [e1, e2, List.drop_zero, Nat.sub_zero]
  by_cases h : r ≤ ds.length
  · rw [Nat.min_eq_left h]
  · rw [Nat.min_eq_right (by omega), List.take_of_length_le (Nat.le_refl _), List.take_of_length_le (by omega)]
theorem filt_erase {xs : List Int} (h : xs.Nodup) (k : Int) : xs.filter (fun x => !decide (x = k)) = xs.erase k := by
  rw [h.erase_eq_filter]
  congr 1
theorem dset_map {α : Type} {g : α → D} {xs : List α} {k : Nat} {a : α} : (xs.map g).set k (g a) = (xs.set k a).map g := by rw [List.map_set]
theorem Rows.zip {S : ST} {rs : List Nat} {rows : List (List Int)} (h : Rows S rs rows) : ∀ p ∈ rs.zip rows, S[p.1]? = some (.lst (p.2.map D.int)) := by
  intro p hp
  obtain ⟨k, hk, e⟩ := List.mem_iff_getElem.mp hp
  rw [List.length_zip] at hk
  rw [List.getElem_zip] at e
  rw [← e]
  exact h.2 k _ _ (List.getElem?_eq_getElem (by omega)) (List.getElem?_eq_getElem (by omega))
def freshR (b m : Nat) : List Nat := (List.range m).map (b + ·)
theorem freshR_len {b m : Nat} : (freshR b m).length = m := by simp [freshR]
theorem freshR_mem {b m i : Nat} : i ∈ freshR b m ↔ b ≤ i ∧ i < b + m := by
  unfold freshR
  rw [List.mem_map]
  constructor
  · rintro ⟨j, h, rfl⟩
    rw [List.mem_range] at h
    omega
  · intro h
    exact ⟨i - b, List.mem_range.mpr (by omega), by omega⟩
theorem freshR_nodup {b m : Nat} : (freshR b m).Nodup := by
  unfold freshR
  exact List.Pairwise.map _ (fun a c (h : a ≠ c) => by omega) List.nodup_range
theorem freshR_succ {b m : Nat} : freshR b (m + 1) = freshR b m ++ [b + m] := by
  unfold freshR
  rw [List.range_succ, List.map_append]
  rfl
/-- [[] for _ in range(m)] -/
theorem lc_new {S : ST} {G : GE} {X : XQ} {t m : Nat} {own : List Nat} {Q : D → ST → Prop} (hm : m < SZ)
    (hd : Q (.ref S.length) (S ++ O.lst ((freshR (S.length + 1) m).map D.ref) :: List.replicate m (O.lst []))) : kLc (.nm t) tYesM (eLst aNil) own G Q X ⟨rngD 0 1 m, none⟩ S := by
  refine lc_inv (fun ds acc S' => ∃ i, i ≤ m ∧ ds = (rngD 0 1 m).drop i ∧ acc = (freshR (S.length + 1) i).map D.ref ∧ S' = S ++ O.lst acc :: List.replicate i (O.lst [])) ⟨0, Nat.zero_le _, by simp, rfl, by simp⟩ (fun _ _ _ _ => True.intro) ?_ ?_
  · intro acc S' h
    obtain ⟨i, h1, h2, h3, h4⟩ := h
    have e := congrArg List.length h2
    rw [List.length_drop, rngD_len, List.length_nil] at e
    have e2 : i = m := by omega
    rw [h4, h3, e2]
    exact hd
  · intro d ds acc S' h
    obtain ⟨i, h1, h2, h3, h4⟩ := h
    have e := congrArg List.length h2
    rw [List.length_drop, rngD_len, List.length_cons] at e
    refine ⟨_, rfl, ?_⟩
    rw [wp_tYes]
    refine ⟨fun c => Bool.noConfusion c, fun _ => ?_⟩
    rw [wp_eLst, wp_aNil, kLst_eq]
    have ll : S'.length = S.length + 1 + i := by rw [h4]; simp; omega
    refine ⟨Nat.zero_le _, ?_, ?_, ⟨i + 1, by omega, ?_, ?_, ?_⟩⟩
    · rw [h4, List.append_assoc, List.cons_append, get_app0]; rfl
    · rw [h3, List.length_map, freshR_len]; omega
    · rw [← List.tail_drop, ← h2]; rfl
    · rw [freshR_succ, List.map_append, ← h3, ll]; rfl
    · rw [h4, List.append_assoc, List.cons_append, set_app0, List.set_cons_zero, ← List.replicate_succ']
theorem rows_new {S : ST} {m : Nat} {x : O} : Rows (S ++ x :: List.replicate m (O.lst [])) (freshR (S.length + 1) m) (List.replicate m []) := by
  refine ⟨by rw [freshR_len, List.length_replicate], fun k r xs h1 h2 => ?_⟩
  have hk : k < m := by
    have := (List.getElem?_eq_some_iff.mp h2).1
    rwa [List.length_replicate] at this
  rw [List.getElem?_replicate_of_lt hk] at h2
  cases h2
  unfold freshR at h1
  rw [List.getElem?_map, List.getElem?_range hk] at h1
  cases h1
  show (S ++ x :: List.replicate m (O.lst []))[S.length + 1 + k]? = _
  rw [Nat.add_assoc, get_app, Nat.add_comm 1 k, List.getElem?_cons_succ, List.getElem?_replicate_of_lt hk]
  rfl
theorem r_mulR {S : ST} {m : Nat} {k : Int} {Q : D → ST → Prop} {X : XQ} : wpR (mMul (.ref m) (.int k) S) Q X = kLsO S[m]? (fun xs => (0 ≤ k ∧ k < 16777217 ∧ xs.length * k.toNat ≤ SZ) ∧ Q (.ref S.length) (S ++ [.lst (List.replicate k.toNat xs).flatten])) := by
  unfold mMul kLsO
  dsimp only
  cases S[m]? with
  | none => rfl
  | some o =>
    cases o with
    | lst xs => dsimp only; rw [wp_ite]; rfl
    | _ => rfl
end Mir

namespace Mir
open PySem L2 PyProof.Rows
section
variable {X : Cx} {W : WX}
/-! ### sorted, index -/
def isort (ns : List Int) : List Int := ns.mergeSort fun a b => decide (a ≤ b)
theorem isort_perm (ns : List Int) : (isort ns).Perm ns := List.mergeSort_perm _ _
theorem isort_le (ns : List Int) : (isort ns).Pairwise (· ≤ ·) := by
  have h := List.pairwise_mergeSort (le := fun a b : Int => decide (a ≤ b)) (fun a b c h1 h2 => by simp at *; omega) (fun a b => by simp; omega) ns
  exact h.imp fun h => by simpa using h
theorem isort_eq {ns ms : List Int} (p : ms.Perm ns) (s : ms.Pairwise (· ≤ ·)) : ms = isort ns :=
  List.Perm.eq_of_pairwise (le := (· ≤ ·)) (fun a b _ _ h1 h2 => Int.le_antisymm h1 h2) s (isort_le ns) (p.trans (isort_perm ns).symm)
def bSorted : List D → C D := fun ds S => match ds with | [d] => (match (d.litems S).bind intsD with | some ns => allocO (.lst ((isort ns).map D.int)) S | none => .bad) | _ => .bad
theorem bi_sorted : Bi X W (.builtin "sorted") bSorted := by
  refine ⟨_, cr_sortedI, fun ρ S H σ ds xs Q s r o => ?_⟩
  unfold bSorted at o
  split at o
  · obtain ⟨v, rfl, r1⟩ := r.one
    split at o
    · rename_i ns hn
      rw [Option.bind_eq_some_iff] at hn
      obtain ⟨es, h1, h2⟩ := hn
      obtain ⟨p, vs, rfl, q, v1⟩ := litems_ok s r1 h1
      rw [intsD_eq h2] at v1
      rw [v1.ints] at q
      refine ⟨p, ns, rfl, q, fun ns' p' h3 h4 => ?_⟩
      rw [isort_eq h3 h4]
      exact alloc_lst s o (VRs.of_ints _) p'
    · exact o.elim
  · exact o.elim
def bIndex : D → List D → C D := fun d ds S => match ds with
  | [y] => (match d.litems S with
    | some es => if (y.flat && es.all D.flat) = true then (match es.findIdx? fun z => eqF z y with | some j => .ok (.int j) S | none => .bad) else .bad
    | none => .bad)
  | _ => .bad
theorem bm_index : Bm X W "list.index" bIndex := by
  refine ⟨_, mt_index, fun ρ S H σ d ds x xs Q s r1 r2 o => ?_⟩
  unfold bIndex at o
  split at o
  · rename_i y
    obtain ⟨w, rfl, r4⟩ := r2.one
    split at o
    · rename_i es he
      split at o
      · rename_i hf
        rw [Bool.and_eq_true] at hf
        split at o
        · rename_i j hj
          obtain ⟨p, vs, rfl, q, v1⟩ := litems_ok s r1 he
          obtain ⟨e1, f1⟩ := r4.flat hf.1
          obtain ⟨e2, f2⟩ := v1.flat hf.2
          subst e1 e2
          rw [List.findIdx?_eq_some_iff_getElem] at hj
          obtain ⟨hl, c1, c2⟩ := hj
          have g : ∀ (m : Nat) (h : m < es.length), (es[m]).flat = true := fun m h => List.all_eq_true.mp hf.2 _ (List.getElem_mem h)
          refine ⟨p, _, _, j, (es[j]).toV, rfl, rfl, q, f1, f2, ?_, ?_, fun m z' hm hz => ?_, o ρ H _ (.refl _ _) s (VR_int.mpr rfl)⟩
          · rw [List.getElem?_map, List.getElem?_eq_getElem hl]; rfl
          · rw [eqV_toV (g j hl) hf.1]; exact c1
          · have hml : m < es.length := by omega
            rw [List.getElem?_map, List.getElem?_eq_getElem hml] at hz
            cases hz
            rw [eqV_toV (g m hml) hf.1]
            simpa using c2 m hm
        · exact o.elim
      · exact o.elim
    · exact o.elim
  · exact o.elim
end
end Mir

namespace Mir
open PySem L2 PyProof.Rows
section
variable {S : ST} {G : GE} {X : XQ} {Q : D → ST → Prop}
/-- a comprehension whose test always fails; the test may put things at the store's end -/
theorem lc_empty {t : Tg} {tt : MT} {fe : ME} {own : List Nat} {r : Src} (hok : ∀ T, r.ok (S ++ .lst [] :: T))
    (hs : ∀ (i : Nat) (d : D) (T : ST), r.ds[i]? = some d → ∃ G1, bindT t d (wipeG G own) (S ++ .lst [] :: T) = some G1 ∧ wpE tt G1 (S ++ .lst [] :: T) (fun k S1 => k = false ∧ ∃ T1, S1 = S ++ .lst [] :: T1) fun _ _ _ => False)
    (hd : ∀ T, Q (.ref S.length) (S ++ .lst [] :: T)) : kLc t tt fe own G Q X r S := by
  refine lc_inv (fun ds acc S' => acc = [] ∧ (∃ T, S' = S ++ .lst [] :: T) ∧ ∃ i, i ≤ r.ds.length ∧ ds = r.ds.drop i) ⟨rfl, ⟨[], rfl⟩, 0, Nat.zero_le _, rfl⟩ ?_ ?_ ?_
  · intro ds acc S' h
    obtain ⟨_, ⟨T, h2⟩, _⟩ := h
    rw [h2]; exact hok T
  · intro acc S' h
    obtain ⟨_, ⟨T, h2⟩, _⟩ := h
    rw [h2]; exact hd T
  · intro d ds acc S' h
    obtain ⟨h1, ⟨T, h2⟩, i, h3, h4⟩ := h
    have hi : r.ds[i]? = some d := by
      have e := congrArg (fun l => l[0]?) h4
      rw [List.getElem?_drop] at e
      exact e.symm
    have hl := (List.getElem?_eq_some_iff.mp hi).1
    obtain ⟨G1, g1, g2⟩ := hs i d T hi
    rw [h2]
    refine ⟨G1, g1, wpR_mono g2 fun k S1 q => ⟨fun _ => ⟨h1, q.2, i + 1, by omega, ?_⟩, fun c => by rw [q.1] at c; cases c⟩⟩
    rw [← List.tail_drop, ← h4]; rfl
/-- a comprehension that only puts things at the store's end -/
theorem lc_grow {α : Type} {t : Tg} {tt : MT} {fe : ME} {own : List Nat} {r : Src} (xs : List α) (g : α → D) (c : α → Bool) (v : α → D) (hr : r.ds = xs.map g) (hok : ∀ acc T, r.ok (S ++ .lst acc :: T)) (hl : xs.length < SZ)
    (hs : ∀ a ∈ xs, ∀ (acc : List D) (T : ST), ∃ G1, bindT t (g a) (wipeG G own) (S ++ .lst acc :: T) = some G1 ∧ wpE tt G1 (S ++ .lst acc :: T) (fun k S1 => k = c a ∧ ∃ T1, S1 = S ++ .lst acc :: T1 ∧ (c a = true → wpE fe G1 (S ++ .lst acc :: T1) (fun x S2 => x = v a ∧ ∃ T2, S2 = S ++ .lst acc :: T2) fun _ _ _ => False)) fun _ _ _ => False)
    (hd : ∀ T, Q (.ref S.length) (S ++ .lst ((xs.filter c).map v) :: T)) : kLc t tt fe own G Q X r S := by
  refine lc_inv (fun ds acc S' => ∃ ys : List α, (∃ T, S' = S ++ .lst acc :: T) ∧ ds = ys.map g ∧ acc ++ (ys.filter c).map v = (xs.filter c).map v ∧ (∀ a ∈ ys, a ∈ xs) ∧ acc.length + ys.length ≤ xs.length) ⟨xs, ⟨[], rfl⟩, hr, rfl, fun _ h => h, by simp⟩ ?_ ?_ ?_
  · intro ds acc S' h
    obtain ⟨ys, ⟨T, h1⟩, _⟩ := h
    rw [h1]
    exact hok acc T
  · intro acc S' h
    obtain ⟨ys, ⟨T, h1⟩, h0, h2, _, _⟩ := h
    have e : ys = [] := List.map_eq_nil_iff.mp h0.symm
    rw [e, List.filter_nil, List.map_nil, List.append_nil] at h2
    rw [h1, h2]
    exact hd T
  · intro d ds acc S' h
    obtain ⟨ys, ⟨T, h1⟩, h0, h2, h3, h4⟩ := h
    cases ys with
    | nil => cases h0
    | cons a ys =>
      rw [List.map_cons] at h0
      injection h0 with e1 e2
      rw [e1]
      obtain ⟨G1, g1, g2⟩ := hs a (h3 a (List.mem_cons_self ..)) acc T
      rw [h1]
      refine ⟨G1, g1, wpR_mono g2 fun k S1 q => ?_⟩
      obtain ⟨q2, T1, q1, q3⟩ := q
      rw [List.length_cons] at h4
      refine ⟨fun hk => ?_, fun hk => ?_⟩
      · rw [q1]
        rw [List.filter_cons_of_neg (by rw [← q2, hk]; exact Bool.false_ne_true)] at h2
        exact ⟨ys, ⟨T1, rfl⟩, e2, h2, fun e he => h3 e (List.mem_cons_of_mem _ he), by omega⟩
      · have hc : c a = true := q2.symm.trans hk
        rw [q1]
        refine wpR_mono (q3 hc) fun x S2 z => ?_
        obtain ⟨z1, T2, z2⟩ := z
        rw [List.filter_cons_of_pos hc, List.map_cons] at h2
        rw [z1, z2]
        refine ⟨get_app0, by omega, ys, ⟨T2, by rw [set_app0]; rfl⟩, e2, ?_, fun e he => h3 e (List.mem_cons_of_mem _ he), by rw [List.length_append, List.length_singleton]; omega⟩
        rw [List.append_assoc]
        exact h2
theorem rngD_map {n : Nat} : rngD 0 1 n = (List.range n).map fun k : Nat => D.int (k : Int) := by
  refine List.ext_getElem? fun i => ?_
  by_cases h : i < n
  · rw [rngD_get h, List.getElem?_map, List.getElem?_range h]
    show some (D.int (0 + (i : Int) * 1)) = some (D.int i)
    rw [Int.zero_add, Int.mul_one]
  · rw [List.getElem?_eq_none (by rw [rngD_len]; omega), List.getElem?_eq_none (by rw [List.length_map, List.length_range]; omega)]
theorem r_sortedR {n : Nat} {xs : List Int} (h : S[n]? = some (.lst (xs.map D.int))) (q : Q (.ref S.length) (S ++ [.lst ((isort xs).map D.int)])) : wpR (bSorted [.ref n] S) Q X := by
  unfold bSorted D.litems
  simp only [h, Option.bind_some, intsD_map]
  exact q
theorem find_str {names : List Str} (nd : names.Nodup) {j : Nat} {x : Str} (hj : names[j]? = some x) : (names.map D.str).findIdx? (fun z => eqF z (.str x)) = some j := by
  obtain ⟨hl, e⟩ := List.getElem?_eq_some_iff.mp hj
  rw [List.findIdx?_eq_some_iff_getElem]
  refine ⟨by rw [List.length_map]; exact hl, ?_, fun m hm => ?_⟩
  · rw [List.getElem_map, e]
    exact decide_eq_true rfl
  · rw [List.getElem_map]
    have hml : m < names.length := by omega
    have : names[m] ≠ x := by
      intro c
      rw [← e] at c
      exact absurd ((List.getElem_inj nd).mp c) (by omega)
    show ¬ (decide (names[m] = x) = true)
    simpa using this
theorem flat_strs {names : List Str} : (names.map D.str).all D.flat = true := by
  rw [List.all_map]
  exact List.all_eq_true.mpr fun _ _ => rfl
theorem r_indexR {n j : Nat} {names : List Str} {x : Str} (h : S[n]? = some (.lst (names.map D.str))) (nd : names.Nodup) (hj : names[j]? = some x) (q : Q (.int j) S) : wpR (bIndex (.ref n) [.str x] S) Q X := by
  unfold bIndex D.litems
  have e : ((D.str x).flat && (names.map D.str).all D.flat) = true := by rw [flat_strs]; rfl
  simp only [h, e, if_true, find_str nd hj]
  exact q
end
end Mir

namespace Mir
open PySem L2 PyProof.Rows
section
variable {X : Cx} {W : WX} {a b c e o : Expr} {fa fb fe fo : ME} {fl fh : MO} {pos p p2 : Pos} {lo hi : Option Expr}
/-! ### o[i:j] = e, of another list -/
def gSlc (to : TE) (tl th : TO) : TG := fun v σ H Q => to σ H fun x H1 => tl σ H1 fun l H2 => th σ H2 fun u H3 => ∃ (q r : Addr) (xs ys : List V) (i j : Int), x = .ref q ∧ v = .ref r ∧ l = some i ∧ u = some j ∧
  H3 q = some (.lst xs) ∧ H3 r = some (.lst ys) ∧ q ≠ r ∧ 0 ≤ i ∧ i ≤ j ∧ j ≤ xs.length ∧ xs.length + ys.length ≤ sizeLine ∧ Q σ (upd H3 q (.lst (xs.take i.toNat ++ ys ++ xs.drop j.toNat)))
theorem IsPart.rel {v : Value} {i : Int} (h : IsPart v (some i)) : RelV (.int i) v := by
  cases h with
  | int i t => exact ⟨t, rfl⟩
theorem pg_slc {to : TE} {tl th : TO} (ho : PE X o to) (hl : PO X lo tl) (hh : PO X hi th)
    (hA : ∀ v, assign (.Subscript o (.Slice lo hi none p2) pos) X.env v = (do
      let ov ← holding [v] (eval o X.env)
      let iv ← holding [v, ov] (eval (.Slice lo hi none p2) X.env)
      standAt pos
      holding [v, ov, iv] (setItem ov iv v)
      release [iv, v, ov] []) := by intro _; rfl) : PG X (.Subscript o (.Slice lo hi none p2) pos) (gSlc to tl th) := by
  refine ⟨fun pins s σ H v u Q I r h => ?_⟩
  rw [hA]
  refine wpAny_bind (wpAny_holding (thn (ho.run pins s σ H _ I h) fun ov s1 ⟨x, H1, I1, r1, q1⟩ => ?_))
  refine wpAny_bind (wpAny_holding (wpAny_Slice (thn (hl.run pins s1 σ H1 _ I1 q1) fun vl s2 ⟨l, H2, I2, pl, q2⟩ => thn (hh.run pins s2 σ H2 _ I2 q2) fun vu s3 ⟨w, H3, I3, pu, q3⟩ => ?_)))
  rw [evalPart_none]
  refine wpAny_pure ?_
  obtain ⟨q, r', xs, ys, i, j, rfl, rfl, rfl, rfl, hq, hr, hne, h0, h1, h2, h3, k⟩ := q3
  have I4 : Inv X pins σ H3 { s3 with heap := s3.heap.push { cls := .type "slice", data := .fields #[vl, vu, .none] } } := I3.kept (t' := s3.toks) fun b ob q => Heap.get?_push_of_some _ q
  cases r1
  cases r
  refine wpAny_bind (wpAny_standAt (wpAny_bind (wpAny_holding ?_)))
  refine set_slice I4 hq hr hne (Heap.IsSliceOf.new ..) (IsPart.rel pl) (IsPart.rel pu) h0 h1 h2 h3 fun s' I' => ?_
  exact wpAny_release ⟨σ, _, I', k⟩
/-- what it comes to -/
def putSl (S : ST) (o : D) (lo hi : Option Int) (v : D) : Option ST := match o, v, lo, hi with
  | .ref n, .ref m, some i, some j => match S[n]?, S[m]? with
    | some (.lst xs), some (.lst ys) => if n ≠ m ∧ 0 ≤ i ∧ i ≤ j ∧ j ≤ xs.length ∧ xs.length + ys.length ≤ SZ then some (S.set n (.lst (xs.take i.toNat ++ ys ++ xs.drop j.toNat))) else none
    | _, _ => none
  | _, _, _, _ => none
def sSlc (fo : ME) (fl fh : MO) (fe : ME) : MS := fun G S => (fe G S).s G fun v S1 => (fo G S1).s G fun o S2 => (fl G S2).s G fun l S3 => (fh G S3).s G fun h S4 => match putSl S4 o l h v with | some S5 => .nx G S5 | none => .bad
theorem ds_slc (ho : DE X W o fo) (hl : DO X W lo fl) (hh : DO X W hi fh) (he : DE X W e fe)
    (hA : ∀ v, assign (.Subscript o (.Slice lo hi none p2) p) X.env v = (do
      let ov ← holding [v] (eval o X.env)
      let iv ← holding [v, ov] (eval (.Slice lo hi none p2) X.env)
      standAt p
      holding [v, ov, iv] (setItem ov iv v)
      release [iv, v, ov] []) := by intro _; rfl)
    (hs : swapsWithSole [.Subscript o (.Slice lo hi none p2) p] e pos.line X.env = pure false := by rfl) (hw : swappedStores [.Subscript o (.Slice lo hi none p2) p] e X.env = pure none := by rfl)
    (h1 : (assignEach [.Subscript o (.Slice lo hi none p2) p] X.env).map (·.2) = [assign (.Subscript o (.Slice lo hi none p2) p) X.env] := by rfl) :
    DS X W (.Assign [.Subscript o (.Slice lo hi none p2) p] e pos) (sSlc fo fl fh fe) := PS.weak (ps_asg he (pg_slc ho hl hh hA) hs hw h1) fun D σ H h => by
  refine tG_mono (tS_bind (f := fe) (k := fun v G S1 => (fo G S1).s G fun o S2 => (fl G S2).s G fun l S3 => (fh G S3).s G fun h S4 => match putSl S4 o l h v with | some S5 => .nx G S5 | none => .bad) (rel := rV X) h) fun v H1 q => ?_
  obtain ⟨ρ, G, S, d, g, s, r, out⟩ := q
  refine ⟨ρ, G, S, g, s, OutG.mono (outS_bind (rel := rV X) g out) (.refl _ _) fun x H2 q2 => ?_⟩
  obtain ⟨ρ2, S2, e2, x2, s2, r2, o2⟩ := q2
  refine ⟨ρ2, G, S2, g.mono x2, s2, OutG.mono (outS_bind (rel := fun _ _ a b => b = a) (g.mono x2) o2) (.refl _ _) fun l H3 q3 => ?_⟩
  obtain ⟨ρ3, S3, e3, x3, s3, r3, o3⟩ := q3
  subst r3
  have g3 := (g.mono x2).mono x3
  refine ⟨ρ3, G, S3, g3, s3, OutG.mono (outS_bind (rel := fun _ _ a b => b = a) g3 o3) (.refl _ _) fun u H4 q4 => ?_⟩
  obtain ⟨ρ4, S4, e4, x4, s4, r4, o4⟩ := q4
  subst r4
  have g4 := g3.mono x4
  split at o4
  · rename_i S5 hp
    unfold putSl at hp
    split at hp
    · rename_i n m i j
      split at hp
      · rename_i xs ys h1 h2
        split at hp
        · rename_i c
          cases hp
          obtain ⟨c0, c1, c2, c3, c4⟩ := c
          have rv : VR X.K ρ4 H4 (.ref m) v := VR.mono (x2.trans (x3.trans x4)) r
          have rx : VR X.K ρ4 H4 (.ref n) x := VR.mono (x3.trans x4) r2
          obtain ⟨q, e1, p1, vs, w1, v1⟩ := s4.ref rx h1
          obtain ⟨t, e2, p2, ws, w2, v2⟩ := s4.ref rv h2
          have hm : Mut (H4 q) := by rw [w1]; exact True.intro
          refine ⟨q, t, vs, ws, i, j, e1, e2, rfl, rfl, w1, w2, fun z => ?_, c1, c2, by rw [← v1.length]; exact c3, by rw [sizeLine_eq, ← v1.length, ← v2.length]; exact c4, ?_⟩
          · subst z
            have hn := (List.getElem?_eq_some_iff.mp p1)
            have hm' := (List.getElem?_eq_some_iff.mp p2)
            obtain ⟨l1, e1⟩ := hn
            obtain ⟨l2, e2⟩ := hm'
            exact c0 ((List.getElem_inj s4.nd).mp (e1.trans e2.symm))
          · have s5 := s4.write (ho := .lst (vs.take i.toNat ++ ws ++ vs.drop j.toNat)) (o := .lst (xs.take i.toNat ++ ys ++ xs.drop j.toNat)) p1 hm ⟨_, upd_same, (((v1.take _).append v2).append (v1.drop _)).mono (.write hm)⟩
            exact outS_nx (g4.mono (.write hm)) s5 (OutS.mono (r := RS.nx G _) o4 (.write hm))
        · cases hp
      · cases hp
    · cases hp
  · exact o4.elim
end
/-! ### its word -/
section
variable {G : GE} {S : ST} {K : Kt} {X : XQ}
def kSc4 (v o : D) (l : Option Int) (K : Kt) (G : GE) : Option Int → ST → Prop := fun h S => match putSl S o l h v with | some S5 => K.nx G S5 | none => False
def kSc3 (v o : D) (fh : MO) (K : Kt) (G : GE) : Option Int → ST → Prop := fun l S => wpE fh G S (kSc4 v o l K G) (kx K G)
def kSc2 (v : D) (fl fh : MO) (K : Kt) (G : GE) : D → ST → Prop := fun o S => wpE fl G S (kSc3 v o fh K G) (kx K G)
def kSc1 (fo : ME) (fl fh : MO) (K : Kt) (G : GE) : D → ST → Prop := fun v S => wpE fo G S (kSc2 v fl fh K G) (kx K G)
theorem wp_sSlc {fo fe : ME} {fl fh : MO} : wpS (sSlc fo fl fh fe) G S K = wpE fe G S (kSc1 fo fl fh K G) (kx K G) := by
  unfold wpS sSlc; rw [run_s]
  unfold wpE kSc1
  congr 1
  funext v S
  rw [run_s]
  unfold wpE kSc2
  congr 1
  funext o S
  rw [run_s]
  unfold wpE kSc3
  congr 1
  funext l S
  rw [run_s]
  unfold wpE kSc4
  congr 1
  funext h S
  cases putSl S o l h v <;> rfl
theorem kSc1_eq {fo : ME} {fl fh : MO} {v : D} : kSc1 fo fl fh K G v S = wpE fo G S (kSc2 v fl fh K G) (kx K G) := rfl
theorem kSc2_eq {fl fh : MO} {v o : D} : kSc2 v fl fh K G o S = wpE fl G S (kSc3 v o fh K G) (kx K G) := rfl
theorem kSc3_eq {fh : MO} {v o : D} {l : Option Int} : kSc3 v o fh K G l S = wpE fh G S (kSc4 v o l K G) (kx K G) := rfl
theorem kSc4_ref {n m : Nat} {i j : Int} : kSc4 (.ref m) (.ref n) (some i) K G (some j) S = kLsO S[n]? (fun xs => kLsO S[m]? (fun ys => (n ≠ m ∧ 0 ≤ i ∧ i ≤ j ∧ j ≤ xs.length ∧ xs.length + ys.length ≤ SZ) ∧ K.nx G (S.set n (.lst (xs.take i.toNat ++ ys ++ xs.drop j.toNat))))) := by
  unfold kSc4 putSl kLsO
  dsimp only
  cases S[n]? with
  | none => rfl
  | some o1 =>
    cases S[m]? with
    | none => cases o1 <;> rfl
    | some o2 =>
      cases o1 <;> cases o2 <;> first | rfl | skip
      rename_i xs ys
      dsimp only
      by_cases c : n ≠ m ∧ 0 ≤ i ∧ i ≤ j ∧ j ≤ (xs.length : Int) ∧ xs.length + ys.length ≤ SZ
      · rw [if_pos c]
        simp only [eq_iff_iff]
        exact ⟨fun z => ⟨c, z⟩, fun z => z.2⟩
      · rw [if_neg c]
        simp only [eq_iff_iff, false_iff]
        exact fun z => c z.1
end
/-! ### range as a value -/
def rgB (a b : Int) : Bool := lim62 a && (lim62 b && decide ((b - a).toNat ≤ SZ))
def mTupR : D → D → C D := fun a b S => match a, b with | .int i, .int j => if rgB i j = true then .ok (.tup (rngD i 1 (j - i).toNat)) S else .bad | _, _ => .bad
def mLstR : D → D → C D := fun a b S => match a, b with | .int i, .int j => if rgB i j = true then allocO (.lst (rngD i 1 (j - i).toNat)) S else .bad | _, _ => .bad
theorem rgB_ok {a b : Int} (h : rgB a b = true) : RgOk a b := by
  simp only [rgB, lim62, Bool.and_eq_true, decide_eq_true_eq] at h
  unfold SZ at h
  exact ⟨by omega, by omega, by omega, by omega, by omega⟩
theorem rng_vals {K : PySem.W.Frag} {ρ : List Addr} {H : Hp} {a b : Int} : VRs K ρ H (rngD a 1 (b - a).toNat) (rgV a b) := by
  have e1 : rngD a 1 (b - a).toNat = ((List.range (b - a).toNat).map fun i : Nat => a + (i : Int)).map D.int := by
    unfold rngD
    rw [List.map_map]
    refine List.map_congr_left fun i _ => ?_
    show D.int (a + (i : Int) * 1) = D.int (a + (i : Int))
    rw [Int.mul_one]
  have e2 : rgV a b = ((List.range (b - a).toNat).map fun i : Nat => a + (i : Int)).map V.int := by
    unfold rgV
    rw [List.map_map]
    rfl
  rw [e1, e2]
  exact .of_ints _
section
variable {X : Cx} {W : WX} {a b : Expr} {fa fb : ME} {pos p p1 p2 : Pos}
theorem de_tupR2 (hc : X.calm = true) (hg : Gl X "tuple") (hm : X.mg "tuple" = none) (hg2 : Gl X "range") (hm2 : X.mg "range" = none) (ha : DE X W a fa) (hb : DE X W b fb)
    (na : starEach [a, b] X.env = (false, eval a X.env) :: starEach [b] X.env := by rfl) (nb : starEach [b] X.env = (false, eval b X.env) :: starEach [] X.env := by rfl) (hp : (backTo p1 (starEach [b] X.env)).any (·.1) = false := by rfl)
    (ne : starEach [.Call (.Name "range" p2) [a, b] [] p1] X.env = (false, eval (.Call (.Name "range" p2) [a, b] [] p1) X.env) :: starEach [] X.env := by rfl) :
    DE X W (.Call (.Name "tuple" p) [.Call (.Name "range" p2) [a, b] [] p1] [] pos) (e2 mTupR fa fb) :=
  PE.weak (pe_tupRg hc hg hm (prg_2 hg2 hm2 ha hb na nb hp) ne) fun σ H Q h => two (r := fun x y H Q => ∃ i j, x = .int i ∧ y = .int j ∧ (RgOk i j ∧ ∀ q, H q = none → Q (.ref q) (upd H q (.tup (rgV i j))))) (fun ρ S H σ d e x y Q s r1 r2 o => by
    unfold mTupR at o
    split at o
    · split at o
      · rename_i i j c
        exact ⟨i, j, VR_int.mp r1, VR_int.mp r2, rgB_ok c, new_tup s o rng_vals⟩
      · exact o.elim
    · exact o.elim) h
theorem de_tupR1 (hc : X.calm = true) (hg : Gl X "tuple") (hm : X.mg "tuple" = none) (hg2 : Gl X "range") (hm2 : X.mg "range" = none) (ha : DE X W a fa)
    (na : starEach [a] X.env = (false, eval a X.env) :: starEach [] X.env := by rfl) (ne : starEach [.Call (.Name "range" p2) [a] [] p1] X.env = (false, eval (.Call (.Name "range" p2) [a] [] p1) X.env) :: starEach [] X.env := by rfl) :
    DE X W (.Call (.Name "tuple" p) [.Call (.Name "range" p2) [a] [] p1] [] pos) (e1 (mTupR (.int 0)) fa) :=
  PE.weak (pe_tupRg hc hg hm (prg_1 hg2 hm2 ha na) ne) fun σ H Q h => one (r := fun x H Q => ∃ j, x = .int j ∧ (RgOk 0 j ∧ ∀ q, H q = none → Q (.ref q) (upd H q (.tup (rgV 0 j))))) (fun ρ S H σ d x Q s r1 o => by
    unfold mTupR at o
    split at o
    · rename_i i j k
      cases k
      split at o
      · rename_i c
        exact ⟨_, VR_int.mp r1, rgB_ok c, new_tup s o rng_vals⟩
      · exact o.elim
    · exact o.elim) h
theorem de_lstR2 (hc : X.calm = true) (hg : Gl X "list") (hm : X.mg "list" = none) (hg2 : Gl X "range") (hm2 : X.mg "range" = none) (ha : DE X W a fa) (hb : DE X W b fb)
    (na : starEach [a, b] X.env = (false, eval a X.env) :: starEach [b] X.env := by rfl) (nb : starEach [b] X.env = (false, eval b X.env) :: starEach [] X.env := by rfl) (hp : (backTo p1 (starEach [b] X.env)).any (·.1) = false := by rfl)
    (ne : starEach [.Call (.Name "range" p2) [a, b] [] p1] X.env = (false, eval (.Call (.Name "range" p2) [a, b] [] p1) X.env) :: starEach [] X.env := by rfl) :
    DE X W (.Call (.Name "list" p) [.Call (.Name "range" p2) [a, b] [] p1] [] pos) (e2 mLstR fa fb) :=
  PE.weak (pe_listRg hc hg hm (prg_2 hg2 hm2 ha hb na nb hp) ne) fun σ H Q h => two (r := fun x y H Q => ∃ i j, x = .int i ∧ y = .int j ∧ (RgOk i j ∧ ∀ q, H q = none → Q (.ref q) (upd H q (.lst (rgV i j))))) (fun ρ S H σ d e x y Q s r1 r2 o => by
    unfold mLstR at o
    split at o
    · split at o
      · rename_i i j c
        exact ⟨i, j, VR_int.mp r1, VR_int.mp r2, rgB_ok c, alloc_lst s o rng_vals⟩
      · exact o.elim
    · exact o.elim) h
theorem de_lstR1 (hc : X.calm = true) (hg : Gl X "list") (hm : X.mg "list" = none) (hg2 : Gl X "range") (hm2 : X.mg "range" = none) (ha : DE X W a fa)
    (na : starEach [a] X.env = (false, eval a X.env) :: starEach [] X.env := by rfl) (ne : starEach [.Call (.Name "range" p2) [a] [] p1] X.env = (false, eval (.Call (.Name "range" p2) [a] [] p1) X.env) :: starEach [] X.env := by rfl) :
    DE X W (.Call (.Name "list" p) [.Call (.Name "range" p2) [a] [] p1] [] pos) (e1 (mLstR (.int 0)) fa) :=
  PE.weak (pe_listRg hc hg hm (prg_1 hg2 hm2 ha na) ne) fun σ H Q h => one (r := fun x H Q => ∃ j, x = .int j ∧ (RgOk 0 j ∧ ∀ q, H q = none → Q (.ref q) (upd H q (.lst (rgV 0 j))))) (fun ρ S H σ d x Q s r1 o => by
    unfold mLstR at o
    split at o
    · rename_i i j k
      cases k
      split at o
      · rename_i c
        exact ⟨_, VR_int.mp r1, rgB_ok c, alloc_lst s o rng_vals⟩
      · exact o.elim
    · exact o.elim) h
variable {Q : D → ST → Prop} {XX : XQ} {S : ST} {i j : Int}
theorem r_tupR2 : wpR (mTupR (.int i) (.int j) S) Q XX = (rgB i j = true ∧ Q (.tup (rngD i 1 (j - i).toNat)) S) := wp_ite
theorem r_lstR2 : wpR (mLstR (.int i) (.int j) S) Q XX = (rgB i j = true ∧ Q (.ref S.length) (S ++ [.lst (rngD i 1 (j - i).toNat)])) := wp_ite
theorem rgB_of (h0 : -4611686018427387904 ≤ i) (h1 : i < 4611686018427387904) (h2 : -4611686018427387904 ≤ j) (h3 : j < 4611686018427387904) (h4 : (j - i).toNat ≤ SZ) : rgB i j = true := by
  unfold rgB
  rw [lim62_of h0 h1, lim62_of h2 h3, decide_eq_true h4]
  rfl
end
end Mir

namespace Mir
open PySem L2 PyProof.Rows
/-! ### layouts: a place of the store for each tag -/
structure Lay {τ : Type} (F : List Nat) (S : ST) (A : τ → Nat) (c : τ → Option O) : Prop where
  at_ : ∀ t o, c t = some o → S[A t]? = some o
  inj : ∀ t u o o', c t = some o → c u = some o' → A t = A u → t = u
  av : ∀ t o, c t = some o → A t ∉ F
section
variable {τ : Type} {F : List Nat} {S : ST} {A : τ → Nat} {c : τ → Option O}
theorem Lay.get (L : Lay F S A c) {t : τ} {o : O} (h : c t = some o) : S[A t]? = some o := L.at_ t o h
theorem Lay.ne (L : Lay F S A c) {t u : τ} {o o' : O} (h : c t = some o) (h' : c u = some o') (hn : t ≠ u) : A t ≠ A u := fun e => hn (L.inj t u o o' h h' e)
theorem Lay.app (L : Lay F S A c) (T : ST) : Lay F (S ++ T) A c :=
  ⟨fun t o h => by rw [List.getElem?_append_left (lt_of_get (L.at_ t o h))]; exact L.at_ t o h, L.inj, L.av⟩
theorem Lay.set (L : Lay F S A c) {t : τ} {o o0 : O} {c' : τ → Option O} (h : c t = some o0) (h' : c' t = some o) (hc : ∀ u, u ≠ t → c' u = c u) : Lay F (S.set (A t) o) A c' := by
  have hs : ∀ u x, c' u = some x → ∃ y, c u = some y := fun u x e => by
    by_cases z : u = t
    · subst z; exact ⟨o0, h⟩
    · rw [hc u z] at e; exact ⟨x, e⟩
  refine ⟨fun u x e => ?_, fun u v x y e1 e2 e3 => ?_, fun u x e => ?_⟩
  · by_cases z : u = t
    · subst z
      rw [h'] at e
      cases e
      exact set_same (lt_of_get (L.at_ u o0 h))
    · rw [hc u z] at e
      rw [set_get' (fun q => z (L.inj t u o0 x h e q).symm)]
      exact L.at_ u x e
  · obtain ⟨x', e1⟩ := hs u x e1
    obtain ⟨y', e2⟩ := hs v y e2
    exact L.inj u v x' y' e1 e2 e3
  · obtain ⟨x', e1⟩ := hs u x e
    exact L.av u x' e1
/-- all places but the forbidden ones stand as before -/
theorem Lay.fr (L : Lay F S A c) {S' : ST} (h : ∀ i, i ∉ F → i < S.length → S'[i]? = S[i]?) : Lay F S' A c :=
  ⟨fun t o e => by rw [h _ (L.av t o e) (lt_of_get (L.at_ t o e))]; exact L.at_ t o e, L.inj, L.av⟩
/-- other places than those of the layout were changed -/
theorem Lay.keep (L : Lay F S A c) {S' : ST} (h : ∀ t o, c t = some o → S'[A t]? = S[A t]?) : Lay F S' A c :=
  ⟨fun t o e => by rw [h t o e]; exact L.at_ t o e, L.inj, L.av⟩
theorem Lay.lt (L : Lay F S A c) {t : τ} {o : O} (h : c t = some o) : A t < S.length := lt_of_get (L.at_ t o h)
/-- new places: c' differs from c where A does, and those are fresh -/
theorem Lay.renew (L : Lay F S A c) {S' : ST} {A' : τ → Nat} {c' : τ → Option O} (N : τ → Prop) (hl : ∀ i ∈ F, i < S.length)
    (hold : ∀ t o, ¬ N t → c' t = some o → A' t = A t ∧ S'[A t]? = some o ∧ ∃ o0, c t = some o0)
    (hnew : ∀ t o, N t → c' t = some o → S.length ≤ A' t ∧ S'[A' t]? = some o) (hni : ∀ t u o o', N t → N u → c' t = some o → c' u = some o' → A' t = A' u → t = u) : Lay F S' A' c' := by
  classical
  refine ⟨fun t o e => ?_, fun t u o o' e1 e2 e3 => ?_, fun t o e => ?_⟩
  · by_cases z : N t
    · exact (hnew t o z e).2
    · rw [(hold t o z e).1]; exact (hold t o z e).2.1
  · by_cases z : N t
    · by_cases y : N u
      · exact hni t u o o' z y e1 e2 e3
      · obtain ⟨h1, _, o0, h3⟩ := hold u o' y e2
        have := L.lt h3
        have := (hnew t o z e1).1
        omega
    · obtain ⟨h1, _, o0, h3⟩ := hold t o z e1
      by_cases y : N u
      · have := L.lt h3
        have := (hnew u o' y e2).1
        omega
      · obtain ⟨g1, _, o1, g3⟩ := hold u o' y e2
        exact L.inj t u o0 o1 h3 g3 (by rw [← h1, ← g1]; exact e3)
  · by_cases z : N t
    · have := (hnew t o z e).1
      intro h
      have := hl _ h
      omega
    · obtain ⟨h1, _, o0, h3⟩ := hold t o z e
      rw [h1]
      exact L.av t o0 h3
end
theorem Frm.lay {τ : Type} {F L : List Nat} {S S' : ST} {A : τ → Nat} {c : τ → Option O} (f : Frm L S S') (l : Lay F S A c) (h : ∀ t o, c t = some o → A t ∉ L) : Lay F S' A c :=
  l.keep fun t o e => f.eq _ (h t o e) (l.lt e)
theorem set_app_lt {α : Type} {S T : List α} {n : Nat} {o : α} (h : n < S.length) : (S ++ T).set n o = S.set n o ++ T := List.set_append_left _ _ h
theorem get_appE0 {α : Type} {S T : List α} {n : Nat} (h : S.length = n) : (S ++ T)[n]? = T[0]? := by subst h; exact get_app0
theorem get_appE {α : Type} {S T : List α} {n k : Nat} (h : S.length = n) : (S ++ T)[n + k]? = T[k]? := by subst h; exact get_app
theorem set_appE0 {α : Type} {S T : List α} {n : Nat} {o : α} (h : S.length = n) : (S ++ T).set n o = S ++ T.set 0 o := by subst h; exact set_app0
theorem set_appE {α : Type} {S T : List α} {n k : Nat} {o : α} (h : S.length = n) : (S ++ T).set (n + k) o = S ++ T.set k o := by subst h; exact set_app
/-- only more at the end -/
def Ex (S S1 : ST) : Prop := ∃ T, S1 = S ++ T
theorem Ex.refl (S : ST) : Ex S S := ⟨[], by simp⟩
theorem Ex.app {S S1 : ST} (e : Ex S S1) (T : ST) : Ex S (S1 ++ T) := by obtain ⟨U, rfl⟩ := e; exact ⟨U ++ T, by simp⟩
theorem Ex.trans {S S1 S2 : ST} (e : Ex S S1) (f : Ex S1 S2) : Ex S S2 := by obtain ⟨U, rfl⟩ := f; exact e.app U
theorem Ex.get {S S1 : ST} (e : Ex S S1) {i : Nat} {o : O} (h : S[i]? = some o) : S1[i]? = some o := by obtain ⟨U, rfl⟩ := e; rw [List.getElem?_append_left (lt_of_get h)]; exact h
theorem Ex.fr {S S1 : ST} (e : Ex S S1) (iw : Nat) : Frm [] S S1 := by obtain ⟨U, rfl⟩ := e; exact .app _ _ _
theorem Ex.le {S S1 : ST} (e : Ex S S1) : S.length ≤ S1.length := by obtain ⟨U, rfl⟩ := e; simp
theorem Ex.use {S S1 : ST} (e : Ex S S1) {P : ST → Prop} (k : ∀ T, P (S ++ T)) : P S1 := by obtain ⟨U, rfl⟩ := e; exact k U
theorem Ex.lay {τ : Type} {F : List Nat} {S S1 : ST} {A : τ → Nat} {c : τ → Option O} (e : Ex S S1) (l : Lay F S A c) : Lay F S1 A c := by obtain ⟨U, rfl⟩ := e; exact l.app U
open Classical in
theorem Lay.put {τ : Type} {F : List Nat} {S : ST} {A : τ → Nat} {c : τ → Option O} (L : Lay F S A c) {t : τ} {o o0 : O} (h : c t = some o0) : Lay F (S.set (A t) o) A (fun u => if u = t then some o else c u) :=
  L.set h (by rw [if_pos rfl]) fun u hu => by rw [if_neg hu]
theorem Lay.eqc {τ : Type} {F : List Nat} {S : ST} {A : τ → Nat} {c c' : τ → Option O} (L : Lay F S A c) (h : ∀ t, c' t = c t) : Lay F S A c' := by
  have : c' = c := funext h
  rw [this]; exact L
end Mir

namespace Mir
open PySem L2 PyProof.Rows
section
variable {X : Cx} {W : WX}
/-! ### max, min, all, any of a list; sum of a list or tuple -/
def maxI (m : Int) : List Int → Int
  | [] => m
  | x :: r => maxI (if m < x then x else m) r
def minI (m : Int) : List Int → Int
  | [] => m
  | x :: r => minI (if x < m then x else m) r
theorem maxI_mem : ∀ (r : List Int) (m : Int), maxI m r = m ∨ maxI m r ∈ r
  | [], m => .inl rfl
  | x :: r, m => by
    rcases maxI_mem r (if m < x then x else m) with h | h
    · show maxI (if m < x then x else m) r = m ∨ _
      by_cases c : m < x
      · exact .inr (by show maxI (if m < x then x else m) r ∈ _; rw [h, if_pos c]; exact List.mem_cons_self ..)
      · exact .inl (by rw [h, if_neg c])
    · exact .inr (List.mem_cons_of_mem _ h)
theorem maxI_ge : ∀ (r : List Int) (m : Int), m ≤ maxI m r ∧ ∀ y ∈ r, y ≤ maxI m r
  | [], m => ⟨Int.le_refl _, fun y h => absurd h List.not_mem_nil⟩
  | x :: r, m => by
    obtain ⟨h1, h2⟩ := maxI_ge r (if m < x then x else m)
    have e : maxI m (x :: r) = maxI (if m < x then x else m) r := rfl
    rw [e]
    generalize hz : (if m < x then x else m) = z at h1 h2 ⊢
    have h3 : m ≤ z ∧ x ≤ z := by rw [← hz]; split <;> omega
    refine ⟨by omega, fun y hy => ?_⟩
    rcases List.mem_cons.mp hy with c | c
    · rw [c]; omega
    · exact h2 y c
theorem minI_mem : ∀ (r : List Int) (m : Int), minI m r = m ∨ minI m r ∈ r
  | [], m => .inl rfl
  | x :: r, m => by
    rcases minI_mem r (if x < m then x else m) with h | h
    · show minI (if x < m then x else m) r = m ∨ _
      by_cases c : x < m
      · exact .inr (by show minI (if x < m then x else m) r ∈ _; rw [h, if_pos c]; exact List.mem_cons_self ..)
      · exact .inl (by rw [h, if_neg c])
    · exact .inr (List.mem_cons_of_mem _ h)
theorem minI_le : ∀ (r : List Int) (m : Int), minI m r ≤ m ∧ ∀ y ∈ r, minI m r ≤ y
  | [], m => ⟨Int.le_refl _, fun y h => absurd h List.not_mem_nil⟩
  | x :: r, m => by
    obtain ⟨h1, h2⟩ := minI_le r (if x < m then x else m)
    have e : minI m (x :: r) = minI (if x < m then x else m) r := rfl
    rw [e]
    generalize hz : (if x < m then x else m) = z at h1 h2 ⊢
    have h3 : z ≤ m ∧ z ≤ x := by rw [← hz]; split <;> omega
    refine ⟨by omega, fun y hy => ?_⟩
    rcases List.mem_cons.mp hy with c | c
    · rw [c]; omega
    · exact h2 y c
def bMax1 : List D → C D := fun ds S => match ds with | [d] => (match (d.litems S).bind intsD with | some (x :: r) => .ok (.int (maxI x r)) S | _ => .bad) | _ => .bad
theorem bi_max1 (hc : X.calm = true) : Bi X W (.builtin "max") bMax1 := by
  refine ⟨_, cr_max hc, fun ρ S H σ ds xs Q s r o => ?_⟩
  unfold bMax1 at o
  split at o
  · obtain ⟨v, rfl, r1⟩ := r.one
    split at o
    · rename_i x ns hn
      obtain ⟨es, h1, h2⟩ := Option.bind_eq_some_iff.mp hn
      obtain ⟨p, vs, rfl, q, v1⟩ := litems_ok s r1 h1
      rw [intsD_eq h2] at v1
      rw [v1.ints] at q
      refine ⟨p, x :: ns, rfl, q, Nat.zero_lt_succ _, fun m hm hm2 => ?_⟩
      have e : m = maxI x ns := by
        obtain ⟨g1, g2⟩ := maxI_ge ns x
        have g3 : maxI x ns ≤ m := hm2 _ (by
          rcases maxI_mem ns x with c | c
          · rw [c]; exact List.mem_cons_self ..
          · exact List.mem_cons_of_mem _ c)
        rcases List.mem_cons.mp hm with c | c
        · omega
        · have := g2 m c; omega
      rw [e]
      exact o ρ H _ (.refl _ _) s (VR_int.mpr rfl)
    · exact o.elim
  · exact o.elim
def bMin1 : List D → C D := fun ds S => match ds with | [d] => (match (d.litems S).bind intsD with | some (x :: r) => .ok (.int (minI x r)) S | _ => .bad) | _ => .bad
theorem bi_min1 (hc : X.calm = true) : Bi X W (.builtin "min") bMin1 := by
  refine ⟨_, cr_min hc, fun ρ S H σ ds xs Q s r o => ?_⟩
  unfold bMin1 at o
  split at o
  · obtain ⟨v, rfl, r1⟩ := r.one
    split at o
    · rename_i x ns hn
      obtain ⟨es, h1, h2⟩ := Option.bind_eq_some_iff.mp hn
      obtain ⟨p, vs, rfl, q, v1⟩ := litems_ok s r1 h1
      rw [intsD_eq h2] at v1
      rw [v1.ints] at q
      refine ⟨p, x :: ns, rfl, q, Nat.zero_lt_succ _, fun m hm hm2 => ?_⟩
      have e : m = minI x ns := by
        obtain ⟨g1, g2⟩ := minI_le ns x
        have g3 : m ≤ minI x ns := hm2 _ (by
          rcases minI_mem ns x with c | c
          · rw [c]; exact List.mem_cons_self ..
          · exact List.mem_cons_of_mem _ c)
        rcases List.mem_cons.mp hm with c | c
        · omega
        · have := g2 m c; omega
      rw [e]
      exact o ρ H _ (.refl _ _) s (VR_int.mpr rfl)
    · exact o.elim
  · exact o.elim
def blsD : List D → Option (List Bool)
  | [] => some []
  | .bl b :: r => (blsD r).map (b :: ·)
  | _ :: _ => none
theorem VRs.bls {K : PySem.W.Frag} {ρ : List Addr} {H : Hp} : ∀ {ds : List D} {bs : List Bool} {vs : List V}, blsD ds = some bs → VRs K ρ H ds vs → vs = bs.map V.bl
  | [], bs, vs, h, r => by cases h; rw [r.nil_l]; rfl
  | d :: ds, bs, vs, h, r => by
    obtain ⟨v, t, rfl, h1, h2⟩ := r.cons_l
    cases d <;> first | (cases h; done) | skip
    rename_i b
    unfold blsD at h
    obtain ⟨ms, e1, rfl⟩ := Option.map_eq_some_iff.mp h
    rw [VR_bl.mp h1, VRs.bls e1 h2]; rfl
def bAll : List D → C D := fun ds S => match ds with | [d] => (match (d.litems S).bind blsD with | some bs => .ok (.bl (bs.all id)) S | none => .bad) | _ => .bad
def bAny : List D → C D := fun ds S => match ds with | [d] => (match (d.litems S).bind blsD with | some bs => .ok (.bl (bs.any id)) S | none => .bad) | _ => .bad
theorem bi_all (hc : X.calm = true) : Bi X W (.builtin "all") bAll := by
  refine ⟨_, cr_all hc, fun ρ S H σ ds xs Q s r o => ?_⟩
  unfold bAll at o
  split at o
  · obtain ⟨v, rfl, r1⟩ := r.one
    split at o
    · rename_i bs hn
      obtain ⟨es, h1, h2⟩ := Option.bind_eq_some_iff.mp hn
      obtain ⟨p, vs, rfl, q, v1⟩ := litems_ok s r1 h1
      rw [v1.bls h2] at q
      exact ⟨p, bs, rfl, q, o ρ H _ (.refl _ _) s (VR_bl.mpr rfl)⟩
    · exact o.elim
  · exact o.elim
theorem bi_any (hc : X.calm = true) : Bi X W (.builtin "any") bAny := by
  refine ⟨_, cr_any hc, fun ρ S H σ ds xs Q s r o => ?_⟩
  unfold bAny at o
  split at o
  · obtain ⟨v, rfl, r1⟩ := r.one
    split at o
    · rename_i bs hn
      obtain ⟨es, h1, h2⟩ := Option.bind_eq_some_iff.mp hn
      obtain ⟨p, vs, rfl, q, v1⟩ := litems_ok s r1 h1
      rw [v1.bls h2] at q
      exact ⟨p, bs, rfl, q, o ρ H _ (.refl _ _) s (VR_bl.mpr rfl)⟩
    · exact o.elim
  · exact o.elim
def rSumT (K : PySem.W.Frag) : List V → Hp → VK → Prop := fun vs H Q => ∃ (a : Addr) (ns : List Int), vs = [V.ref a] ∧ SqT K H a (ns.map V.int) ∧ Q (.int ns.sum) H
theorem cr_sumT (hc : X.calm = true) : CallR X (.builtin "sum") (rSumT X.K) := by
  intro pins s σ H vs us Q I r h
  obtain ⟨a, ns, rfl, hs, q⟩ := h
  obtain ⟨its, rv, ht, _⟩ := I.tuple hs
  rw [Vals.ref1 r]
  have hi := rv.ints
  obtain ⟨zs, e⟩ := hi.allInts.items
  have hn : (zs.toList.map Prod.fst) = ns := by
    rw [← nums_intItems, ← e]; exact hi.numsOf
  rw [e] at ht
  refine PySem.W.ktm_sumG (I.ok.hd hc) ht fun h' tk t' hk => ?_
  have e2 : preSum (numAt zs) zs.size = ns.sum := by rw [preSum_eq, hn, List.take_of_length_le (by rw [← hn]; simp)]
  rw [e2]
  exact ⟨.int _, H, I.kept hk, ⟨_, rfl⟩, q⟩
def bSumA : List D → C D := fun ds S => match ds with | [d] => (match (d.items S).bind intsD with | some ns => .ok (.int ns.sum) S | none => .bad) | _ => .bad
theorem bi_sumA (hc : X.calm = true) : Bi X W (.builtin "sum") bSumA := by
  refine ⟨_, (cr_sum hc).or (cr_sumT hc), fun ρ S H σ ds xs Q s r o => ?_⟩
  unfold bSumA at o
  split at o
  · obtain ⟨v, rfl, r1⟩ := r.one
    split at o
    · rename_i ns hn
      obtain ⟨es, h1, h2⟩ := Option.bind_eq_some_iff.mp hn
      obtain ⟨p, vs, rfl, q, v1⟩ := items_ok s r1 h1
      rw [intsD_eq h2] at v1
      rw [v1.ints] at q
      rcases q with q | q
      · exact .inl ⟨p, ns, rfl, q, o ρ H _ (.refl _ _) s (VR_int.mpr rfl)⟩
      · exact .inr ⟨p, ns, rfl, q, o ρ H _ (.refl _ _) s (VR_int.mpr rfl)⟩
    · exact o.elim
  · exact o.elim
end
/-! ### tuples of texts of the module -/
/-- a module's tuple of texts -/
def ConT (K : PySem.W.Frag) (mg : Str → Option Value) (x : Str) (ys : List Str) : Prop :=
  ∃ (a : Addr) (o : Obj) (its : Array Value) (n : Nat), mg x = some (.ref a) ∧ K.lookup a = some o ∧ o.cls = .type "tuple" ∧ o.dict = none ∧ o.data = .seq its n ∧ its.size ≤ sizeLine ∧ Vals (ys.map V.str) its.toList
theorem ConT.at {K : PySem.W.Frag} {mg : Str → Option Value} {x : Str} {ys : List Str} (h : ConT K mg x ys) : ConAt K mg x (.tup (ys.map D.str)) := by
  obtain ⟨a, o, its, n, h1, h2, h3, h4, h5, h6, h7⟩ := h
  refine ⟨.ref a, _, h1, rfl, fun ρ H => VR_tup.mpr ⟨a, ys.map V.str, rfl, .inr ⟨o, its, n, h2, h3, h5, h6, h7⟩, ?_⟩⟩
  clear h7 h1
  induction ys with
  | nil => exact .nil
  | cons y ys ih => exact .cons (VR_str.mpr rfl) ih
theorem conT_mk {K : PySem.W.Frag} {mg : Str → Option Value} {x : Str} {ys : List Str} {a : Addr} {its : List Value} {n : Nat} {sl : Array (Option Value)} (h1 : mg x = some (.ref a)) (h2 : K.lookup a = some ⟨.type "tuple", none, .seq its.toArray n, sl⟩)
    (h3 : its.length ≤ 1000) (h4 : Vals (ys.map V.str) its) : ConT K mg x ys :=
  ⟨a, _, its.toArray, n, h1, h2, rfl, rfl, rfl, by rw [List.size_toArray, sizeLine_eq]; omega, h4⟩
section
variable {X : Cx} {W : WX} {e : Expr} {fe : ME} {x : Str} {ys : List Str} {p apos cpos : Pos}
def mCix (ys : List Str) : D → C D := fun d S => match d with | .str z => (match ys.findIdx? fun y => decide (y = z) with | some j => .ok (.int (j : Nat)) S | none => .bad) | _ => .bad
theorem de_cix (h : ConT X.K X.mg x ys) (hg : Gl X x) (ha : DE X W e fe) (hdb : (x == ("__debug__" : Str)) = false := by decide)
    (hbase : attributeBase (.Name x p) "index" X.env (eval (.Name x p) X.env) = eval (.Name x p) X.env := by rfl)
    (hfew : ((backTo cpos (starEach [e] X.env)).all (fun x => !x.1) && (backToKw cpos (keywordEach [] X.env)).all (fun x => x.1.isSome)
      && decide ([e].length + ([] : List Keyword).length + (if ([] : List Keyword).isEmpty then 0 else 1) < 30)) = true := by rfl)
    (hline : (apos.endLine == cpos.line) = true := by rfl) (hs : starEach [e] X.env = (false, eval e X.env) :: starEach [] X.env := by rfl) (hplain : (backTo cpos (starEach [] X.env)).any (·.1) = false := by rfl) :
    DE X W (.Call (.Attribute (.Name x p) "index" apos) [e] [] cpos) (e1 (mCix ys) fe) := by
  obtain ⟨a, o, its, n, h1, h2, h3, h4, h5, h6, h7⟩ := h
  refine PE.weak (pe_bm PySem.F.plainAttrs_tuple PySem.F.slot_tuple_index PySem.F.type_tuple_index mt_tup_index (pe_glob (v := .ref a) hg h1 rfl hdb) (pa_cons ha pa_nil hs) hbase hfew hline hs hplain) fun σ H Q h => ?_
  refine ⟨.inr (.inl ⟨rfl, o, h2, h3, h4⟩), ?_⟩
  refine tG_mono (tG_bind (f := fe) (g := fun d G S1 => mCix ys d S1) h) fun v H1 q => ?_
  obtain ⟨ρ, G, S, d, g, s, r1, o'⟩ := q
  unfold mCix at o'
  split at o'
  · rename_i z
    split at o'
    · rename_i j hj
      obtain ⟨hl, c1, c2⟩ := List.findIdx?_eq_some_iff_getElem.mp hj
      have r2 : v = .str z := VR_str.mp r1
      subst r2
      refine ⟨a, ys, z, j, rfl, rfl, .inr ⟨o, its, n, h2, h3, h5, h6, h7⟩, ?_, fun m hm z' => ?_, o' ρ H1 _ (.refl _ _) s (VR_int.mpr rfl)⟩
      · rw [List.getElem?_eq_getElem hl, of_decide_eq_true c1]
      · have hml : m < ys.length := by omega
        rw [List.getElem?_eq_getElem hml] at z'
        exact c2 m hm (decide_eq_true (Option.some.inj z'))
    · exact o'.elim
  · exact o'.elim
end
section
variable {Q : D → ST → Prop} {XX : XQ} {S : ST} {ys : List Str} {z : Str}
theorem r_cix : wpR (mCix ys (.str z) S) Q XX = (match ys.findIdx? fun y => decide (y = z) with | some j => Q (.int (j : Nat)) S | none => False) := by
  unfold mCix
  dsimp only
  split <;> simp_all [wpR]
theorem r_sumT {ns : List Int} : wpR (bSumA [.tup (ns.map D.int)] S) Q XX = Q (.int ns.sum) S := by
  unfold bSumA D.items
  simp only [Option.bind_some, intsD_map]
  rfl
theorem r_sumR {n : Nat} {ns : List Int} (h : S[n]? = some (.lst (ns.map D.int))) (q : Q (.int ns.sum) S) : wpR (bSumA [.ref n] S) Q XX := by
  unfold bSumA D.items
  simp only [h, Option.bind_some, intsD_map]
  exact q
theorem r_max1R {n : Nat} {x : Int} {ns : List Int} (h : S[n]? = some (.lst ((x :: ns).map D.int))) (q : Q (.int (maxI x ns)) S) : wpR (bMax1 [.ref n] S) Q XX := by
  unfold bMax1 D.litems
  simp only [h, Option.bind_some, intsD_map]
  exact q
end
/-! ### a, b, c = x, y, z -/
def sPar3 (i j l : Nat) (f : MA) : MS := fun G S => (f G S).s G fun ds S1 => match ds with | [d, e, g] => .nx (((G.set i (some d)).set j (some e)).set l (some g)) S1 | _ => .bad
section
variable {X : Cx} {W : WX}
theorem ds_par3 {i j l : Nat} {x y z : Str} {a b c : Expr} {ga : MA} {px py pz pt pos : Pos} {kt k2 pt2} (hc : X.calm = true) (hN : X.N.Nodup) (hi : X.N[i]? = some x) (hj : X.N[j]? = some y) (hl : X.N[l]? = some z) (hij : i ≠ j) (hil : i ≠ l) (hjl : j ≠ l)
    (hx : X.env.scope.names.lookup x = some .local) (hy : X.env.scope.names.lookup y = some .local) (hz : X.env.scope.names.lookup z = some .local) (ha : DA X W [a, b, c] ga)
    (hw : swappedStores [.Tuple [.Name x px, .Name y py, .Name z pz] kt pt] (.Tuple [a, b, c] k2 pt2) X.env = pure (some [x, y, z]) := by rfl)
    (hs : swapsWithSole [.Tuple [.Name x px, .Name y py, .Name z pz] kt pt] (.Tuple [a, b, c] k2 pt2) pos.line X.env = pure false := by rfl) :
    DS X W (.Assign [.Tuple [.Name x px, .Name y py, .Name z pz] kt pt] (.Tuple [a, b, c] k2 pt2) pos) (sPar3 i j l ga) := PS.weak (ps_par3 hc hN hi hj hl hij hil hjl hx hy hz ha hw hs) fun D σ H h => by
  refine tG_mono (tS_bind (f := ga) (k := fun ds G S1 => match ds with | [d, e, g] => .nx (((G.set i (some d)).set j (some e)).set l (some g)) S1 | _ => .bad) (rel := rVs X) h) fun v H1 q => ?_
  obtain ⟨ρ, G, S, d, g, s, r, o⟩ := q
  split at o
  · obtain ⟨u, t, rfl, r1, r2⟩ := VRs.cons_l r
    obtain ⟨v, w, rfl, r3, r4⟩ := VRs.two r2
    exact ⟨u, v, w, rfl, outS_nx (((g.set i r1).set j r3).set l r4) s o⟩
  · exact o.elim
end
section
variable {G : GE} {S : ST} {K : Kt}
def kPar3 (i j l : Nat) (K : Kt) (G : GE) : List D → ST → Prop := fun ds S => match ds with | [d, e, g] => K.nx (((G.set i (some d)).set j (some e)).set l (some g)) S | _ => False
theorem wp_sPar3 {i j l : Nat} {f : MA} : wpS (sPar3 i j l f) G S K = wpE f G S (kPar3 i j l K G) (kx K G) := by
  unfold wpS sPar3; rw [run_s]
  unfold wpE kPar3
  congr 1
  funext ds S
  split
  · rfl
  · rename_i h
    first
    | rfl
    | (split
       · exact (h _ _ _ rfl).elim
       · rfl)
theorem kPar3_eq {i j l : Nat} {d e g : D} : kPar3 i j l K G [d, e, g] S = K.nx (((G.set i (some d)).set j (some e)).set l (some g)) S := rfl
end
/-! ### range(i, j, c) -/
def rgcB (i j c : Int) : Bool := decide (c ≠ 0) && (decide (c.natAbs < 1073741824) && Builtin.Range.small i j c)
def iRgC (f : MA) : MI := fun G S => (f G S).bind fun ds S1 => match ds with | [.int i, .int j, .int c] => if rgcB i j c = true then .ok ⟨rngD i c (Builtin.Range.rangeSize i j c).toNat, none⟩ S1 else .bad | _ => .bad
theorem rsize_nn (i j c : Int) (h : c ≠ 0) : 0 ≤ Builtin.Range.rangeSize i j c := by
  unfold Builtin.Range.rangeSize
  split
  · split
    · have := Int.ediv_nonneg (a := j - i - 1) (b := c) (by omega) (by omega)
      omega
    · omega
  · split
    · have := Int.ediv_nonneg (a := i - j - 1) (b := -c) (by omega) (by omega)
      omega
    · omega
section
variable {X : Cx} {W : WX} {tg a b c : Expr} {ga : MA} {p pos : Pos}
theorem di_rangeC (hg : Gl X "range") (hm : X.mg "range" = none) (ha : DA X W [a, b, c] ga) (hs : starEach [a, b, c] X.env = (false, eval a X.env) :: starEach [b, c] X.env := by rfl) (hpl : (backTo pos (starEach [b, c] X.env)).any (·.1) = false := by rfl) :
    DI X W tg (.Call (.Name "range" p) [a, b, c] [] pos) (iRgC ga) := by
  refine PI.weak (pi_range3 hg hm ha hs hpl) fun σ H Rk h => ?_
  refine tG_mono (tG_bind (f := ga) (g := fun ds G S1 => match ds with | [.int i, .int j, .int c] => if rgcB i j c = true then R.ok (Src.mk (rngD i c (Builtin.Range.rangeSize i j c).toNat) none) S1 else .bad | _ => .bad) h) fun x H1 q => ?_
  obtain ⟨ρ, G, S, ds, g, s, r, o⟩ := q
  split at o
  · rename_i i j cc
    split at o
    · rename_i k
      obtain ⟨u, r', rfl, r1, r2⟩ := VRs.cons_l r
      obtain ⟨v, w, rfl, r2, r3⟩ := VRs.two r2
      rw [VR_int] at r1 r2 r3; subst r1 r2 r3
      simp only [rgcB, Bool.and_eq_true, decide_eq_true_eq] at k
      obtain ⟨k1, k2, k3⟩ := k
      have := rsize_nn i j cc k1
      exact ⟨i, j, cc, (Builtin.Range.rangeSize i j cc).toNat, rfl, ⟨k1, k2, k3, by omega⟩, o ρ H1 _ (.refl _ _) s (src_rng walk_rangeC)⟩
    · exact o.elim
  · exact o.elim
end
section
variable {G : GE} {S : ST} {XX : XQ}
def kRgC (Q : Src → ST → Prop) : List D → ST → Prop := fun ds S => match ds with | [.int i, .int j, .int c] => rgcB i j c = true ∧ Q ⟨rngD i c (Builtin.Range.rangeSize i j c).toNat, none⟩ S | _ => False
theorem wp_iRgC {f : MA} {Q : Src → ST → Prop} : wpE (iRgC f) G S Q XX = wpE f G S (kRgC Q) XX := by
  unfold wpE iRgC
  rw [wp_bind]
  congr 1
  funext ds S
  unfold kRgC
  split
  · rw [wp_ite]; rfl
  · rename_i h
    first
    | rfl
    | (split
       · exact (h _ _ _ rfl).elim
       · rfl)
theorem kRgC_eq {Q : Src → ST → Prop} {i j c : Int} : kRgC Q [.int i, .int j, .int c] S = (rgcB i j c = true ∧ Q ⟨rngD i c (Builtin.Range.rangeSize i j c).toNat, none⟩ S) := rfl
end
end Mir

namespace Mir
open PySem L2 PyProof.Rows
/-! ### steps of a layout -/
structure Stp {τ : Type} (S S' : ST) (A A' : τ → Nat) (c c' : τ → Option O) : Prop where
  le : S.length ≤ S'.length
  fr : ∀ i, i < S.length → (∀ t o, c t = some o → A t ≠ i) → S'[i]? = S[i]?
  own : ∀ t o, c' t = some o → ((∃ o', c t = some o') ∧ A' t = A t) ∨ S.length ≤ A' t
/-- a place of the store that is none of the layout's -/
def Out {τ : Type} (S : ST) (A : τ → Nat) (c : τ → Option O) (i : Nat) : Prop := i < S.length ∧ ∀ t o, c t = some o → A t ≠ i
section
variable {τ : Type} {S S1 S2 : ST} {A A1 A2 : τ → Nat} {c c1 c2 : τ → Option O}
theorem Stp.refl (S : ST) (A : τ → Nat) (c : τ → Option O) : Stp S S A A c c := ⟨Nat.le_refl _, fun _ _ _ => rfl, fun t o h => .inl ⟨⟨o, h⟩, rfl⟩⟩
theorem Stp.out (h : Stp S S1 A A1 c c1) {i : Nat} (o : Out S A c i) : Out S1 A1 c1 i := ⟨Nat.lt_of_lt_of_le o.1 h.le, fun t x e z => by
  rcases h.own t x e with ⟨⟨y, ey⟩, ea⟩ | l
  · exact o.2 t y ey (by rw [← ea]; exact z)
  · have := o.1; omega⟩
theorem Stp.keep (h : Stp S S1 A A1 c c1) {i : Nat} (o : Out S A c i) : S1[i]? = S[i]? := h.fr i o.1 o.2
theorem Stp.trans (h : Stp S S1 A A1 c c1) (k : Stp S1 S2 A1 A2 c1 c2) : Stp S S2 A A2 c c2 := by
  refine ⟨Nat.le_trans h.le k.le, fun i hi ho => ?_, fun t o e => ?_⟩
  · have o : Out S A c i := ⟨hi, ho⟩
    rw [k.keep (h.out o), h.keep o]
  · rcases k.own t o e with ⟨⟨y, ey⟩, ea⟩ | l
    · rcases h.own t y ey with ⟨z, ez⟩ | l2
      · exact .inl ⟨z, ea.trans ez⟩
      · exact .inr (by rw [ea]; exact l2)
    · exact .inr (Nat.le_trans h.le l)
theorem Stp.ex (e : Ex S S1) (A : τ → Nat) (c : τ → Option O) : Stp S S1 A A c c := by
  obtain ⟨T, rfl⟩ := e
  exact ⟨by simp, fun i hi _ => List.getElem?_append_left hi, fun t o h => .inl ⟨⟨o, h⟩, rfl⟩⟩
theorem Lay.set1 (L : Lay [] S A c) {t : τ} {o o0 : O} {c' : τ → Option O} (h : c t = some o0) (h' : c' t = some o) (hc : ∀ u, u ≠ t → c' u = c u) : Lay [] (S.set (A t) o) A c' ∧ Stp S (S.set (A t) o) A A c c' := by
  refine ⟨L.set h h' hc, by simp, fun i hi ho => set_get' (ho t o0 h), fun u x e => .inl ⟨?_, rfl⟩⟩
  by_cases z : u = t
  · subst z; exact ⟨o0, h⟩
  · rw [hc u z] at e; exact ⟨x, e⟩
theorem Lay.eqs (h : Lay [] S1 A c1 ∧ Stp S S1 A A c c1) (e : ∀ t, c2 t = c1 t) : Lay [] S1 A c2 ∧ Stp S S1 A A c c2 := by
  have : c2 = c1 := funext e
  rw [this]; exact h
theorem Lay.thenSet (h : Lay [] S1 A c1 ∧ Stp S S1 A A c c1) {t : τ} {o o0 : O} {c' : τ → Option O} (h0 : c1 t = some o0) (h' : c' t = some o) (hc : ∀ u, u ≠ t → c' u = c1 u) : Lay [] (S1.set (A t) o) A c' ∧ Stp S (S1.set (A t) o) A A c c' := by
  have := h.1.set1 h0 h' hc
  exact ⟨this.1, h.2.trans this.2⟩
theorem Lay.thenEx (h : Lay [] S1 A c1 ∧ Stp S S1 A A c c1) (e : Ex S1 S2) : Lay [] S2 A c1 ∧ Stp S S2 A A c c1 := ⟨e.lay h.1, h.2.trans (.ex e _ _)⟩
theorem Lay.frm1 (L : Lay [] S A c) {t : τ} {o o0 : O} {c' : τ → Option O} (h : c t = some o0) (h' : c' t = some o) (hc : ∀ u, u ≠ t → c' u = c u) (f : Frm [A t] S S1) (g : S1[A t]? = some o) : Lay [] S1 A c' ∧ Stp S S1 A A c c' := by
  have hs : ∀ u x, c' u = some x → ∃ y, c u = some y := fun u x e => by
    by_cases z : u = t
    · subst z; exact ⟨o0, h⟩
    · rw [hc u z] at e; exact ⟨x, e⟩
  refine ⟨⟨fun u x e => ?_, fun u v x y e1 e2 e3 => ?_, fun _ _ _ => List.not_mem_nil⟩, f.le, fun i hi ho => f.eq i (fun z => ho t o0 h (List.mem_singleton.mp z).symm) hi, fun u x e => .inl ⟨hs u x e, rfl⟩⟩
  · by_cases z : u = t
    · subst z; rw [h'] at e; cases e; exact g
    · rw [hc u z] at e
      exact f.get (fun q => L.ne e h z (List.mem_singleton.mp q)) (L.get e)
  · obtain ⟨x', e1⟩ := hs u x e1
    obtain ⟨y', e2⟩ := hs v y e2
    exact L.inj u v x' y' e1 e2 e3
/-- the object at d is changed and some tags have new places -/
theorem Lay.fresh (L : Lay [] S A c) {d : τ} {od od0 : O} {A' : τ → Nat} {c' : τ → Option O} (N : τ → Prop) (hd : c d = some od0) (hd' : c' d = some od) (hdN : ¬ N d) (hA : ∀ t, ¬ N t → A' t = A t)
    (hc : ∀ t, ¬ N t → t ≠ d → c' t = c t) (f : Frm [A d] S S1) (gd : S1[A d]? = some od) (hnew : ∀ t o, N t → c' t = some o → S.length ≤ A' t ∧ S1[A' t]? = some o)
    (hni : ∀ t u o o', N t → N u → c' t = some o → c' u = some o' → A' t = A' u → t = u) : Lay [] S1 A' c' ∧ Stp S S1 A A' c c' := by
  refine ⟨L.renew N (fun i h => absurd h List.not_mem_nil) ?_ hnew hni, f.le, fun i hi ho => f.eq i (fun z => ho d od0 hd (List.mem_singleton.mp z).symm) hi, fun t o e => ?_⟩
  · intro t o hN e
    refine ⟨hA t hN, ?_, ?_⟩
    · by_cases z : t = d
      · subst z
        rw [hd'] at e; cases e
        exact gd
      · rw [hc t hN z] at e
        exact f.get (fun q => L.ne e hd z (List.mem_singleton.mp q)) (L.get e)
    · by_cases z : t = d
      · subst z; exact ⟨od0, hd⟩
      · rw [hc t hN z] at e; exact ⟨o, e⟩
  · by_cases z : N t
    · exact .inr (hnew t o z e).1
    · refine .inl ⟨?_, hA t z⟩
      by_cases y : t = d
      · subst y; exact ⟨od0, hd⟩
      · rw [hc t z y] at e; exact ⟨o, e⟩
theorem Lay.thenFrm (h : Lay [] S1 A1 c1 ∧ Stp S S1 A A1 c c1) {t : τ} {o o0 : O} {c' : τ → Option O} (h0 : c1 t = some o0) (h' : c' t = some o) (hc : ∀ u, u ≠ t → c' u = c1 u) (f : Frm [A1 t] S1 S2) (g : S2[A1 t]? = some o) : Lay [] S2 A1 c' ∧ Stp S S2 A A1 c c' := by
  have := h.1.frm1 h0 h' hc f g
  exact ⟨this.1, h.2.trans this.2⟩
end
theorem mem_two {c d e : Str} : (c ∈ [d, e]) = (c = d ∨ c = e) := by simp
theorem mem_three {c d e f : Str} : (c ∈ [d, e, f]) = (c = d ∨ c = e ∨ c = f) := by simp
/-- a word that the elaborator does not look into -/
@[irreducible] def Hold (P : Prop) : Prop := P
theorem hold_eq {P : Prop} : Hold P = P := by unfold Hold; rfl
theorem atI_4 {α : Type} {x0 x1 x2 x3 x4 : α} {xs : List α} : atI (x0 :: x1 :: x2 :: x3 :: x4 :: xs) 4 = some x4 := by
  rw [atI_pos (by omega) (by simp only [List.length_cons]; omega)]; rfl
theorem atI_5 {α : Type} {x0 x1 x2 x3 x4 x5 : α} {xs : List α} : atI (x0 :: x1 :: x2 :: x3 :: x4 :: x5 :: xs) 5 = some x5 := by
  rw [atI_pos (by omega) (by simp only [List.length_cons]; omega)]; rfl
theorem atI_6 {α : Type} {x0 x1 x2 x3 x4 x5 x6 : α} {xs : List α} : atI (x0 :: x1 :: x2 :: x3 :: x4 :: x5 :: x6 :: xs) 6 = some x6 := by
  rw [atI_pos (by omega) (by simp only [List.length_cons]; omega)]; rfl
theorem atI_7 {α : Type} {x0 x1 x2 x3 x4 x5 x6 x7 : α} {xs : List α} : atI (x0 :: x1 :: x2 :: x3 :: x4 :: x5 :: x6 :: x7 :: xs) 7 = some x7 := by
  rw [atI_pos (by omega) (by simp only [List.length_cons]; omega)]; rfl
end Mir

namespace Mir
open PySem L2 PyProof.Rows
/-! ### tuple * int -/
def mMulT : D → D → C D := fun a b S => match a, b with
  | .tup ds, .int k => if ds ≠ [] ∧ 2 ≤ k ∧ k ≤ 1000 ∧ ds.length ≤ 1000 then .ok (.tup (List.replicate k.toNat ds).flatten) S else .bad
  | _, _ => .bad
section
variable {X : Cx} {W : WX}
theorem op2_mulT : Op2 X W (binaryOp .Mult) mMulT := by
  refine ⟨_, op_repT, fun ρ S H σ d e x y Q s r1 r2 o => ?_⟩
  unfold mMulT at o
  split at o
  · split at o
    · rename_i ds k c
      obtain ⟨a, vs, e1, q1, v1⟩ := VR_tup.mp r1
      refine ⟨a, k, vs, e1, VR_int.mp r2, q1, fun z => c.1 ?_, c.2.1, c.2.2.1, by rw [← v1.length]; exact c.2.2.2, new_tup s o (v1.rep _)⟩
      have := v1.length
      rw [z] at this
      exact List.length_eq_zero_iff.mp (by simpa using this)
    · exact o.elim
  · exact o.elim
end
section
variable {S : ST} {Q : D → ST → Prop} {X : XQ}
theorem r_mulT {ds : List D} {k : Int} : wpR (mMulT (.tup ds) (.int k) S) Q X = ((ds ≠ [] ∧ 2 ≤ k ∧ k ≤ 1000 ∧ ds.length ≤ 1000) ∧ Q (.tup (List.replicate k.toNat ds).flatten) S) := by
  unfold mMulT
  exact wp_ite
end
end Mir

namespace Mir
open PySem L2 PyProof.Rows
/-! ### own errors: making them -/
/-- a class whose __init__ is the built-in one of ValueError -/
def BaseAt (K : PySem.W.Frag) (mg : Str → Option Value) (b : Str) : Prop :=
  ∃ B : Addr, mg b = some (.ref B) ∧ PySem.W.specialIn K (.ref B) "__getattribute__" = some (some (.builtin "type.__getattribute__")) ∧ PySem.W.readsIn K B (.type "type") = true ∧
    PySem.W.findCls K (.ref B) (.type "type") "__init__" = some (.val (.builtin "ValueError.__init__"))
section
variable {X : Cx} {e : Expr} {es : List Expr} {ta : TA} {b : Str} {p1 p2 pos : Pos}
theorem pe_binit {pl : Sem Bool} (hB : BaseAt X.K X.mg b) (hg : Gl X b) (ha : PA X (e :: es) ta) (hdb : (b == ("__debug__" : Str)) = false := by decide)
    (hc : eval (.Call (.Attribute (.Name b p1) "__init__" p2) (e :: es) [] pos) X.env = (do
      let bv ← eval (.Name b p1) X.env
      standAt p2.atName
      let (g, hd) ← holding [bv] (getMethod bv "__init__" pl)
      callWith pos g hd (backTo pos (starEach (e :: es) X.env)) (backToKw pos (keywordEach [] X.env))) := by rfl)
    (he : starEach (e :: es) X.env = (false, eval e X.env) :: starEach es X.env := by rfl) (hpl : (backTo pos (starEach es X.env)).any (·.1) = false := by rfl) :
    PE X (.Call (.Attribute (.Name b p1) "__init__" p2) (e :: es) [] pos) (tVeI X.K ta) := by
  obtain ⟨B, hm, h1, h2, h3⟩ := hB
  refine ⟨fun pins s σ H Q I h => PySem.W.methodCall_KW (ld_glob I hg hm ?_ hdb) hc⟩
  refine PySem.W.method_cls I.kIn h1 (PySem.W.cls_value I.kIn h2 h3 (by decide +kernel) ?_)
  show wpAny _ _ (callWith pos (Value.builtin "ValueError.__init__") [] (backTo pos (starEach (e :: es) X.env)) []) _ _ _
  refine callWith_method1 (thn (ha.run pos pins _ σ H _ (I.tok _) h) fun us s1 z => ?_) he hpl
  obtain ⟨vs, H1, J, r, a, C, ws, rfl, hl, T, ea, q⟩ := z
  cases r with
  | @cons _ u _ ur ru rr =>
    have eu : u = Value.ref a := ru
    subst eu
    have hn : ur.length ≤ sizeLine := by
      have := Paired.length rr
      rw [sizeLine_eq]
      omega
    exact oinit_ok T J ea hn fun s2 J2 => ⟨.non, H1, J2, rfl, q⟩
end
/-- what __init__ of an error promises: its fields ks in their order -/
def spI (K : PySem.W.Frag) (ks : List Str) : Sp := fun vs H Q _ => ∃ (a C : Addr) (ws : List V), vs = .ref a :: ws ∧ ws.length = ks.length ∧ OexC K C ∧ (∀ f ∈ ks, PySem.W.findIn K (.ref C) f = some none) ∧ H a = some (exo a C none) ∧
  (ks = [] → Q .non H) ∧ (ks ≠ [] → ∀ dx, H dx = none → dx ≠ a → Q .non (upd (upd H dx (exd dx (ks.zip ws).reverse)) a (exo a C (some dx))))
theorem spI_len {K : PySem.W.Frag} {ks ps : List Str} (h : ps.length = ks.length + 1) : ∀ vs H Q E, spI K ks vs H Q E → vs.length = ps.length := fun vs H Q E z => by
  obtain ⟨a, C, ws, rfl, hl, _⟩ := z
  rw [List.length_cons, hl, h]
/-- an error class of the text -/
def ErrAt (K : PySem.W.Frag) (mg : Str → Option Value) (c : Str) (ks : List Str) : Prop := ∃ C, mg c = some (.ref C) ∧ OexC K C ∧ (∀ f ∈ ks, PySem.W.findIn K (.ref C) f = some none)
def ErrInit (K : PySem.W.Frag) (mg : Str → Option Value) (c qual : Str) (st : Stmt) (ps : List Str) : Prop :=
  ∃ C f fd, mg c = some (.ref C) ∧ PySem.W.findIn K (.ref C) "__init__" = some (some (.ref f)) ∧ PySem.W.typeIn K (.ref f) = some (.type "function") ∧ Fun K "__init__" qual st f fd ∧ Binds K fd ps []
/-- it can be made -/
def Oke (P : Program) (w : World) (K : PySem.W.Frag) (mg : Str → Option Value) (base : Heap) (c : Str) (ks : List Str) : Prop :=
  ∃ C f fd ps, mg c = some (.ref C) ∧ OexC K C ∧ (∀ g ∈ ks, PySem.W.findIn K (.ref C) g = some none) ∧ PySem.W.findIn K (.ref C) "__init__" = some (some (.ref f)) ∧ PySem.W.typeIn K (.ref f) = some (.type "function") ∧
    FnOk P w K mg base CX0 1 f fd ps (spI K ks) ∧ Binds K fd ps []
section
variable {P : Program} {w : World} {K : PySem.W.Frag} {mg : Str → Option Value} {base : Heap} {c qual f g m : Str} {st : Stmt} {x y z : Str}
/-- the body's reading: the base's __init__, then the fields -/
def tI0 (K : PySem.W.Frag) (m : Str) : TS := tDrop (tVeI K (tCons (tVar 0) (tCons (tC (.str m)) tNil)))
def tI1 (K : PySem.W.Frag) (m f : Str) : TS := tSeq (tI0 K m) (tOst K f (tVar 0) (tVar 1))
def tI2 (K : PySem.W.Frag) (m f g : Str) : TS := tSeq (tI0 K m) (tSeq (tOst K f (tVar 0) (tVar 1)) (tOst K g (tVar 0) (tVar 2)))
theorem okI0 (hE : ErrAt K mg c []) (Dx : ErrInit K mg c qual st [x]) (Sc : FnScope [x] [x] (defScope st))
    (hb : ∀ (f : Addr) (cdv : Value) (A : Around) (outer : List Env) (s : Shared) (H : Hp) (E : XK), PSs (cxOf CX0 P w K mg base [x] qual (defScope st) f cdv A outer s H E).nox (defBody st) (tI0 K m)) : Oke P w K mg base c [] := by
  obtain ⟨C, h1, h2, h3⟩ := hE
  obtain ⟨C', f, fd, e1, e2, e3, F, B⟩ := Dx
  have ec : C = C' := by
    rw [h1] at e1
    cases e1
    rfl
  subst ec
  refine ⟨C, f, fd, [x], h1, h2, h3, e2, e3, F.ok Sc (spI_len rfl) (fun cdv A outer s H vs Q E hr h => ⟨_, hb f cdv A outer s H E, ?_⟩), B⟩
  obtain ⟨a, D, ws, rfl, hl, T, _, ea, q, _⟩ := h
  have ews : ws = [] := List.length_eq_zero_iff.mp hl
  subst ews
  exact ⟨_, rfl, a, D, [.str m], rfl, (by simp), T, ea, q rfl⟩
theorem okI1 (hE : ErrAt K mg c [f]) (Dx : ErrInit K mg c qual st [x, y]) (Sc : FnScope [x, y] [x, y] (defScope st))
    (hb : ∀ (f0 : Addr) (cdv : Value) (A : Around) (outer : List Env) (s : Shared) (H : Hp) (E : XK), PSs (cxOf CX0 P w K mg base [x, y] qual (defScope st) f0 cdv A outer s H E).nox (defBody st) (tI1 K m f)) : Oke P w K mg base c [f] := by
  obtain ⟨C, h1, h2, h3⟩ := hE
  obtain ⟨C', f0, fd, e1, e2, e3, F, B⟩ := Dx
  have ec : C = C' := by
    rw [h1] at e1
    cases e1
    rfl
  subst ec
  refine ⟨C, f0, fd, [x, y], h1, h2, h3, e2, e3, F.ok Sc (spI_len rfl) (fun cdv A outer s H vs Q E hr h => ⟨_, hb f0 cdv A outer s H E, ?_⟩), B⟩
  obtain ⟨a, D, ws, rfl, hl, T, hn, ea, _, q⟩ := h
  obtain ⟨v, rfl⟩ := List.length_eq_one_iff.mp hl
  refine ⟨_, rfl, a, D, [.str m], rfl, (by simp), T, ea, _, rfl, _, rfl, a, D, rfl, T, hn f (List.mem_singleton.mpr rfl), .inl ⟨ea, fun dx n ne => ?_⟩⟩
  exact q (by simp) dx n ne
theorem okI2 (hE : ErrAt K mg c [f, g]) (Dx : ErrInit K mg c qual st [x, y, z]) (Sc : FnScope [x, y, z] [x, y, z] (defScope st))
    (hb : ∀ (f0 : Addr) (cdv : Value) (A : Around) (outer : List Env) (s : Shared) (H : Hp) (E : XK), PSs (cxOf CX0 P w K mg base [x, y, z] qual (defScope st) f0 cdv A outer s H E).nox (defBody st) (tI2 K m f g)) : Oke P w K mg base c [f, g] := by
  obtain ⟨C, h1, h2, h3⟩ := hE
  obtain ⟨C', f0, fd, e1, e2, e3, F, B⟩ := Dx
  have ec : C = C' := by
    rw [h1] at e1
    cases e1
    rfl
  subst ec
  refine ⟨C, f0, fd, [x, y, z], h1, h2, h3, e2, e3, F.ok Sc (spI_len rfl) (fun cdv A outer s H vs Q E hr h => ⟨_, hb f0 cdv A outer s H E, ?_⟩), B⟩
  obtain ⟨a, D, ws, rfl, hl, T, hn, ea, _, q⟩ := h
  obtain ⟨u, v, rfl⟩ : ∃ u v, ws = [u, v] := by
    match ws, hl with
    | [u, v], _ => exact ⟨u, v, rfl⟩
  refine ⟨_, rfl, a, D, [.str m], rfl, (by simp), T, ea, _, rfl, _, rfl, a, D, rfl, T, hn f (by simp), .inl ⟨ea, fun dx n ne => ?_⟩⟩
  refine ⟨_, rfl, _, rfl, a, D, rfl, T, hn g (by simp), .inr ⟨dx, [(f, u)], upd_same, ?_, by simp, ?_⟩⟩
  · rw [upd_ne ne, upd_same]
  · have e : upd (upd (upd H dx (exd dx [(f, u)])) a (exo a D (some dx))) dx (exd dx [(g, v), (f, u)]) = upd (upd H dx (exd dx [(g, v), (f, u)])) a (exo a D (some dx)) := by
      funext i
      by_cases c1 : i = dx
      · subst c1; rw [upd_same, upd_ne ne, upd_same]
      · rw [upd_ne c1]
        by_cases c2 : i = a
        · subst c2; rw [upd_same, upd_same]
        · rw [upd_ne c2, upd_ne c2, upd_ne c1, upd_ne c1]
    rw [e]
    exact q (by simp) dx n ne
end
/-! ### raise -/
section
variable {X : Cx} {W : WX}
theorem del_upd {H : Hp} {a : Addr} {o : HO} (h : H a = none) : L2.del (upd H a o) a = H := by
  funext i
  by_cases c : i = a
  · rw [c, del_same, h]
  · rw [del_ne c, upd_ne c]
/-- C(), C's own __init__ sets nothing -/
theorem pmk_e0 {x : Str} {C fI : Addr} {k : Nat} {fd : FuncData} {ps : List Str} {p pos : Pos} (T : OexC X.K C) (iC : PySem.W.findIn X.K (.ref C) "__init__" = some (some (.ref fI))) (tI : PySem.W.typeIn X.K (.ref fI) = some (.type "function"))
    (F1 : FnOk X.prog X.w X.K X.mg X.base CX0 k fI fd ps (spI X.K [])) (hr : Room (k + 1) X.A) (hb : Binds X.K fd ps []) (hg : Gl X x) (hm : X.mg x = some (.ref C)) (hdb : (x == ("__debug__" : Str)) = false := by decide) :
    PMk X (.Call (.Name x p) [] [] pos) (fun _ H Q => Q (.ref C) none H) := fun pins s σ H Q I h => by
  refine wpAny_Call_Name_kw (ld_glob I hg hm (PySem.W.callWith_K0 I.kIn T.kC ?_) hdb)
  obtain ⟨nm, q, N, bs, bm, sn, sub, ab, col, dd, k0, k1, k2, k3, k5, hC, hbm⟩ := T.cls
  show wpAny _ _ (call (.ref C) []) _ _ _
  obtain ⟨hp, g, dr, tk, os⟩ := s
  generalize ea : hp.objs.size + 1 = a
  have la : hp.objs.size ≤ a := by omega
  have na : H a = none := I.hok.fresh la
  generalize eh : (hp.push (PySem.W.kdv_tup [])).push (PySem.HandSPX.excO C hp.objs.size) = hp2
  have kk : ∀ b o, hp.get? b = some o → hp2.get? b = some o := fun b o z => by
    rw [← eh]; exact Heap.get?_push_of_some _ (Heap.get?_push_of_some _ z)
  have ga : hp2.get? a = some (PySem.HandSPX.excO C hp.objs.size) := by
    rw [← eh, ← ea]; heap_get
  have J : Inv X pins σ (upd H a (exo a C none)) ⟨hp2, g, dr, tk, os⟩ := I.laid (t' := tk) kk la (exo_ok ga)
  have sp : spI X.K [] [V.ref a] (upd H a (exo a C none)) (fun v H2 => v = .non ∧ H2 = upd H a (exo a C none)) E0 :=
    ⟨a, C, [], rfl, rfl, T, (fun f z => absurd z List.not_mem_nil), upd_same, fun _ => ⟨rfl, rfl⟩, fun z => absurd rfl z⟩
  have rv : Vals [V.ref a] [Value.ref a] := .cons rfl .nil
  have hl : ([Value.ref a] ++ []).length = ps.length := by
    have := F1.len _ _ _ _ sp
    rw [← this]; rfl
  refine wpAny_call (PySem.HandSPX.call_own PySem.F.excBase_ValueError (fun Y => PySem.HandSPX.refsVE_contains Y bm hbm) (I.kIn _ _ hC) (PySem.W.looks_findIn I.kIn iC) (fun self => PySem.W.bind_fn I.kIn self tI) (by rw [sizeLine_eq]; simp) ?_)
  rw [ea, eh]
  have bd := hb ⟨hp2, g, dr, tk, os⟩ [Value.ref a] J.kIn hl
  refine codeAny_mono (F1.run _ X.stack _ _ ⟨[Value.ref a], []⟩ ([Value.ref a] ++ []) _ _ E0 (hr.make C [] []) (J.env0.make C [] []) bd rv sp) fun r s' z => ?_
  cases r with
  | error er => exact (show False from z).elim
  | ok fl =>
    cases fl with
    | next => exact z.elim
    | brk => exact z.elim
    | cont => exact z.elim
    | ret u =>
      obtain ⟨v, H2, os2, bare2, un2, hok2, rv2, ⟨ev, eH⟩⟩ := z
      subst ev
      obtain ⟨h2, g2, d2, t2, os'⟩ := s'
      refine ⟨rv2, ?_⟩
      have e2 : H2 a = some (exo a C none) := by rw [eH, upd_same]
      obtain ⟨t0, hoe⟩ := exo_at hok2 e2
      obtain ⟨G, g1', g2'⟩ := restrict h2 fun b => decide (b ≠ a)
      have gk : ∀ b, b ≠ a → G.get? b = h2.get? b := fun b hb => g1' b (decide_eq_true hb)
      have ge : G.get? a = none := g2' a (by simp)
      have nha : ∀ {b : Addr} {o : Obj}, hp.get? b = some o → b ≠ a := fun {b o} y c => by
        have := Heap.lt_size y
        rw [c] at this
        exact absurd (Nat.lt_of_lt_of_le this la) (Nat.lt_irrefl _)
      have eu : ∀ {b : Addr}, b ≠ a → H2 b = H b := fun {b} hb => by rw [eH, upd_ne hb]
      have U : Un (frs X.stack) [] H H hp G := {
        keep := fun b o y n hf hx => by rw [gk b (nha y)]; exact un2.keep b o (kk b o y) (by rw [upd_ne (nha y)]; exact n) hf hx
        slot := fun b o y n hf hx => by rw [gk b (nha y)]; exact un2.slot b o (kk b o y) (by rw [upd_ne (nha y)]; exact n) hf hx
        free := fun b o y n hx => n
        there := fun b o y hx => by rw [gk b (nha y)]; exact un2.there b o (kk b o y) hx
        tups := fun b xs y => y
        frzs := fun b o v y => y
        tbls := fun b ps y => ⟨#[], by rw [y]; simp⟩ }
      have hok3 : HOk X.prog X.w H G := fun b o y => by
        have hb : b ≠ a := fun c => by rw [c, na] at y; cases y
        have own : ∀ {c : Addr}, H2 c = some (.own b) → c ≠ a := fun {c} hc => at_ne e2 hc exo_own
        refine (hok2 b o ((eu hb).trans y)).stay (fun c v hc q => ?_) (fun c hc => (eu (own hc)).symm.trans hc) (fun c xs hc => (eu (at_ne e2 hc exo_tup)).symm.trans hc)
        have hca : c ≠ a := by
          rcases hc with hc | hc
          · rw [hc]; exact hb
          · exact own hc
        rw [gk c hca]; exact q
      have JG : Inv X pins σ H ⟨G, g2, d2, t2, os'⟩ := I.call' (ch := []) os2 U hok3 bare2 fun b y => absurd y List.not_mem_nil
      refine ⟨a, _, _, ⟨G, g2, d2, t2, os'⟩, H, .ref C, none, rfl, JG, fun b o y => ?_, ge, hoe, ⟨rfl, rfl⟩, rfl, rfl, na, rfl, bare2, raises_own T.exC T.tyC, h⟩
      by_cases hb : b = a
      · rw [hb, ge] at y; cases y
      · exact (gk b hb).symm.trans y
/-- raise C(..): the fields' values in their order -/
def sRaise (c : Str) (ks : List Str) (ga : MA) : MS := fun G S => (ga G S).s G fun ds S1 => if ds.length = ks.length then .exc c (ks.zip ds).reverse G S1 else .bad
theorem FR.zip {K : PySem.W.Frag} {ρ : List Addr} {H : Hp} : ∀ {ks : List Str} {ds : List D} {vs : List V}, VRs K ρ H ds vs → FR K ρ H (ks.zip ds) (ks.zip vs)
  | [], ds, vs, h => .nil
  | k :: ks, [], vs, h => by rw [h.nil_l]; exact .nil
  | k :: ks, d :: ds, vs, h => by
    obtain ⟨v, r, rfl, h1, h2⟩ := h.cons_l
    exact .cons h1 (FR.zip h2)
theorem FR.rev {K : PySem.W.Frag} {ρ : List Addr} {H : Hp} {fs : List (Str × D)} {gs : List (Str × V)} (h : FR K ρ H fs gs) : FR K ρ H fs.reverse gs.reverse :=
  ⟨by rw [List.map_reverse, List.map_reverse, h.1], by rw [List.map_reverse, List.map_reverse]; exact h.2.reverse⟩
theorem ds_raise0 {c : Str} {p pos pos' : Pos} (h : Oke X.prog X.w X.K X.mg X.base c []) (hr : Room 2 X.A) (hc : X.calm = true) (tk : Takes X W) (hg : Gl X c) (hdb : (c == ("__debug__" : Str)) = false := by decide) :
    DS X W (.Raise (some (.Call (.Name c p) [] [] pos)) none pos') (sRaise c [] aNil) := by
  obtain ⟨C, f, fd, ps, hm, T, _, iC, tI, F, B⟩ := h
  refine PS.weak (ps_raise hc tk (pmk_e0 T iC tI F hr B hg hm hdb)) fun D σ H h => ?_
  obtain ⟨ρ, G, S, g, s, o⟩ := h
  exact o ρ H σ (.ref C) none (.refl _ _) s g ⟨C, hm, rfl, .inl ⟨rfl, rfl⟩⟩
theorem ds_raise {c : Str} {ks : List Str} {e : Expr} {es : List Expr} {ga : MA} {p pos pos' : Pos} (h : Oke X.prog X.w X.K X.mg X.base c ks) (hk : ks ≠ []) (hl : ks.length ≤ 1000) (hr : Room 2 X.A) (hc : X.calm = true) (tk : Takes X W) (hg : Gl X c) (ha : DA X W (e :: es) ga)
    (hdb : (c == ("__debug__" : Str)) = false := by decide) (he : starEach (e :: es) X.env = (false, eval e X.env) :: starEach es X.env := by rfl) (hpl : (backTo pos (starEach es X.env)).any (·.1) = false := by rfl) :
    DS X W (.Raise (some (.Call (.Name c p) (e :: es) [] pos)) none pos') (sRaise c ks ga) := by
  obtain ⟨C, f, fd, ps, hm, T, hn, iC, tI, F, B⟩ := h
  refine PS.weak (ps_raise hc tk (pmk_oex T iC tI F hr B .nil pass0 hg hm ha hdb he hpl)) fun D σ H h => ?_
  refine tG_mono (tS_bind (f := ga) (k := fun ds G S1 => if ds.length = ks.length then .exc c (ks.zip ds).reverse G S1 else .bad) (rel := rVs X) h) fun vs H1 q => ?_
  obtain ⟨ρ, G, S, ds, g, s, r, o⟩ := q
  split at o
  · rename_i l
    have lv : vs.length = ks.length := by rw [← r.length, l]
    refine ⟨by omega, fun a na => ⟨a, C, vs, by rw [List.append_nil], lv, T, hn, upd_same, fun z => absurd z hk, fun _ dx nd ne => ⟨rfl, dx, (ks.zip vs).reverse, upd_same, ?_, ?_, ?_⟩⟩⟩
    · rw [upd_ne ne, upd_same]
    · rw [upd_ne ne] at nd; exact nd
    · rw [upd_ne ne] at nd
      have e : upd (L2.del (upd (upd (upd H1 a (exo a C none)) dx (exd dx (ks.zip vs).reverse)) a (exo a C (some dx))) a) dx (.xd (ks.zip vs).reverse) = upd H1 dx (.xd (ks.zip vs).reverse) := by
        funext i
        by_cases c1 : i = dx
        · rw [c1, upd_same, upd_same]
        · rw [upd_ne c1, upd_ne c1]
          by_cases c2 : i = a
          · rw [c2, del_same, na]
          · rw [del_ne c2, upd_ne c2, upd_ne c1, upd_ne c2]
      rw [e]
      have x : Ext ρ H1 ρ (upd H1 dx (.xd (ks.zip vs).reverse)) := .junk nd
      exact o ρ _ σ (.ref C) (some dx) x (s.junk nd) (g.mono x) ⟨C, hm, rfl, .inr ⟨dx, _, rfl, upd_same, (FR.zip (r.mono x)).rev⟩⟩
  · exact o.elim
end
end Mir

namespace Mir
open PySem PySem.Calls
section
variable {prog : Program} {w : World} {A : Around} {E : Value → Shared → Prop} {s : Shared} {K : W.Frag} {x D : Addr} {ox : Obj} {od : Option Obj}
open PySem.W
theorem find_dataO {C : Addr} {nm : Str} {u v : Value} (c1 : (clsIn K C).isSome = true) (c2 : findIn K (.ref C) nm = some (some u)) (c3 : specialIn K u "__get__" = some (some v)) (c4 : takesIn K u = some true) : findObj K C od nm = some (.bind v u) := by
  obtain ⟨cd, h0⟩ := Option.isSome_iff_exists.mp c1
  unfold findObj
  simp only [h0, Option.bind_some, c2, c3, c4]
open L2 in
theorem err_class {Q : Option Value → Shared → Prop} (T : ExcC K D) (X : K.In s.heap) (I : InstAt s.heap x ox D od) (h : Q (some (.ref D)) { s with toks := s.toks + 1 }) : wpAny (model prog w) A (getAttr? (.ref x) "__class__") Q E s := by
  have hf : findObj K D od "__class__" = some (.bind (.builtin "getset_descriptor.__get__") (.builtin "object.__class__")) := find_dataO (by obtain ⟨cd, c0, _⟩ := any_some T.hd; rw [c0]; rfl) T.ha T.hn T.ht
  obtain ⟨hp, gg, dd, tt, oo⟩ := s
  have q0 := I.type (M := model prog w)
  have q1 := looks_findIn (M := model prog w) X T.hg
  have q2 := looks_findIn (M := model prog w) X T.hk
  have q3 := looks_find (M := model prog w) X I hf
  have q4 : Looks (model prog w) hp (isInstance (.ref x) (.type "BaseException")) true := q0.andThen (looks_subIn X T.hs)
  have b2 : (Value.builtin "BaseException.__getattribute__" == Value.builtin "object.__getattribute__") = false := by decide +kernel
  have b1 : (onTheHeap (Value.ref D) && Value.builtin "BaseException.__getattribute__" == Value.builtin "object.__getattribute__") = false := by rw [b2]; rfl
  have b0 : (false && onTheHeap (Value.builtin "BaseException.__getattribute__")) = false := rfl
  unfold getAttr? getAttrBy? getAttrBy
  refine wpAny_bind (wpAny_mkText (wpAny_bind (wpAny_attempt (wpAny_holding (wpAny_bind (q0.at (wpAny_bind (q1.at ?_))))))))
  show wpAny _ _ (if (onTheHeap (Value.ref D) && Value.builtin "BaseException.__getattribute__" == Value.builtin "object.__getattribute__") = true then _ else _) _ _ _
  rw [b1, if_neg Bool.false_ne_true]
  unfold getAttrByItsOwn hookBefore
  refine wpAny_bind ?_
  rw [if_pos (show onTheHeap (Value.ref D) = true from rfl)]
  refine q2.at (wpAny_bind (wpAny_attempt (wpAny_holding ?_)))
  unfold callGetattribute; rw [b0, if_neg Bool.false_ne_true]
  unfold boundAndCalled; rw [PySem.F.excAttr_ValueError.ga.bind (.ref x)]
  refine wpAny_bind (wpAny_pure ?_)
  show wpAny _ _ (call (.builtin "BaseException.__getattribute__") [.ref x, .str "__class__" tt]) _ _ _
  refine wpAny_call (codeAny_call_builtin PySem.F.excAttr_ValueError.ga.plain PySem.F.entry_bexc_ga ?_)
  refine @check_slot (model prog w) _ _ ⟨hp, gg, dd, tt + 1, oo⟩ "BaseException.__getattribute__" "BaseException" "__getattribute__" (.ref x) [.str "__class__" tt] [] _ (by decide +kernel) (by decide +kernel) q4 (PySem.F.args_bexc_ga (.ref x) (.str "__class__" tt)) ?_
  unfold Builtin.«object.__getattribute__»
  refine wpAny_bind (wpAny_of_eq (a := ((Value.ref x : Value), [Value.str "__class__" tt])) (by first | rfl | (simp only [slotArgs]; rfl)) ?_)
  refine wpAny_bind (wpAny_pure (wpAny_bind (q0.at (wpAny_bind (q3.at ?_)))))
  show wpAny _ _ (holding [Value.builtin "object.__class__"] (call (.builtin "getset_descriptor.__get__") [.builtin "object.__class__", .ref x, .ref D]) >>= ret) _ _ _
  refine wpAny_bind (wpAny_holding (wpAny_call (class_get (s := ⟨hp, gg, dd, tt + 1, oo⟩) X I T.hm ?_)))
  refine wpAny_pure ?_
  show wpAny _ _ (handedOut (.ref D)) _ _ _
  rw [handedOut_of (v := .ref D) rfl]
  first
    | exact wpAny_pure (wpAny_pure h)
    | exact wpAny_pure h
    | exact wpAny_pure (wpAny_bind (wpAny_pure (wpAny_pure h)))
open L2 in
theorem err_kit (T : ExcC K D) : KitX K (.ref x) (.ref D) (fun h => InstAt h x ox D od) where
  ty := fun _ _ _ I => I.type
  it := fun M h X _ => by
    obtain ⟨cd, c0, _⟩ := any_some T.hd
    unfold clsIn at c0
    split at c0
    · rename_i ho
      intro A' Q' E' s' k q
      unfold isType loadHead
      exact wpAny_bind (wpAny_loadPart (k _ _ (X _ _ ho)) (wpAny_pure q))
    · cases c0
  ne := fun h tp dd its n sl X htp => Bool.eq_false_iff.mpr fun q => by
    obtain ⟨cd, c0, _⟩ := any_some T.hd
    have e : D = tp := Value.ref.inj (beq_iff_eq.mp q)
    unfold clsIn at c0
    split at c0
    · rename_i ho
      rw [e] at ho
      have z := (X _ _ ho).symm.trans htp
      cases z
    · cases c0
  ca := fun X I k => err_class T X I k
end
end Mir
namespace Mir
open PySem L2 PyProof.Rows
/-- isinstance(e, c), e the error that the suite holds, with its fields or without -/
theorem call_isX {X : Cx} {a D : Addr} {oe : Obj} {dx : Option Addr} {pn : List (Addr × Obj)} (T : ExcC X.K D) (hz : Zc (.ref D) dx oe) (hf : ∃ vs, oe.data = .fields vs) :
    CallR (X.suite a ((a, oe) :: pn)) (.builtin "isinstance") (fun xs H Q => ∃ (c : V) (cv : Value) (b : Bool), xs = [.ref a, c] ∧ (∀ u, RelV c u → u = cv) ∧ PySem.W.kitOne X.K (.ref D) cv = some b ∧ (∀ d, dx = some d → ∃ gs, H d = some (.xd gs)) ∧ Q (.bl b) H) := by
  intro pins s σ H xs us Q I r h
  obtain ⟨c, cv, b, rfl, hcv, e, hx, q⟩ := h
  match us, r with
  | _, .cons (rx : _ = _) (.cons rt .nil) =>
    subst rx
    have ec := hcv _ rt
    subst ec
    obtain ⟨hget, _⟩ := I.pin (a, oe) (List.mem_append.mpr (.inl List.mem_cons_self))
    obtain ⟨vs, hv⟩ := hf
    obtain ⟨od, J⟩ : ∃ od, PySem.W.InstAt s.heap a oe D od := by
      obtain ⟨oc, odx, oda, osl⟩ := oe
      obtain ⟨h1, h2⟩ := hz
      dsimp only at h1 h2 hv
      subst h1 h2 hv
      cases odx with
      | none => exact ⟨none, hget, rfl, rfl, trivial⟩
      | some d =>
        obtain ⟨gs, hd⟩ := hx d rfl
        have ok : ObjOk X.prog X.w H s.heap d (.xd gs) := I.hok d _ hd
        obtain ⟨mA, ⟨o, es, ep, ho, _⟩, _⟩ := ok
        exact ⟨some o, hget, rfl, rfl, ho⟩
    exact PySem.W.kia_one (err_kit T) I.kIn J e (fun z => nomatch z) fun tk => ⟨.bl b, H, I.kept (t' := tk) fun _ _ z => z, rfl, q⟩
theorem kit_self {K : PySem.W.Frag} {C : Addr} : PySem.W.kitOne K (.ref C) (.ref C) = some true := by
  unfold PySem.W.kitOne
  rw [if_pos (by simp)]
end Mir

namespace Mir
open PySem L2 PyProof.Rows
/-! ### try: body except W as e: suite -/
theorem GR.hole {K : PySem.W.Frag} {ρ : List Addr} {H : Hp} {G : GE} {σ : L2.St} (g : GR K ρ H G σ) (i : Nat) (x : Option V) : GR K ρ H (G.set i none) (σ.set i x) := by
  refine ⟨by simp [g.len], fun j d h => ?_⟩
  by_cases hj : i = j
  · subst hj
    by_cases hi : i < G.length
    · rw [List.getElem?_set_self hi] at h; cases h
    · rw [List.getElem?_eq_none (by rw [List.length_set]; omega)] at h; cases h
  · rw [List.getElem?_set_ne hj] at h ⊢
    exact g.get j d h
/-- a suite of the mirror: by the error's class and fields -/
abbrev MX := Str → List (Str × D) → MS
def RS.wipe (i : Nat) : RS → RS
  | .nx G S => .nx (G.set i none) S
  | .bk G S => .bk (G.set i none) S
  | .ct G S => .ct (G.set i none) S
  | .exc _ _ _ _ => .bad
  | r => r
def sTry (i : Nat) (cs cn : List Str) (body : MS) (suite : MX) : MS := fun G S => match body G S with
  | .exc c fs G' S' => if c ∈ cs then (if i < G'.length then (suite c fs (G'.set i none) S').wipe i else .bad) else if c ∈ cn then .exc c fs G' S' else .bad
  | r => r
/-- what an error of the class cs is in an except suite, at a, with its class cls and dict d -/
structure SuX (X : Cx) (i : Nat) (cs : List Str) (a : Addr) (cls : Value) (d : Option Addr) (σ : L2.St) (ρ : List Addr) (H : Hp) (c : Str) (fs : List (Str × D)) : Prop where
  mem : c ∈ cs
  ex : ExR X.K X.mg ρ H c fs cls d
  at_ : σ[i]? = some (some (.ref a))
def tSu (X : Cx) (i : Nat) (cs : List Str) (f : MX) (a : Addr) (cls : Value) (d : Option Addr) : TS := fun D σ H => ∃ ρ G S c fs, SuX X i cs a cls d σ ρ H c fs ∧ GR X.K ρ H G σ ∧ Sim X.K X.mg ρ S H ∧ OutS X W0 ρ H (f c fs G S) D
def DSu (X : Cx) (i : Nat) (cs : List Str) (st : List Stmt) (f : MX) : Prop :=
  ∀ (a : Addr) (oe : Obj) (cls : Value) (d : Option Addr) (pn : List (Addr × Obj)), Zc cls d oe → (∃ vs, oe.data = .fields vs) → PSs (X.suite a ((a, oe) :: pn)) st (tSu X i cs f a cls d)
def DSu1 (X : Cx) (i : Nat) (cs : List Str) (st : Stmt) (f : MX) : Prop :=
  ∀ (a : Addr) (oe : Obj) (cls : Value) (d : Option Addr) (pn : List (Addr × Obj)), Zc cls d oe → (∃ vs, oe.data = .fields vs) → PS (X.suite a ((a, oe) :: pn)) st (tSu X i cs f a cls d)
/-- which classes the clause takes -/
def ExcM (K : PySem.W.Frag) (mg : Str → Option Value) (w : Value) (cs cn : List Str) : Prop :=
  (∀ c ∈ cs, ∀ C, mg c = some (.ref C) → PySem.W.exmOne K (.ref C) w = some true) ∧ ∀ c ∈ cn, ∀ C, mg c = some (.ref C) → PySem.W.exmOne K (.ref C) w = some false
section
variable {X : Cx} {W : WX} {i : Nat} {cs cn : List Str} {x n : Str} {B : Addr} {body suite : List Stmt} {b0 : Stmt} {np pos pos' : Pos} {fb : MS} {fs : MX}
/-- what the end of a suite leaves -/
theorem su_end {ρ : List Addr} {H : Hp} {r : RS} {D : Ends} (o : OutS X W ρ H (r.wipe i) D) : OutS X W0 ρ H r { nx := fun σ H => D.nx (σ.set i none) H, rt := D.rt, bk := fun σ H => D.bk (σ.set i none) H, ct := fun σ H => D.ct (σ.set i none) H } := by
  cases r with
  | nx G S => exact fun ρ' H' σ' x s g => o ρ' H' _ x s (g.hole i none)
  | bk G S => exact fun ρ' H' σ' x s g => o ρ' H' _ x s (g.hole i none)
  | ct G S => exact fun ρ' H' σ' x s g => o ρ' H' _ x s (g.hole i none)
  | rt d S => exact o
  | exc c fs G S => exact o.elim
  | bad => exact o.elim
theorem try_wish {w : Value} {ρ : List Addr} {G : GE} {S : ST} {H : Hp} {D : Ends} (hm : ExcM X.K X.mg w cs cn) (o : OutS X W ρ H (sTry i cs cn fb fs G S) D) :
    OutS X (wAs X.K w i (tSu X i cs fs) W D) ρ H (fb G S) D := by
  unfold sTry at o
  cases e : fb G S with
  | nx G' S' => rw [e] at o; exact o
  | bk G' S' => rw [e] at o; exact o
  | ct G' S' => rw [e] at o; exact o
  | rt d S' => rw [e] at o; exact o
  | bad => rw [e] at o; exact o
  | exc c gs G' S' =>
    rw [e] at o
    dsimp only at o
    intro ρ' H' σ' cls dx xx s g ex
    obtain ⟨C, hC, rfl, hf⟩ := id ex
    by_cases hc : c ∈ cs
    · rw [if_pos hc] at o
      refine ⟨true, hm.1 c hc C hC, fun _ a na => ?_, fun z => nomatch z⟩
      split at o
      · rename_i hi
        have hi' : i < σ'.length := by rw [← g.len]; exact hi
        exact ⟨ρ', G'.set i none, S', c, gs, ⟨hc, ex, List.getElem?_set_self hi'⟩, g.hole i _, s, su_end (W := W) (o.mono xx)⟩
      · exact o.elim
    · rw [if_neg hc] at o
      split at o
      · rename_i h2
        exact ⟨false, hm.2 c h2 C hC, fun z => Bool.noConfusion z, fun _ => o ρ' H' σ' (.ref C) dx xx s g ex⟩
      · exact o.elim
theorem ds_try (hs : X.stack = X.env :: X.outer) (hf : X.env.frame = some X.env.locals) (hN : X.N.Nodup) (hi : X.N[i]? = some n) (hln : X.env.kindOf n = some .local) (hg : Gl X x) (hw : X.mg x = some (.ref B)) (tk : Takes X W) (hm : ExcM X.K X.mg (.ref B) cs cn)
    (hb : ∀ (W' : WX) (pn : List (Addr × Obj)) (xe : Value → Shared → Prop), Takes (X.tr pn xe) W' → PassesOwn (model X.prog X.w) X.A X.env xe → DSs (X.tr pn xe) W' body fb) (hsu : DSu X i cs (b0 :: suite) fs) (hdb : (x == ("__debug__" : Str)) = false := by decide) :
    DS X W (.Try body [.ExceptHandler (some (.Name x np)) (some n) (b0 :: suite) pos'] [] [] pos) (sTry i cs cn fb fs) :=
  PS.weak (ps_try_as hs hf hN hi hln ⟨hg, hdb, .inl hw⟩ tk (tb := fun W' => tS X W' fb) (fun W' pn xe t p => hb W' pn xe t p) hsu) fun D σ H h => by
    obtain ⟨ρ, G, S, g, s, o⟩ := h
    exact ⟨ρ, G, S, g, s, try_wish hm o⟩
/-! .. without a name -/
def sTryN (cs cn : List Str) (body : MS) (suite : MS) : MS := fun G S => match body G S with
  | .exc c fs G' S' => if c ∈ cs then (match suite G' S' with | .exc _ _ _ _ => .bad | r => r) else if c ∈ cn then .exc c fs G' S' else .bad
  | r => r
theorem tryN_wish {w : Value} {f : MS} {ρ : List Addr} {G : GE} {S : ST} {H : Hp} {D : Ends} (hm : ExcM X.K X.mg w cs cn) (o : OutS X W ρ H (sTryN cs cn fb f G S) D) :
    OutS X (wOnly X.K w (fun _ _ _ => tS X W0 f) W D) ρ H (fb G S) D := by
  unfold sTryN at o
  cases e : fb G S with
  | nx G' S' => rw [e] at o; exact o
  | bk G' S' => rw [e] at o; exact o
  | ct G' S' => rw [e] at o; exact o
  | rt d S' => rw [e] at o; exact o
  | bad => rw [e] at o; exact o
  | exc c gs G' S' =>
    rw [e] at o
    dsimp only at o
    intro ρ' H' σ' cls dx xx s g ex
    obtain ⟨C, hC, rfl, hf⟩ := id ex
    by_cases hc : c ∈ cs
    · rw [if_pos hc] at o
      refine ⟨true, hm.1 c hc C hC, fun _ a na => ⟨ρ', G', S', g, s, ?_⟩, fun z => nomatch z⟩
      cases q : f G' S' with
      | exc c2 fs2 G2 S2 => rw [q] at o; exact o.elim
      | nx G2 S2 => rw [q] at o; exact OutS.mono (r := .nx G2 S2) o xx
      | bk G2 S2 => rw [q] at o; exact OutS.mono (r := .bk G2 S2) o xx
      | ct G2 S2 => rw [q] at o; exact OutS.mono (r := .ct G2 S2) o xx
      | rt d S2 => rw [q] at o; exact OutS.mono (r := .rt d S2) o xx
      | bad => rw [q] at o; exact o.elim
    · rw [if_neg hc] at o
      split at o
      · rename_i h2
        exact ⟨false, hm.2 c h2 C hC, fun z => Bool.noConfusion z, fun _ => o ρ' H' σ' (.ref C) dx xx s g ex⟩
      · exact o.elim
theorem ds_tryN {f : MS} (hs : X.stack = X.env :: X.outer) (hf : X.env.frame = some X.env.locals) (hg : Gl X x) (hw : X.mg x = some (.ref B)) (tk : Takes X W) (hm : ExcM X.K X.mg (.ref B) cs cn)
    (hb : ∀ (W' : WX) (pn : List (Addr × Obj)) (xe : Value → Shared → Prop), Takes (X.tr pn xe) W' → PassesOwn (model X.prog X.w) X.A X.env xe → DSs (X.tr pn xe) W' body fb)
    (hsu : ∀ (a : Addr) (oe : Obj) (pn : List (Addr × Obj)), DSs (X.suite a ((a, oe) :: pn)) W0 (b0 :: suite) f) (hdb : (x == ("__debug__" : Str)) = false := by decide) :
    DS X W (.Try body [.ExceptHandler (some (.Name x np)) none (b0 :: suite) pos'] [] [] pos) (sTryN cs cn fb f) :=
  PS.weak (ps_try_only hs hf ⟨hg, hdb, .inl hw⟩ tk (tb := fun W' => tS X W' fb) (fun W' pn xe t p => hb W' pn xe t p) (fun a oe cls d pn _ _ => hsu a oe pn)) fun D σ H h => by
    obtain ⟨ρ, G, S, g, s, o⟩ := h
    exact ⟨ρ, G, S, g, s, tryN_wish hm o⟩
end
/-! ### the words of an except suite -/
/-- a value that is read off the error or written -/
abbrev MVx := Str → List (Str × D) → Option D
def tVu (X : Cx) (i : Nat) (cs : List Str) (f : MVx) (a : Addr) (cls : Value) (d : Option Addr) : TE := fun σ H Q => ∃ ρ c fs x, SuX X i cs a cls d σ ρ H c fs ∧ f c fs = some x ∧ ∀ v, VR X.K ρ H x v → Q v H
def DVu (X : Cx) (i : Nat) (cs : List Str) (e : Expr) (f : MVx) : Prop :=
  ∀ (a : Addr) (oe : Obj) (cls : Value) (d : Option Addr) (pn : List (Addr × Obj)), Zc cls d oe → (∃ vs, oe.data = .fields vs) → PE (X.suite a ((a, oe) :: pn)) e (tVu X i cs f a cls d)
def tTu (X : Cx) (i : Nat) (cs : List Str) (b : Str → Bool) (a : Addr) (cls : Value) (d : Option Addr) : TT := fun σ H Q => ∃ ρ c fs, SuX X i cs a cls d σ ρ H c fs ∧ Q (b c) H
def DTu (X : Cx) (i : Nat) (cs : List Str) (e : Expr) (b : Str → Bool) : Prop :=
  ∀ (a : Addr) (oe : Obj) (cls : Value) (d : Option Addr) (pn : List (Addr × Obj)), Zc cls d oe → (∃ vs, oe.data = .fields vs) → PT (X.suite a ((a, oe) :: pn)) e (tTu X i cs b a cls d)
def tAu (X : Cx) (i : Nat) (cs : List Str) (f : Str → List (Str × D) → Option (List D)) (a : Addr) (cls : Value) (d : Option Addr) : TA := fun σ H Q => ∃ ρ c fs xs, SuX X i cs a cls d σ ρ H c fs ∧ f c fs = some xs ∧ ∀ vs, VRs X.K ρ H xs vs → Q vs H
def DAu (X : Cx) (i : Nat) (cs : List Str) (es : List Expr) (f : Str → List (Str × D) → Option (List D)) : Prop :=
  ∀ (a : Addr) (oe : Obj) (cls : Value) (d : Option Addr) (pn : List (Addr × Obj)), Zc cls d oe → (∃ vs, oe.data = .fields vs) → PA (X.suite a ((a, oe) :: pn)) es (tAu X i cs f a cls d)
/-- an error class whose fields may be read and that isinstance knows -/
def ErrF (K : PySem.W.Frag) (mg : Str → Option Value) (c : Str) (ks : List Str) : Prop := ∃ C, mg c = some (.ref C) ∧ XfC K C ∧ ExcC K C ∧ ∀ f ∈ ks, PySem.W.findIn K (.ref C) f = some none
/-- isinstance between the classes -/
def IsT (K : PySem.W.Frag) (mg : Str → Option Value) (tab : List (Str × Str × Bool)) : Prop := ∀ p ∈ tab, ∀ C D, mg p.1 = some (.ref C) → mg p.2.1 = some (.ref D) → PySem.W.kitOne K (.ref C) (.ref D) = some p.2.2
section
variable {X : Cx} {i : Nat} {cs : List Str} {e e1 e2 : Expr} {es : List Expr} {f g : MVx} {b : Str → Bool} {n : Str} {p pos pos2 pos3 : Pos}
theorem vu_str {x : Str} {j : Nat} : DVu X i cs (.Constant (.str x) j pos) (fun _ _ => some (.str x)) := fun a oe cls d pn hz hf =>
  PE.weak pe_str fun σ H Q h => by
    obtain ⟨ρ, c, fs, y, _, e, q⟩ := h
    cases e
    exact q _ (VR_str.mpr rfl)
theorem vu_e (hN : X.N[i]? = some n) (hv : Vis X.env.scope n) (hd : (n == ("__debug__" : Str)) = false) (hcd : (n == ("__classdict__" : Str)) = false) (a : Addr) (pn : List (Addr × Obj)) : PE (X.suite a pn) (.Name n p) (tVar i) := pe_var hN hv hd hcd
theorem vu_fld {k : Str} (hN : X.N[i]? = some n) (hv : Vis X.env.scope n) (hF : ∀ c ∈ cs, ErrF X.K X.mg c [k]) (hd : (n == ("__debug__" : Str)) = false := by decide) (hcd : (n == ("__classdict__" : Str)) = false := by decide)
    (hb : attributeBase (.Name n p) k X.env (eval (.Name n p) X.env) = eval (.Name n p) X.env := by rfl) : DVu X i cs (.Attribute (.Name n p) k pos) (fun _ fs => fs.lookup k) := fun a oe cls d pn hz hf => ⟨fun pins s σ H Q I h => by
  obtain ⟨ρ, c, fs, y, su, e, q⟩ := h
  obtain ⟨C, hm, ec, hx⟩ := su.ex
  obtain ⟨C', hm', xf, _, hn⟩ := hF c su.mem
  have eC : C' = C := by
    rw [hm] at hm'
    cases hm'
    rfl
  subst eC
  refine (pe_xf (C := C') (te := tVar i) xf (hn k (List.mem_singleton.mpr rfl)) hz hf (vu_e hN hv hd hcd a _) hb).run pins s σ H Q I ⟨.ref a, su.at_, rfl, ec, ?_⟩
  rcases hx with ⟨rfl, _⟩ | ⟨dd, gs, ed, hH, fr⟩
  · cases e
  · have e : fs.lookup k = some y := e
    have z := fr.lookup (f := k)
    rw [e] at z
    cases el : gs.lookup k with
    | none => rw [el] at z; exact z.elim
    | some v =>
      rw [el] at z
      exact ⟨dd, gs, v, ed, hH, el, q v z⟩⟩
theorem vu_if {t : Expr} (ht : DTu X i cs t b) (h1 : DVu X i cs e1 f) (h2 : DVu X i cs e2 g) : DVu X i cs (.IfExp t e1 e2 pos) (fun c fs => if b c = true then f c fs else g c fs) := fun a oe cls d pn hz hf =>
  PE.weak (pe_ifExp (ht a oe cls d pn hz hf) (h1 a oe cls d pn hz hf) (h2 a oe cls d pn hz hf)) fun σ H Q h => by
    obtain ⟨ρ, c, fs, y, su, e, q⟩ := h
    refine ⟨ρ, c, fs, su, ?_⟩
    dsimp only at e ⊢
    split at e
    · rename_i hb; rw [if_pos hb]; exact ⟨ρ, c, fs, y, su, e, q⟩
    · rename_i hb; rw [if_neg hb]; exact ⟨ρ, c, fs, y, su, e, q⟩
theorem tu_is {dn : Str} (hN : X.N[i]? = some n) (hv : Vis X.env.scope n) (hF : ∀ c ∈ cs, ErrF X.K X.mg c []) (hD0 : ∃ D : Addr, X.mg dn = some (.ref D)) (hgD : Gl X dn) (hg : Gl X "isinstance") (hm : X.mg "isinstance" = none) (tab : List (Str × Str × Bool)) (hT : IsT X.K X.mg tab)
    (hb : ∀ c ∈ cs, (c, dn, b c) ∈ tab) (hd : (n == ("__debug__" : Str)) = false := by decide) (hcd : (n == ("__classdict__" : Str)) = false := by decide) (hdd : (dn == ("__debug__" : Str)) = false := by decide)
    (hpt : ∀ (a : Addr) (pn : List (Addr × Obj)), ∀ whole, isTrue (.Call (.Name "isinstance" p) [.Name n pos, .Name dn pos2] [] pos3) (X.suite a pn).env whole = (do let v ← whole; standAt (Expr.Call (.Name "isinstance" p) [.Name n pos, .Name dn pos2] [] pos3).pos; holding [v] (truthy v)) := by intro _ _ _; rfl)
    (he : starEach [.Name n pos, .Name dn pos2] X.env = (false, eval (.Name n pos) X.env) :: starEach [.Name dn pos2] X.env := by rfl) (he2 : starEach [.Name dn pos2] X.env = (false, eval (.Name dn pos2) X.env) :: starEach [] X.env := by rfl)
    (hpl : (backTo pos3 (starEach [.Name dn pos2] X.env)).any (·.1) = false := by rfl) :
    DTu X i cs (.Call (.Name "isinstance" p) [.Name n pos, .Name dn pos2] [] pos3) b := fun a oe cls d pn hz hf => ⟨fun pins s σ H Q I h => by
  obtain ⟨D, hD⟩ := hD0
  obtain ⟨ρ, c, fs, su, q⟩ := h
  obtain ⟨C, hC, ec, hx⟩ := su.ex
  subst ec
  obtain ⟨C', hm', _, xc, _⟩ := hF c su.mem
  have eC : C' = C := by
    rw [hC] at hm'
    cases hm'
    rfl
  subst eC
  have ha : PA (X.suite a ((a, oe) :: pn)) [.Name n pos, .Name dn pos2] (tCons (tVar i) (tCons (tC (.ref D)) tNil)) := pa_cons (vu_e hN hv hd hcd a _) (pa_cons (pe_glob hgD hD rfl hdd) pa_nil he2) he
  refine (pt_truth (pe_callB (call_isX xc hz hf) hg hm bb_isinstance ha (by decide) (by decide) he hpl) (hpt a _)).run pins s σ H Q I ?_
  refine ⟨.ref a, su.at_, .ref D, .ref D, b c, rfl, fun u hu => hu, hT _ (hb c su.mem) C' D hC hD, fun dd ed => ?_, b c, rfl, q⟩
  rcases hx with ⟨_, e0⟩ | ⟨dd', gs, ed', hH, _⟩
  · rw [e0] at ed; cases ed
  · rw [ed'] at ed; cases ed; exact ⟨gs, hH⟩⟩
theorem tu_not {t : Expr} (h : DTu X i cs t b) : DTu X i cs (.UnaryOp .Not t pos) (fun c => !b c) := fun a oe cls d pn hz hf => ⟨fun pins s σ H Q I q => (pt_not (h a oe cls d pn hz hf)).run pins s σ H Q I q⟩
theorem au_nil : DAu X i cs [] (fun _ _ => some []) := fun a oe cls d pn hz hf => ⟨fun pos pins s σ H Q I h => pa_nil.run pos pins s σ H Q I (by
  obtain ⟨ρ, c, fs, xs, _, e, q⟩ := h
  cases e
  exact q [] .nil)⟩
theorem au_cons {fa : Str → List (Str × D) → Option (List D)} (h : DVu X i cs e f) (ha : DAu X i cs es fa) (hs : starEach (e :: es) X.env = (false, eval e X.env) :: starEach es X.env := by rfl) :
    DAu X i cs (e :: es) (fun c fs => (f c fs).bind fun x => (fa c fs).map fun xs => x :: xs) := fun a oe cls d pn hz hf => ⟨fun pos pins s σ H Q I z => by
  refine (pa_cons (h a oe cls d pn hz hf) (ha a oe cls d pn hz hf) hs).run pos pins s σ H Q I ?_
  obtain ⟨ρ, c, fs, xs, su, e, q⟩ := z
  obtain ⟨x, e1, e2⟩ := Option.bind_eq_some_iff.mp e
  obtain ⟨ys, e3, rfl⟩ := Option.map_eq_some_iff.mp e2
  exact ⟨ρ, c, fs, x, su, e1, fun v rv => ⟨ρ, c, fs, ys, su, e3, fun vs rs => q _ (.cons rv rs)⟩⟩⟩
/-! statements -/
def xRet (f : MVx) : MX := fun c fs _ S => match f c fs with | some d => .rt d S | none => .bad
theorem su_ret (h : DVu X i cs e f) : DSu1 X i cs (.Return (some e) pos) (xRet f) := fun a oe cls d pn hz hf => PS.weak (ps_ret (h a oe cls d pn hz hf)) fun D σ H z => by
  obtain ⟨ρ, G, S, c, fs, su, g, s, o⟩ := z
  unfold xRet at o
  split at o
  · rename_i x hx
    exact ⟨ρ, c, fs, x, su, hx, fun v rv => o ρ H v (.refl _ _) s rv⟩
  · exact o.elim
def xRetT (fa : Str → List (Str × D) → Option (List D)) : MX := fun c fs _ S => match fa c fs with | some ds => if ds.length ≤ SZ then .rt (.tup ds) S else .bad | none => .bad
theorem su_retT {k : Nat} {fa : Str → List (Str × D) → Option (List D)} (h : DAu X i cs es fa) : DSu1 X i cs (.Return (some (.Tuple es k pos)) pos2) (xRetT fa) := fun a oe cls d pn hz hf => PS.weak (ps_ret (pe_tup (h a oe cls d pn hz hf))) fun D σ H z => by
  obtain ⟨ρ, G, S, c, fs, su, g, s, o⟩ := z
  unfold xRetT at o
  split at o
  · rename_i ds hds
    split at o
    · rename_i hl
      refine ⟨ρ, c, fs, ds, su, hds, fun vs rs => ⟨?_, fun q nq => ?_⟩⟩
      · rw [← rs.length, sizeLine_eq]; exact hl
      · have x : Ext ρ H ρ (upd H q (.tup vs)) := .junk nq
        exact o ρ _ _ x (s.junk nq) (VR_tup.mpr ⟨q, vs, rfl, .inl (.inl upd_same), rs.mono x⟩)
    · exact o.elim
  · exact o.elim
def xIf (b : Str → Bool) (f g : MX) : MX := fun c fs => if b c = true then f c fs else g c fs
theorem su_if {t : Expr} {p1 p2 : List Stmt} {f g : MX} (ht : DTu X i cs t b) (h1 : DSu X i cs p1 f) (h2 : DSu X i cs p2 g) : DSu1 X i cs (.If t p1 p2 pos) (xIf b f g) := fun a oe cls d pn hz hf =>
  PS.weak (ps_if (ht a oe cls d pn hz hf) (h1 a oe cls d pn hz hf) (h2 a oe cls d pn hz hf)) fun D σ H z => by
    obtain ⟨ρ, G, S, c, fs, su, gr, s, o⟩ := z
    refine ⟨ρ, c, fs, su, ?_⟩
    unfold xIf at o
    split at o
    · rename_i hb; rw [if_pos hb]; exact ⟨ρ, G, S, c, fs, su, gr, s, o⟩
    · rename_i hb; rw [if_neg hb]; exact ⟨ρ, G, S, c, fs, su, gr, s, o⟩
theorem su_nil : DSu X i cs [] (fun _ _ => sNil) := fun a oe cls d pn hz hf => PSs.weak pss_nil fun D σ H z => by
  obtain ⟨ρ, G, S, c, fs, su, gr, s, o⟩ := z
  exact outS_nx gr s o
theorem su_one {st : Stmt} {f : MX} (h : DSu1 X i cs st f) : DSu X i cs [st] f := fun a oe cls d pn hz hf => pss_one (h a oe cls d pn hz hf)
/-- if: .. that returns, and the rest -/
theorem su_ifs {t : Expr} {p1 rest : List Stmt} {f : MVx} {g : MX} (ht : DTu X i cs t b) (h1 : DVu X i cs e f) (h2 : DSu X i cs rest g) : DSu X i cs (.If t [.Return (some e) pos2] [] pos :: rest) (xIf b (xRet f) g) := fun a oe cls d pn hz hf =>
  PSs.weak (pss_cons (ps_if (ht a oe cls d pn hz hf) (pss_one (su_ret h1 a oe cls d pn hz hf)) pss_nil) (h2 a oe cls d pn hz hf)) fun D σ H z => by
    obtain ⟨ρ, G, S, c, fs, su, gr, s, o⟩ := z
    refine ⟨ρ, c, fs, su, ?_⟩
    unfold xIf at o
    split at o
    · rename_i hb; rw [if_pos hb]
      refine ⟨ρ, G, S, c, fs, su, gr, s, ?_⟩
      unfold xRet at o ⊢
      split at o
      · exact o
      · exact o.elim
    · rename_i hb; rw [if_neg hb]; exact ⟨ρ, G, S, c, fs, su, gr, s, o⟩
end
end Mir
namespace Mir
open PySem L2 PyProof.Rows
/-! ### defs that may raise; the rules as the generator prints them -/
section
variable {P : Program} {w : World} {K : PySem.W.Frag} {mg : Str → Option Value} {base : Heap} {x qual : Str} {st : Stmt} {N ps : List Str} {l n k : Nat} {body : MS}
theorem okd1 (Dx : DefAt K mg x qual st ps) (Sc : FnScope N ps (defScope st)) (hN : N.length = n + k) (hp : ps.length = n)
    (hb : ∀ (f : Addr) (cdv : Value) (A : Around) (outer : List Env) (s : Shared) (H : Hp) (E : XK), Room l (A.deeper (envOfC qual (defScope st) s.heap.objs.size f cdv)) →
      DSs (cxOf (L2.CX P w) P w K mg base N qual (defScope st) f cdv A outer s H E) (fun c d _ H => E c d H) (defBody st) body) : Okd P w K mg base (L2.CX P w) (l + 1) x n (mkFn n k body) := by
  obtain ⟨f, fd, F, b, m⟩ := Dx
  exact ⟨f, fd, ps, fnX F Sc hN hp (hb f), F.kp, b, m⟩
theorem okm1 {c : Str} (Dx : MethAt K mg c x qual st ps) (Sc : FnScope N ps (defScope st)) (hN : N.length = n + k) (hp : ps.length = n)
    (hb : ∀ (f : Addr) (cdv : Value) (A : Around) (outer : List Env) (s : Shared) (H : Hp) (E : XK), Room l (A.deeper (envOfC qual (defScope st) s.heap.objs.size f cdv)) →
      DSs (cxOf (L2.CX P w) P w K mg base N qual (defScope st) f cdv A outer s H E) (fun c d _ H => E c d H) (defBody st) body) : Okm P w K mg base (L2.CX P w) (l + 1) c x n (mkFn n k body) := by
  obtain ⟨C, f, fd, hm, kc, km, F, b⟩ := Dx
  exact ⟨C, f, fd, ps, hm, kc, km, fnX F Sc hN hp (hb f), b⟩
end
def TryAt (K : PySem.W.Frag) (mg : Str → Option Value) (x : Str) (cs : List Str) : Prop := ∃ B, mg x = some (.ref B) ∧ ExcM K mg (.ref B) cs []
section
variable {X : Cx} {W : WX} {i : Nat} {cs : List Str} {x n : Str} {body suite : List Stmt} {b0 : Stmt} {np pos pos' : Pos} {fb : MS} {fs : MX} {f : MS}
theorem ds_tryE (hT : TryAt X.K X.mg x cs) (hs : X.stack = X.env :: X.outer) (hf : X.env.frame = some X.env.locals) (hN : X.N.Nodup) (hi : X.N[i]? = some n) (hln : X.env.kindOf n = some .local) (hg : Gl X x)
    (hb : ∀ (W' : WX) (pn : List (Addr × Obj)) (xe : Value → Shared → Prop), Takes (X.tr pn xe) W' → PassesOwn (model X.prog X.w) X.A X.env xe → DSs (X.tr pn xe) W' body fb) (hsu : DSu X i cs (b0 :: suite) fs) (hdb : (x == ("__debug__" : Str)) = false := by decide) :
    DS X W (.Try body [.ExceptHandler (some (.Name x np)) (some n) (b0 :: suite) pos'] [] [] pos) (sTry i cs [] fb fs) := by
  obtain ⟨B, hw, hm⟩ := hT
  refine PS.weak (ds_try (W := W0) hs hf hN hi hln hg hw takes0 hm hb hsu hdb) fun D σ H h => ?_
  obtain ⟨ρ, G, S, g, s, o⟩ := h
  refine ⟨ρ, G, S, g, s, ?_⟩
  have ne : ∀ c fs2 G2 S2, sTry i cs [] fb fs G S ≠ .exc c fs2 G2 S2 := fun c fs2 G2 S2 e => by
    unfold sTry at e
    split at e
    · split at e
      · split at e
        · rename_i c1 fs1 G1 S1 _ _ _
          cases q : fs c1 fs1 (G1.set i none) S1 <;> rw [q] at e <;> cases e
        · cases e
      · rw [if_neg List.not_mem_nil] at e; cases e
    · rename_i h0
      exact h0 _ _ _ _ e
  revert o ne
  cases sTry i cs [] fb fs G S with
  | exc c fs2 G2 S2 => exact fun _ ne => absurd rfl (ne c fs2 G2 S2)
  | nx G2 S2 => exact fun o _ => o
  | rt d S2 => exact fun o _ => o
  | bk G2 S2 => exact fun o _ => o
  | ct G2 S2 => exact fun o _ => o
  | bad => exact fun o _ => o
theorem ds_tryNE (hT : TryAt X.K X.mg x cs) (hs : X.stack = X.env :: X.outer) (hf : X.env.frame = some X.env.locals) (hg : Gl X x)
    (hb : ∀ (W' : WX) (pn : List (Addr × Obj)) (xe : Value → Shared → Prop), Takes (X.tr pn xe) W' → PassesOwn (model X.prog X.w) X.A X.env xe → DSs (X.tr pn xe) W' body fb)
    (hsu : ∀ (a : Addr) (oe : Obj) (pn : List (Addr × Obj)), DSs (X.suite a ((a, oe) :: pn)) W0 (b0 :: suite) f) (hdb : (x == ("__debug__" : Str)) = false := by decide) :
    DS X W (.Try body [.ExceptHandler (some (.Name x np)) none (b0 :: suite) pos'] [] [] pos) (sTryN cs [] fb f) := by
  obtain ⟨B, hw, hm⟩ := hT
  refine PS.weak (ds_tryN (W := W0) hs hf hg hw takes0 hm hb hsu hdb) fun D σ H h => ?_
  obtain ⟨ρ, G, S, g, s, o⟩ := h
  refine ⟨ρ, G, S, g, s, ?_⟩
  have ne : ∀ c fs2 G2 S2, sTryN cs [] fb f G S ≠ .exc c fs2 G2 S2 := fun c fs2 G2 S2 e => by
    unfold sTryN at e
    split at e
    · split at e
      · split at e
        · cases e
        · rename_i h0
          exact h0 _ _ _ _ e
      · rw [if_neg List.not_mem_nil] at e; cases e
    · rename_i h0
      exact h0 _ _ _ _ e
  revert o ne
  cases sTryN cs [] fb f G S with
  | exc c fs2 G2 S2 => exact fun _ ne => absurd rfl (ne c fs2 G2 S2)
  | nx G2 S2 => exact fun o _ => o
  | rt d S2 => exact fun o _ => o
  | bk G2 S2 => exact fun o _ => o
  | ct G2 S2 => exact fun o _ => o
  | bad => exact fun o _ => o
/-! errors without an own __init__ -/
/-- an error class over Exception that adds nothing -/
def OkeN (K : PySem.W.Frag) (mg : Str → Option Value) (c : Str) : Prop := ∃ C, mg c = some (.ref C) ∧ PySem.W.excIn K C [.type "Exception", .type "BaseException", .type "object"] "Exception.__new__" = true ∧ PySem.W.keepIn K (.ref C) = true ∧
  PySem.W.subIn K (.ref C) (.type "BaseException") = some true ∧ PySem.W.typeIn K (.ref C) = some (.type "type")
theorem pmk_n0 {c : Str} {C : Addr} {bmB : List Value} {B newId initId : String} {p pos : Pos} (F : ExcBaseFacts B newId initId bmB) (q : PySem.W.excIn X.K C bmB newId = true) (gC : X.mg c = some (.ref C)) (kC : PySem.W.keepIn X.K (.ref C) = true) (r : Raises X (.ref C)) (hg : Gl X c)
    (hdb : (c == ("__debug__" : Str)) = false := by decide) : PMk X (.Call (.Name c p) [] [] pos) (fun _ H Q => Q (.ref C) none H) := fun pins s σ H Q I h => by
  refine wpAny_Call_Name_kw (ld_glob I hg gC (PySem.W.callWith_K0 I.kIn kC ?_) hdb)
  show wpAny _ _ (call (.ref C) []) _ _ _
  obtain ⟨bm, N, nm, qn, bs, hdct, sn, sub, ab, col, dd, k0, k1, k2, k3, k5, mN, hC, hN, hni, T⟩ := exc_obj I.kIn q
  exact wpAny_call_exc_subT F T hC hN hni (fun h' e hm => mk_of I hm r h (I.hok.gone hm.new)) (by rw [sizeLine_eq]; simp)
theorem ds_raiseN {c : Str} {p : Pos} (h : OkeN X.K X.mg c) (hc : X.calm = true) (tk : Takes X W) (hg : Gl X c) (hdb : (c == ("__debug__" : Str)) = false := by decide) :
    DS X W (.Raise (some (.Call (.Name c p) [] [] pos)) none pos') (sRaise c [] aNil) := by
  obtain ⟨C, hm, q, kC, h1, h2⟩ := h
  refine PS.weak (ps_raise hc tk (pmk_n0 PySem.F.excBase_Exception q hm kC (raises_own h1 h2) hg hdb)) fun D σ H h => ?_
  obtain ⟨ρ, G, S, g, s, o⟩ := h
  exact o ρ H σ (.ref C) none (.refl _ _) s g ⟨C, hm, rfl, .inl ⟨rfl, rfl⟩⟩
end
end Mir

namespace Mir
open PySem L2 PyProof.Rows
/-! ### a dict of the module with text keys, never changed -/
def keyS (e : DictEntry) : Option Str := match e.key with
  | .str x _ => some x
  | _ => none
def VDef (K : PySem.W.Frag) (u : Value) (d : D) : Prop := ∃ v, RelV v u ∧ ∀ ρ H, VR K ρ H d v
def KonD (K : PySem.W.Frag) (w : World) (mg : Str → Option Value) (x : Str) (tab : List (Str × D)) : Prop :=
  ∃ a es n, mg x = some (.ref a) ∧ KDict K w a es n ∧ ∀ z, match tab.lookup z with
    | some d => ∃ u, PySem.W.nsIn K a z = some (some u) ∧ VDef K u d
    | none => PySem.W.nsIn K a z = some none
theorem vdef_tup {K : PySem.W.Frag} {ys : List Str} {a : Addr} {its : List Value} {n : Nat} {sl : Array (Option Value)} (h2 : K.lookup a = some ⟨.type "tuple", none, .seq its.toArray n, sl⟩) (h3 : its.length ≤ 1000) (h4 : Vals (ys.map V.str) its) : VDef K (.ref a) (.tup (ys.map D.str)) := by
  refine ⟨.ref a, rfl, fun ρ H => VR_tup.mpr ⟨a, ys.map V.str, rfl, .inr ⟨_, its.toArray, n, h2, rfl, rfl, by rw [List.size_toArray, sizeLine_eq]; omega, h4⟩, ?_⟩⟩
  clear h4 h3 h2
  induction ys with
  | nil => exact .nil
  | cons y ys ih => exact .cons (VR_str.mpr rfl) ih
theorem look_none {es : List DictEntry} {z : Str} : ∀ {tab : List (Str × D)}, es.map keyS = tab.map (fun p => some p.1) → tab.lookup z = none → es.find? (fun e => e.key.isStr z) = none ∧ es.any (fun e => e.refKey) = false := by
  induction es with
  | nil => intro tab _ _; exact ⟨rfl, rfl⟩
  | cons e es ih =>
    intro tab h1 h2
    cases tab with
    | nil => cases h1
    | cons p tab =>
      rw [List.map_cons, List.map_cons] at h1
      injection h1 with h3 h4
      obtain ⟨k, d⟩ := p
      simp only [List.lookup] at h2
      split at h2
      · cases h2
      · rename_i hne
        obtain ⟨i1, i2⟩ := ih h4 h2
        unfold keyS at h3
        split at h3
        · rename_i x t hk
          injection h3 with hx
          have hx : x = k := hx
          have hz : (x == z) = false := by
            rw [hx]
            by_cases c : z = k
            · subst c; simp at hne
            · exact beq_eq_false_iff_ne.mpr fun q => c q.symm
          constructor
          · rw [List.find?_cons, hk]
            show (match (x == z) with | true => some e | false => List.find? (fun e => e.key.isStr z) es) = none
            rw [hz]; exact i1
          · rw [List.any_cons, i2, Bool.or_false]
            unfold DictEntry.refKey
            rw [hk]
        · cases h3
theorem kon_mk {K : PySem.W.Frag} {w : World} {mg : Str → Option Value} {x : Str} {tab : List (Str × D)} {a : Addr} {es : Array DictEntry} {n : Nat} (hm : mg x = some (.ref a)) (hl : K.lookup a = some ⟨.type "dict", none, .dict es n, #[]⟩) (lit : PySem.W.KeysLit w.params es.toList)
    (low : (a == sysModules) = false) (hk : es.toList.map keyS = tab.map (fun p => some p.1)) (hv : ∀ p ∈ tab, ∃ u, PySem.W.nsIn K a p.1 = some (some u) ∧ VDef K u p.2) : KonD K w mg x tab := by
  refine ⟨a, es, n, hm, ⟨hl, lit, low⟩, fun z => ?_⟩
  split
  · rename_i d hd
    have key : ∀ {l : List (Str × D)}, l.lookup z = some d → (z, d) ∈ l := by
      intro l
      induction l with
      | nil => intro h; cases h
      | cons p l ih =>
        intro h
        obtain ⟨k, v⟩ := p
        simp only [List.lookup] at h
        split at h
        · rename_i q
          cases h
          rw [beq_iff_eq.mp q]
          exact List.mem_cons_self
        · exact List.mem_cons_of_mem _ (ih h)
    exact hv (z, d) (key hd)
  · rename_i hd
    obtain ⟨h1, h2⟩ := look_none hk hd
    unfold PySem.W.nsIn
    rw [hl]
    dsimp only
    rw [h1]
    dsimp only
    rw [h2]
    rfl
section
variable {X : Cx} {W : WX} {e : Expr} {fe : ME} {x : Str} {tab : List (Str × D)} {p pos : Pos}
def mKx (tab : List (Str × D)) : D → C D := fun d S => match d with | .str z => (match tab.lookup z with | some v => .ok v S | none => .bad) | _ => .bad
def mKin (g : Bool → Bool) (tab : List (Str × D)) : D → C D := fun d S => match d with | .str z => .ok (.bl (g (tab.lookup z).isSome)) S | _ => .bad
theorem de_kx (h : KonD X.K X.w X.mg x tab) (hg : Gl X x) (ha : DE X W e fe) (hdb : (x == ("__debug__" : Str)) = false := by decide) (hs : ∀ o i, subscripted e false o i = operate [o, i] (getItem o i) := by intro _ _; rfl) :
    DE X W (.Subscript (.Name x p) e pos) (e1 (mKx tab) fe) := by
  obtain ⟨a, es, n, hm, D, ht⟩ := h
  refine PE.weak (pe_ix ix_kdict (pe_glob (v := .ref a) hg hm rfl hdb) ha hs) fun σ H Q h => ?_
  show tE X W fe σ H _
  refine tG_mono (tG_bind (f := fe) (g := fun d G S1 => mKx tab d S1) h) fun v H1 q => ?_
  obtain ⟨ρ, G, S, d, g, s, r1, o⟩ := q
  unfold mKx at o
  split at o
  · rename_i z
    have hz := ht z
    split at o
    · rename_i d hd
      rw [hd] at hz
      obtain ⟨u, h1, v', rv, h2⟩ := hz
      exact ⟨a, z, v', rfl, VR_str.mp r1, ⟨es, n, u, D.at_, D.lit, h1, rv⟩, o ρ H1 v' (.refl _ _) s (h2 ρ H1)⟩
    · exact o.elim
  · exact o.elim
theorem kin_end (b : Bool → Bool) {a : Addr} (ht : ∀ z, match tab.lookup z with | some d => ∃ u, PySem.W.nsIn X.K a z = some (some u) ∧ VDef X.K u d | none => PySem.W.nsIn X.K a z = some none) {σ : L2.St} {H : Hp} {Q : VK} (h : tE X W (e1 (mKin b tab) fe) σ H Q) :
    tE X W fe σ H (fun v H1 => ∃ (z : Str) (r : Option Value), v = .str z ∧ PySem.W.nsIn X.K a z = some r ∧ Q (.bl (b r.isSome)) H1) := by
  refine tG_mono (tG_bind (f := fe) (g := fun d G S1 => mKin b tab d S1) h) fun v H1 q => ?_
  obtain ⟨ρ, G, S, d, g, s, r1, o⟩ := q
  unfold mKin at o
  split at o
  · rename_i z
    have hz := ht z
    cases hd : tab.lookup z with
    | some d =>
      rw [hd] at hz
      obtain ⟨u, h1, _⟩ := hz
      refine ⟨z, some u, VR_str.mp r1, h1, ?_⟩
      have := o ρ H1 (.bl (b (tab.lookup z).isSome)) (.refl _ _) s (VR_bl.mpr rfl)
      rw [hd] at this
      exact this
    | none =>
      rw [hd] at hz
      refine ⟨z, none, VR_str.mp r1, hz, ?_⟩
      have := o ρ H1 (.bl (b (tab.lookup z).isSome)) (.refl _ _) s (VR_bl.mpr rfl)
      rw [hd] at this
      exact this
  · exact o.elim
theorem de_kin (h : KonD X.K X.w X.mg x tab) (hg : Gl X x) (ha : DE X W e fe) (hdb : (x == ("__debug__" : Str)) = false := by decide) (hm : behindInMarks .In (.Name x p) = false := by rfl) : DE X W (.Compare e [.In] [.Name x p] pos) (e1 (mKin id tab) fe) := by
  obtain ⟨a, es, n, hm', D, ht⟩ := h
  refine PE.weak (pe_cmpR (op_in_kd D) ha (pe_glob (v := .ref a) hg hm' rfl hdb) hm) fun σ H Q h => ?_
  refine tG_mono (kin_end id ht h) fun v H1 q => ?_
  obtain ⟨z, r, rfl, hn, q⟩ := q
  exact ⟨z, r, rfl, rfl, hn, q⟩
theorem de_knin (h : KonD X.K X.w X.mg x tab) (hg : Gl X x) (ha : DE X W e fe) (hdb : (x == ("__debug__" : Str)) = false := by decide) (hm : behindInMarks .NotIn (.Name x p) = false := by rfl) : DE X W (.Compare e [.NotIn] [.Name x p] pos) (e1 (mKin not tab) fe) := by
  obtain ⟨a, es, n, hm', D, ht⟩ := h
  refine PE.weak (pe_cmpR (op_notIn_kd D) ha (pe_glob (v := .ref a) hg hm' rfl hdb) hm) fun σ H Q h => ?_
  refine tG_mono (kin_end not ht h) fun v H1 q => ?_
  obtain ⟨z, r, rfl, hn, q⟩ := q
  exact ⟨z, r, rfl, rfl, hn, q⟩
end
end Mir
namespace Mir
open PySem L2 PyProof.Rows
section
variable {X : Cx} {W : WX} {e e2 a b : Expr} {fe : ME} {ga : MA} {x : Str} {tab : List (Str × D)} {p pos : Pos}
theorem kin_test {g : Bool → Bool} {σ : L2.St} {H : Hp} {Q : Bool → Hp → Prop} (h : tT X W (tb (e1 (mKin g tab) fe)) σ H Q) : tE X W (e1 (mKin g tab) fe) σ H (fun x H' => ∃ k, x = .bl k ∧ Q k H') := tb_test (t := tE X W (e1 (mKin g tab) fe)) (fun Q h => h) h
theorem dt_kin (h : KonD X.K X.w X.mg x tab) (hg : Gl X x) (ha : DE X W e fe) (hdb : (x == ("__debug__" : Str)) = false := by decide) (hm : behindInMarks .In (.Name x p) = false := by rfl) : DT X W (.Compare e [.In] [.Name x p] pos) (tb (e1 (mKin id tab) fe)) := by
  obtain ⟨a, es, n, hm', D, ht⟩ := h
  refine PT.weak (pt_cmpR (op_in_kd D) ha (pe_glob (v := .ref a) hg hm' rfl hdb) hm) fun σ H Q h => ?_
  refine tG_mono (kin_end id ht (kin_test h)) fun v H1 q => ?_
  obtain ⟨z, r, rfl, hn, q⟩ := q
  exact ⟨z, r, rfl, rfl, hn, q⟩
theorem dt_knin (h : KonD X.K X.w X.mg x tab) (hg : Gl X x) (ha : DE X W e fe) (hdb : (x == ("__debug__" : Str)) = false := by decide) (hm : behindInMarks .NotIn (.Name x p) = false := by rfl) : DT X W (.Compare e [.NotIn] [.Name x p] pos) (tb (e1 (mKin not tab) fe)) := by
  obtain ⟨a, es, n, hm', D, ht⟩ := h
  refine PT.weak (pt_cmpR (op_notIn_kd D) ha (pe_glob (v := .ref a) hg hm' rfl hdb) hm) fun σ H Q h => ?_
  refine tG_mono (kin_end not ht (kin_test h)) fun v H1 q => ?_
  obtain ⟨z, r, rfl, hn, q⟩ := q
  exact ⟨z, r, rfl, rfl, hn, q⟩
/-! ### zip of two tuples -/
def zipD (xs ys : List D) : List D := (xs.zip ys).map fun p => .tup [p.1, p.2]
def iZipT (ga : MA) : MI := fun G S => (ga G S).bind fun ds S1 => match ds with
  | [.tup xs, .tup ys] => .ok ⟨zipD xs ys, none⟩ S1
  | _ => .bad
theorem walk_zipT {K : PySem.W.Frag} {a b : Addr} {xs ys : List V} {n : Nat} (hn : n = min xs.length ys.length) : L2.Walk (RZ.ItzT K a b) n (fun H => SqT K H a xs ∧ SqT K H b ys) (YPair (fun i => xs[i]?) (fun i => ys[i]?)) := by
  refine ⟨fun i H hi h => ?_, fun H h => ⟨xs, ys, h.1, h.2, by omega⟩, fun i H v H' hi h y => ?_⟩
  · have h1 : i < xs.length := by omega
    have h2 : i < ys.length := by omega
    exact ⟨xs, ys, _, _, h.1, h.2, List.getElem?_eq_getElem h1, List.getElem?_eq_getElem h2⟩
  · obtain ⟨T, u, v', e1, e2, e3, f1, f2⟩ := y
    exact ⟨T, u, v', e1, e2, e3, f1 xs h.1, f2 ys h.2⟩
theorem VRs.two_l {K : PySem.W.Frag} {ρ : List Addr} {H : Hp} {d e : D} {vs : List V} (h : VRs K ρ H [d, e] vs) : ∃ v w, vs = [v, w] ∧ VR K ρ H d v ∧ VR K ρ H e w := by
  obtain ⟨v, r, rfl, h1, h2⟩ := h.cons_l
  obtain ⟨w, r2, rfl, h3, h4⟩ := h2.cons_l
  rw [h4.nil_l]
  exact ⟨v, w, rfl, h1, h3⟩
theorem di_zipT {elts : List Expr} {kk : Nat} {tpos : Pos} (hg : Gl X "zip") (hm : X.mg "zip" = none) (ha : DA X W [e, e2] ga)
    (hs : starEach [e, e2] X.env = (false, eval e X.env) :: starEach [e2] X.env := by rfl) (hpl : (backTo pos (starEach [e2] X.env)).any (·.1) = false := by rfl) :
    DI X W (.Tuple elts kk tpos) (.Call (.Name "zip" p) [e, e2] [] pos) (iZipT ga) := by
  refine PI.weak (RZ.pi_zipA hg hm ha hs hpl) fun σ H R h => ?_
  refine tG_mono (tG_bind (f := ga) (g := fun ds G S1 => match ds with
    | [.tup xs, .tup ys] => Mir.R.ok (⟨zipD xs ys, none⟩ : Src) S1
    | _ => .bad) h) fun vs H1 q => ?_
  obtain ⟨ρ, G, S, ds, g, s, r, o⟩ := q
  split at o
  · rename_i xs ys
    obtain ⟨v, w, rfl, r1, r2⟩ := VRs.two_l r
    obtain ⟨a, us, rfl, q1, v1⟩ := VR_tup.mp r1
    obtain ⟨b, ws, rfl, q2, v2⟩ := VR_tup.mp r2
    refine ⟨a, b, us, ws, rfl, .inr ⟨q1, q2, o ρ H1 _ (.refl _ _) s ?_⟩⟩
    have hl : (zipD xs ys).length = min us.length ws.length := by
      unfold zipD
      rw [List.length_map, List.length_zip, v1.length, v2.length]
    refine ⟨_, _, walk_zipT hl, fun ρ2 S2 H2 x2 _ _ => ⟨x2.kp.sqt q1, x2.kp.sqt q2⟩, fun i ρ2 S2 H2 y H3 hi x2 s2 _ hy => ?_⟩
    obtain ⟨T, u, u', rfl, nT, rfl, e1, e2⟩ := hy
    obtain ⟨d1, f1, m1⟩ := (v1.mono x2).at e1
    obtain ⟨d2, f2, m2⟩ := (v2.mono x2).at e2
    have x3 : Ext ρ2 H2 ρ2 (upd H2 T (.tup [u, u'])) := .junk nT
    refine ⟨x3, s2.junk nT, .tup [d1, d2], ?_, VR_tup.mpr ⟨T, [u, u'], rfl, .inl (.inl upd_same), .cons (VR.mono x3 m1) (.cons (VR.mono x3 m2) .nil)⟩⟩
    show ((xs.zip ys).map _)[i]? = _
    rw [List.getElem?_map, (List.getElem?_zip_eq_some (z := (d1, d2))).mpr ⟨f1, f2⟩]
    rfl
  · exact o.elim
end
end Mir
namespace Mir
open PySem L2 PyProof.Rows
/-! ### facts about error classes, as the generator hands them in -/
theorem fa_nil {α : Type} {P : α → Prop} : ∀ c ∈ ([] : List α), P c := fun _ h => absurd h List.not_mem_nil
theorem fa_cons {α : Type} {P : α → Prop} {a : α} {l : List α} (h : P a) (t : ∀ c ∈ l, P c) : ∀ c ∈ a :: l, P c := fun c hc => by
  rcases List.mem_cons.mp hc with e | hc
  · rw [e]; exact h
  · exact t c hc
section
variable {K : PySem.W.Frag} {mg : Str → Option Value} {x : Str} {cs : List Str} {B : Addr} {tab : List (Str × Str × Bool)}
theorem tryAt_mk (hm : mg x = some (.ref B)) (h : ∀ c ∈ cs, ∃ C, mg c = some (.ref C) ∧ PySem.W.exmOne K (.ref C) (.ref B) = some true) : TryAt K mg x cs :=
  ⟨B, hm, fun c hc C hC => by
    obtain ⟨C', h1, h2⟩ := h c hc
    rw [h1] at hC
    cases hC
    exact h2, fa_nil⟩
theorem isT_mk (h : ∀ p ∈ tab, ∃ C D, mg p.1 = some (.ref C) ∧ mg p.2.1 = some (.ref D) ∧ PySem.W.kitOne K (.ref C) (.ref D) = some p.2.2) : IsT K mg tab := fun p hp C D h1 h2 => by
  obtain ⟨C', D', g1, g2, g3⟩ := h p hp
  rw [g1] at h1
  rw [g2] at h2
  cases h1
  cases h2
  exact g3
theorem ErrF.sub {c k : Str} {ks : List Str} (h : ErrF K mg c ks) (hk : k ∈ ks) : ErrF K mg c [k] := by
  obtain ⟨C, h1, h2, h3, h4⟩ := h
  exact ⟨C, h1, h2, h3, fa_cons (h4 k hk) fa_nil⟩
theorem ErrF.none {c : Str} {ks : List Str} (h : ErrF K mg c ks) : ErrF K mg c [] := by
  obtain ⟨C, h1, h2, h3, h4⟩ := h
  exact ⟨C, h1, h2, h3, fa_nil⟩
end
/-! ### the wp calculus -/
section
variable {S : ST} {G : GE} {K : Kt} {Q : D → ST → Prop} {X : XQ} {tab : List (Str × D)} {z : Str}
def kRaise (c : Str) (ks : List Str) (K : Kt) (G : GE) : List D → ST → Prop := fun ds S => ds.length = ks.length ∧ K.ex c (ks.zip ds).reverse G S
theorem wp_sRaise {c : Str} {ks : List Str} {ga : MA} : wpS (sRaise c ks ga) G S K = wpE ga G S (kRaise c ks K G) (kx K G) := by
  unfold wpS sRaise
  rw [run_s]
  unfold wpE kRaise
  congr 1
  funext ds S
  by_cases h : ds.length = ks.length
  · rw [if_pos h]; simp [runK, h]
  · rw [if_neg h]; simp [runK, h]
theorem kRaise_eq {c : Str} {ks : List Str} {ds : List D} : kRaise c ks K G ds S = (ds.length = ks.length ∧ K.ex c (ks.zip ds).reverse G S) := rfl
/-- what a handler makes of an error -/
def kTryX (i : Nat) (cs cn : List Str) (f : MX) (K : Kt) (c : Str) (fs : List (Str × D)) (G : GE) (S : ST) : Prop :=
  if c ∈ cs then (i < G.length ∧ runK ((f c fs (G.set i none) S).wipe i) K) else (c ∈ cn ∧ K.ex c fs G S)
theorem wp_sTry {i : Nat} {cs cn : List Str} {b : MS} {f : MX} : wpS (sTry i cs cn b f) G S K = wpS b G S { K with ex := kTryX i cs cn f K } := by
  unfold wpS sTry
  cases b G S with
  | exc c fs G' S' =>
    unfold runK kTryX
    dsimp only
    by_cases h : c ∈ cs
    · rw [if_pos h, if_pos h]
      by_cases l : i < G'.length
      · rw [if_pos l]; simp [l, runK]
      · rw [if_neg l]; simp [l]
    · rw [if_neg h, if_neg h]
      by_cases l : c ∈ cn
      · rw [if_pos l]; simp [l]
      · rw [if_neg l]; simp [l]
  | nx G' S' => rfl
  | rt d S' => rfl
  | bk G' S' => rfl
  | ct G' S' => rfl
  | bad => rfl
theorem kTryX_in {i : Nat} {cs cn : List Str} {f : MX} {c : Str} {fs : List (Str × D)} (h : c ∈ cs) : kTryX i cs cn f K c fs G S = (i < G.length ∧ runK ((f c fs (G.set i none) S).wipe i) K) := by unfold kTryX; rw [if_pos h]
def kTryN (cs cn : List Str) (f : MS) (K : Kt) (c : Str) (fs : List (Str × D)) (G : GE) (S : ST) : Prop :=
  if c ∈ cs then wpS f G S { K with ex := fun _ _ _ _ => False } else (c ∈ cn ∧ K.ex c fs G S)
theorem wp_sTryN {cs cn : List Str} {b f : MS} : wpS (sTryN cs cn b f) G S K = wpS b G S { K with ex := kTryN cs cn f K } := by
  unfold wpS sTryN
  cases b G S with
  | exc c fs G' S' =>
    unfold runK kTryN
    dsimp only
    by_cases h : c ∈ cs
    · rw [if_pos h, if_pos h]
      unfold wpS
      cases f G' S' <;> rfl
    · rw [if_neg h, if_neg h]
      by_cases l : c ∈ cn
      · rw [if_pos l]; simp [l]
      · rw [if_neg l]; simp [l]
  | nx G' S' => rfl
  | rt d S' => rfl
  | bk G' S' => rfl
  | ct G' S' => rfl
  | bad => rfl
theorem r_kx : wpR (mKx tab (.str z) S) Q X = kOpt (tab.lookup z) Q S := by
  unfold mKx
  dsimp only
  cases tab.lookup z <;> rfl
theorem r_kin {g : Bool → Bool} : wpR (mKin g tab (.str z) S) Q X = Q (.bl (g (tab.lookup z).isSome)) S := rfl
def kZip (Q : Src → ST → Prop) : List D → ST → Prop := fun ds S => match ds with | [.tup xs, .tup ys] => Q ⟨zipD xs ys, none⟩ S | _ => False
theorem wp_iZipT {ga : MA} {Q : Src → ST → Prop} : wpE (iZipT ga) G S Q X = wpE ga G S (kZip Q) X := by
  unfold wpE iZipT
  rw [wp_bind]
  congr 1
  funext ds S
  unfold kZip
  split <;> rfl
theorem kZip_eq {xs ys : List D} {Q : Src → ST → Prop} : kZip Q [.tup xs, .tup ys] S = Q ⟨zipD xs ys, none⟩ S := rfl
end
end Mir

namespace Mir
open PySem L2 PyProof.Rows
/-! ### a, o.f, d[k] = e -/
abbrev MG := D → GE → ST → R GE
def aNm (i : Nat) : MG := fun d G S => .ok (G.set i (some d)) S
def aSub (fo fi : ME) : MG := fun v G S => (fo G S).bind fun o S1 => (fi G S1).bind fun i S2 => match putD S2 o i v with | some S3 => .ok G S3 | none => .bad
def aFld (cs : List Str) (f : Str) (fo : ME) : MG := fun v G S => (fo G S).bind fun o S1 => match putFD cs f S1 o v with | some S2 => .ok G S2 | none => .bad
def aAll : List MG → List D → GE → ST → R GE
  | a :: as, d :: ds, G, S => (a d G S).bind fun G' S' => aAll as ds G' S'
  | [], [], G, S => .ok G S
  | _, _, _, _ => .bad
def OutT (X : Cx) (ρ : List Addr) (H : Hp) (r : R GE) (Q : L2.St → Hp → Prop) : Prop := match r with
  | .ok G' S' => ∀ ρ' H' σ', Ext ρ H ρ' H' → Sim X.K X.mg ρ' S' H' → GR X.K ρ' H' G' σ' → Q σ' H'
  | _ => False
theorem OutT.mono {X : Cx} {ρ ρ' : List Addr} {H H' : Hp} {r : R GE} {Q Q' : L2.St → Hp → Prop} (h : OutT X ρ H r Q) (e : Ext ρ H ρ' H') (q : ∀ σ H, Q σ H → Q' σ H) : OutT X ρ' H' r Q' := by
  cases r with
  | ok G S => exact fun ρ2 H2 σ2 e2 s2 g2 => q _ _ (h ρ2 H2 σ2 (e.trans e2) s2 g2)
  | exc c fs S => exact h
  | bad => exact h
def tA1 (X : Cx) (a : MG) : TG := fun v σ H Q => ∃ ρ G S d, GR X.K ρ H G σ ∧ Sim X.K X.mg ρ S H ∧ VR X.K ρ H d v ∧ OutT X ρ H (a d G S) Q
def tAm (X : Cx) (as : List MG) : TGs := fun vs σ H Q => ∃ ρ G S ds, GR X.K ρ H G σ ∧ Sim X.K X.mg ρ S H ∧ VRs X.K ρ H ds vs ∧ OutT X ρ H (aAll as ds G S) Q
abbrev DM (X : Cx) (tg : Expr) (a : MG) : Prop := PG X tg (tA1 X a)
abbrev DMs (X : Cx) (tgs : List Expr) (as : List MG) : Prop := PGs X tgs (tAm X as)
section
variable {X : Cx} {W : WX} {o i e : Expr} {es : List Expr} {fo fi fe : ME} {x f : Str} {pos p : Pos} {a : MG} {as : List MG}
/-- an expression of a target, then what is done with it -/
theorem outT_bind {α β : Type} {rel : List Addr → Hp → α → β → Prop} {ρ : List Addr} {σ : L2.St} {H : Hp} {r : R α} {k : α → ST → R GE} {Q : L2.St → Hp → Prop} (o : OutT X ρ H (r.bind k) Q) :
    OutG X W rel ρ σ H r fun v H1 => ∃ ρ1 S1 a, Ext ρ H ρ1 H1 ∧ Sim X.K X.mg ρ1 S1 H1 ∧ rel ρ1 H1 a v ∧ OutT X ρ1 H1 (k a S1) Q := by
  cases r with
  | ok a S1 => exact fun ρ1 H1 v x1 s1 r1 => ⟨ρ1, S1, a, x1, s1, r1, OutT.mono (r := k a S1) o x1 fun _ _ z => z⟩
  | exc c fs S1 => exact (show False from o).elim
  | bad => exact (show False from o).elim
theorem dm_nm {j : Nat} (hN : X.N.Nodup) (hi : X.N[j]? = some x) (hx : Loc X.env.scope x) (hf : X.fn x = true ∨ X.env.scope.names.lookup x = some .local := by first | exact .inl rfl | exact .inr rfl | assumption) : DM X (.Name x pos) (aNm j) :=
  PG.weak (pg_name hN hi hx hf) fun v σ H Q h => by
    obtain ⟨ρ, G, S, d, g, s, r, o⟩ := h
    exact o ρ H _ (.refl _ _) s (g.set j r)
theorem dm_sub (hu : X.A.units + 65 < cLine) (ho : DE X W0 o fo) (hi : DE X W0 i fi)
    (ha : ∀ v, assign (.Subscript o i pos) X.env v = (do
      let ov ← holding [v] (eval o X.env)
      let iv ← holding [v, ov] (eval i X.env)
      standAt pos
      holding [v, ov, iv] (setItem ov iv v)
      release [v, ov, iv] []) := by intro _; rfl) : DM X (.Subscript o i pos) (aSub fo fi) := PG.weak (pg_sub ho hi (set_both hu) ha) fun v σ H Q h => by
  obtain ⟨ρ, G, S, d, g, s, r, o⟩ := h
  refine ⟨ρ, G, S, g, s, OutG.mono (outT_bind (rel := rV X) o) (.refl _ _) fun y H2 q => ?_⟩
  obtain ⟨ρ2, S2, d2, x2, s2, r2, o2⟩ := q
  refine ⟨ρ2, G, S2, g.mono x2, s2, OutG.mono (outT_bind (rel := rV X) o2) (.refl _ _) fun z H3 q => ?_⟩
  obtain ⟨ρ3, S3, d3, x3, s3, r3, o3⟩ := q
  split at o3
  · rename_i S4 h4
    obtain ⟨H4, pv, x4, s4⟩ := putD_ok s3 (VR.mono x3 r2) r3 (VR.mono (x2.trans x3) r) h4
    exact pv.r (o3 ρ3 H4 σ x4 s4 (((g.mono x2).mono x3).mono x4))
  · exact o3.elim
/-- what o.f = v wishes, for a target -/
def gFld (K : PySem.W.Frag) (to : TE) (f : Str) : TG := fun v σ H Q => to σ H fun x H1 => ∃ a C dx fs, x = .ref a ∧ H1 a = some (.ins C dx fs) ∧ Cls K C ∧ NoAttr K C f ∧ fs.length < 1000 ∧ Q σ (upd H1 a (.ins C dx (putF f v fs)))
theorem pg_fld {to : TE} (ho : PE X o to) : PG X (.Attribute o f pos) (gFld X.K to f) := by
  refine ⟨fun pins s σ H v u Q I r h => ?_⟩
  rw [assign_Attribute]
  refine wpAny_bind (wpAny_holding (thn (ho.run pins s σ H _ I h) fun ov s1 z => ?_))
  obtain ⟨x, H1, I1, r1, a, C, dx, fs, rfl, w1, c, n, l, q⟩ := z
  have e : ov = Value.ref a := r1
  subst e
  exact wpAny_bind (wpAny_standAt (wpAny_bind (wpAny_holding (setattr_ok I1 w1 c n l r fun s3 I3 => wpAny_release ⟨σ, _, I3, q⟩))))
theorem dm_fld {cs : List Str} (hb : Bears X cs f) (ho : DE X W0 o fo) : DM X (.Attribute o f pos) (aFld cs f fo) := PG.weak (pg_fld ho) fun v σ H Q h => by
  obtain ⟨ρ, G, S, d, g, s, r, o⟩ := h
  refine ⟨ρ, G, S, g, s, OutG.mono (outT_bind (rel := rV X) o) (.refl _ _) fun y H2 q => ?_⟩
  obtain ⟨ρ2, S2, d2, x2, s2, r2, o2⟩ := q
  split at o2
  · rename_i S3 h3
    obtain ⟨a, C, dx, fs, rfl, w1, k1, k2, hl, x3, s3⟩ := putFD_ok hb s2 r2 (VR.mono x2 r) h3
    exact ⟨a, C, dx, fs, rfl, w1, k1, k2, hl, o2 ρ2 _ σ x3 s3 ((g.mono x2).mono x3)⟩
  · exact o2.elim
theorem dms_nil : DMs X [] [] := PGs.weak pgs_nil fun vs σ H Q h => by
  obtain ⟨ρ, G, S, ds, g, s, r, o⟩ := h
  cases ds with
  | nil => exact ⟨r.nil_l, o ρ H σ (.refl _ _) s g⟩
  | cons d ds => exact (show False from o).elim
theorem dms_cons (h1 : DM X e a) (h2 : DMs X es as) (hs : (assignEach (e :: es) X.env).map (·.2) = assign e X.env :: (assignEach es X.env).map (·.2) := by rfl) : DMs X (e :: es) (a :: as) := PGs.weak (pgs_cons h1 h2 hs) fun vs σ H Q h => by
  obtain ⟨ρ, G, S, ds, g, s, r, o⟩ := h
  cases ds with
  | nil => exact (show False from o).elim
  | cons d ds =>
    obtain ⟨v, vr, rfl, r1, r2⟩ := r.cons_l
    refine ⟨v, vr, rfl, ρ, G, S, d, g, s, r1, ?_⟩
    unfold aAll at o
    cases q : a d G S with
    | ok G' S' =>
      rw [q] at o
      exact fun ρ' H' σ' x1 s1 g1 => ⟨ρ', G', S', ds, g1, s1, r2.mono x1, OutT.mono (r := aAll as ds G' S') o x1 fun _ _ z => z⟩
    | exc c fs S' => rw [q] at o; exact (show False from o).elim
    | bad => rw [q] at o; exact (show False from o).elim
def sSetM (as : List MG) (fe : ME) : MS := fun G S => (fe G S).s G fun d S1 => match d.items S1 with
  | some ds => if ds.length = as.length then (match aAll as ds G S1 with | .ok G' S2 => .nx G' S2 | _ => .bad) else .bad
  | none => .bad
theorem ds_asgM {k : Nat} {tp : Pos} (hc : X.calm = true) (he : DE X W e fe) (hg : DMs X es as) (hn : (assignEach es X.env).length = as.length := by rfl) (hst : (assignEach es X.env).findIdx? (·.1) = none := by rfl)
    (hs : swapsWithSole [.Tuple es k tp] e pos.line X.env = pure false := by rfl) (hw : swappedStores [.Tuple es k tp] e X.env = pure none := by rfl) (h1 : (assignEach [.Tuple es k tp] X.env).map (·.2) = [assign (.Tuple es k tp) X.env] := by rfl) :
    DS X W (.Assign [.Tuple es k tp] e pos) (sSetM as fe) := by
  have hG : PG X (.Tuple es k tp) (fun v σ H Q => gTup X.K as.length (tAm X as) v σ H Q ∨ gUnl X.K as.length (tAm X as) v σ H Q) :=
    ⟨fun pins s σ H v u Q I r q => q.elim ((pg_tup hc hg hn hst).run pins s σ H v u Q I r) ((pg_unl hc hg hn hst).run pins s σ H v u Q I r)⟩
  refine PS.weak (ps_asg he hG hs hw h1) fun D σ H h => ?_
  refine tG_mono (tS_bind (f := fe) (k := fun d G S1 => match d.items S1 with
    | some ds => if ds.length = as.length then (match aAll as ds G S1 with | .ok G' S2 => RS.nx G' S2 | _ => .bad) else .bad
    | none => .bad) (rel := rV X) h) fun v H1 q => ?_
  obtain ⟨ρ, G, S, d, g, s, r, o⟩ := q
  split at o
  · rename_i ds hd
    split at o
    · rename_i hl
      obtain ⟨p, vs, rfl, q1, v1⟩ := items_ok s r hd
      have el : vs.length = as.length := by rw [← v1.length]; exact hl
      have z : tAm X as vs σ H1 D.nx := by
        refine ⟨ρ, G, S, ds, g, s, v1, ?_⟩
        cases q : aAll as ds G S with
        | ok G' S' => rw [q] at o; exact fun ρ' H' σ' x1 s1 g1 => o ρ' H' σ' x1 s1 g1
        | exc c fs S' => rw [q] at o; exact o.elim
        | bad => rw [q] at o; exact o.elim
      rcases q1 with q1 | q1
      · exact .inr ⟨p, vs, rfl, q1, el, z⟩
      · exact .inl ⟨p, vs, rfl, q1, el, z⟩
    · exact o.elim
  · exact o.elim
end
/-! ### its wp -/
section
variable {S : ST} {G : GE} {K : Kt} {X : XQ} {n : Nat}
abbrev XF : XQ := fun _ _ _ => False
def kM (as : List MG) (K : Kt) (G : GE) (ds : List D) (S : ST) : Prop := ds.length = as.length ∧ wpR (aAll as ds G S) (fun G' S' => K.nx G' S') XF
def kSetM (as : List MG) (K : Kt) (G : GE) : D → ST → Prop := fun d S => match d.items S with | some ds => kM as K G ds S | none => False
theorem wp_sSetM {as : List MG} {fe : ME} : wpS (sSetM as fe) G S K = wpE fe G S (kSetM as K G) (kx K G) := by
  unfold wpS sSetM
  rw [run_s]
  unfold wpE
  congr 1
  funext d S
  unfold kSetM
  cases d.items S with
  | none => rfl
  | some ds =>
    unfold kM
    dsimp only
    by_cases h : ds.length = as.length
    · rw [if_pos h]
      cases aAll as ds G S <;> simp [h, runK, wpR]
    · rw [if_neg h]; simp [h, runK]
theorem kSetM_tup {as : List MG} {ds : List D} : kSetM as K G (.tup ds) S = kM as K G ds S := rfl
theorem kSetM_ref {as : List MG} : kSetM as K G (.ref n) S = kLsO S[n]? (fun ds => kM as K G ds S) := by
  unfold kSetM D.items kLsO
  dsimp only
  cases S[n]? with
  | none => rfl
  | some o => cases o <;> rfl
theorem kM_eq {as : List MG} {ds : List D} : kM as K G ds S = (ds.length = as.length ∧ wpR (aAll as ds G S) (fun G' S' => K.nx G' S') XF) := rfl
def kA (as : List MG) (ds : List D) (Q : GE → ST → Prop) : GE → ST → Prop := fun G S => wpR (aAll as ds G S) Q XF
variable {Q : GE → ST → Prop} {d : D} {ds : List D} {a : MG} {as : List MG} {fo fi : ME}
theorem wp_aAll_nil : wpR (aAll [] [] G S) Q XF = Q G S := rfl
theorem wp_aAll_cons : wpR (aAll (a :: as) (d :: ds) G S) Q XF = wpR (a d G S) (kA as ds Q) XF := by
  unfold aAll kA
  rw [wp_bind]
theorem kA_eq : kA as ds Q G S = wpR (aAll as ds G S) Q XF := rfl
theorem wp_aNm {i : Nat} : wpR (aNm i d G S) Q XF = Q (G.set i (some d)) S := rfl
def kAs2 (v o : D) (G : GE) (Q : GE → ST → Prop) : D → ST → Prop := fun i S => match putD S o i v with | some S3 => Q G S3 | none => False
def kAs1 (v : D) (fi : ME) (G : GE) (Q : GE → ST → Prop) : D → ST → Prop := fun o S => wpE fi G S (kAs2 v o G Q) XF
theorem wp_aSub : wpR (aSub fo fi d G S) Q XF = wpE fo G S (kAs1 d fi G Q) XF := by
  unfold aSub
  rw [wp_bind]
  unfold wpE
  congr 1
  funext o S
  rw [wp_bind]
  unfold kAs1 wpE
  congr 1
  funext i S
  unfold kAs2
  cases putD S o i d <;> rfl
theorem kAs1_eq {v o : D} : kAs1 v fi G Q o S = wpE fi G S (kAs2 v o G Q) XF := rfl
theorem kAs2_ref {v i : D} : kAs2 v (.ref n) G Q i S = kPutO S[n]? n i v S (fun S' => Q G S') := kPut3_ref (K := { nx := Q, rt := fun _ _ => False, bk := fun _ _ => False, ct := fun _ _ => False, ex := fun _ _ _ _ => False })
def kAf (cs : List Str) (f : Str) (v : D) (G : GE) (Q : GE → ST → Prop) : D → ST → Prop := fun o S => match putFD cs f S o v with | some S3 => Q G S3 | none => False
theorem wp_aFld {cs : List Str} {f : Str} : wpR (aFld cs f fo d G S) Q XF = wpE fo G S (kAf cs f d G Q) XF := by
  unfold aFld
  rw [wp_bind]
  unfold wpE
  congr 1
  funext o S
  unfold kAf
  cases putFD cs f S o d <;> rfl
theorem kAf_ref {cs : List Str} {f : Str} {v : D} : kAf cs f v G Q (.ref n) S = kFlO S[n]? n cs f v S (fun S' => Q G S') := kFld2_ref (K := { nx := Q, rt := fun _ _ => False, bk := fun _ _ => False, ct := fun _ _ => False, ex := fun _ _ _ _ => False })
end
end Mir
namespace Mir
open PySem L2 PyProof.Rows
/-! ### dict(d), d.get(k, x) -/
def bDict : List D → C D := fun ds S => match ds with
  | [.ref n] => (match S[n]? with | some (.dk kvs) => allocO (.dk kvs) S | _ => .bad)
  | _ => .bad
section
variable {X : Cx} {W : WX} {o e f : Expr} {fo fe ff : ME} {apos cpos : Pos}
theorem bi_dict : Bi X W (.type "dict") bDict := by
  refine ⟨_, call_dictD, fun ρ S H σ ds xs Q s r o => ?_⟩
  unfold bDict at o
  split at o
  · obtain ⟨v, rfl, r1⟩ := r.one
    split at o
    · rename_i kvs hk
      obtain ⟨a, rfl, p1, ws, w1, fr⟩ := s.ref r1 hk
      refine ⟨a, ws, rfl, .of w1, alloc_ok s o fun p hp => ⟨ws, upd_same, fr.mono (.alloc hp)⟩⟩
    · exact o.elim
  · exact o.elim
def D.isD (S : ST) : D → Bool
  | .ref n => (match S[n]? with | some (.dk _) => true | _ => false)
  | _ => false
def eGet2 (fo fe ff : ME) : ME := fun G S => (fo G S).bind fun o S1 => if o.isD S1 = true then (fe G S1).bind fun k S2 => (ff G S2).bind fun x S3 => (match dGet S3 o k with | some r => .ok (r.getD x) S3 | none => .bad) else .bad
theorem de_get2 (hu : X.A.units + 65 < cLine) (ho : DE X W o fo) (he : DE X W e fe) (hf : DE X W f ff) (m : M2 X o "get" apos e f cpos) : DE X W (.Call (.Attribute o "get" apos) [e, f] [] cpos) (eGet2 fo fe ff) := by
  refine PE.weak (pe_dget2 (by omega) ho he hf m) fun σ H Q h => ?_
  refine tG_mono (tG_bind (f := fo) (g := fun o G S1 => if o.isD S1 = true then (fe G S1).bind fun k S2 => (ff G S2).bind fun x S3 => (match dGet S3 o k with | some r => Mir.R.ok (r.getD x) S3 | none => .bad) else .bad) h) fun v H1 q => ?_
  obtain ⟨ρ, G, S, d, g, s, r, o⟩ := q
  split at o
  · rename_i hd
    unfold D.isD at hd
    split at hd
    · rename_i n
      split at hd
      · rename_i kvs hk
        obtain ⟨a, rfl, p1, ws, w1, fr⟩ := s.ref r hk
        refine ⟨a, rfl, .inl ⟨ws, .of w1⟩, ρ, G, S, g, s, OutG.mono (out_bind (rel := rV X) o) (.refl _ _) fun y H2 q => ?_⟩
        obtain ⟨ρ2, S2, d2, x2, s2, r2, o2⟩ := q
        refine ⟨ρ2, G, S2, g.mono x2, s2, OutG.mono (out_bind (rel := rV X) o2) (.refl _ _) fun z H3 q => ?_⟩
        obtain ⟨ρ3, S3, d3, x3, s3, r3, o3⟩ := q
        split at o3
        · rename_i rr hr
          obtain ⟨a', w, e1, dg, vr⟩ := dGet_ok s3 (VR.mono (x2.trans x3) r) (VR.mono x3 r2) hr
          cases e1
          refine ⟨w, dg, o3 ρ3 H3 _ (.refl _ _) s3 ?_⟩
          cases rr with
          | none => cases w with
            | none => exact r3
            | some w => exact vr.elim
          | some x => cases w with
            | none => exact vr.elim
            | some w => exact vr
        · exact o3.elim
      · cases hd
    · cases hd
  · exact o.elim
end
section
variable {S : ST} {G : GE} {X : XQ} {Q : D → ST → Prop} {n : Nat} {kvs : List (Key × D)}
theorem r_dict : wpR (bDict [.ref n] S) Q X = (match S[n]? with | some (.dk kvs) => Q (.ref S.length) (S ++ [.dk kvs]) | _ => False) := by
  unfold bDict
  dsimp only
  cases S[n]? with
  | none => rfl
  | some o => cases o <;> rfl
end
end Mir

namespace Mir
open PySem L2 PyProof.Rows
/-! ### small change -/
section
variable {S : ST} {Q : D → ST → Prop} {X : XQ} {ds : List D}
theorem slT {lo hi : Option Int} : wpR (mSl (.tup ds) lo hi S) Q X = Q (.tup (Mir.cutD ds lo hi)) S := rfl
theorem slF {lo hi : Option Int} : wpR (mSl (.fl ds) lo hi S) Q X = Q (.ref S.length) (S ++ [.lst (Mir.cutD ds lo hi)]) := rfl
theorem cutN_to {m : Nat} : Mir.cutD ds none (some (m : Int)) = ds.take m := cut_pos ds m
theorem cutN_from {m : Nat} : Mir.cutD ds (some (m : Int)) none = ds.drop m := by
  have e1 : HT.sIx ds.length ds.length none = ds.length := rfl
  have e2 : HT.sIx ds.length 0 (some (m : Int)) = min m ds.length := HT.sIx_nat _ _ _
  unfold Mir.cutD
  rw [e1, e2]
  by_cases h : m ≤ ds.length
  · rw [Nat.min_eq_left h, List.take_of_length_le (by rw [List.length_drop]; omega)]
  · rw [Nat.min_eq_right (by omega), List.drop_eq_nil_of_le (Nat.le_refl _), List.drop_eq_nil_of_le (by omega)]
    simp
theorem cutN_mid {a b : Nat} : Mir.cutD ds (some (a : Int)) (some (b : Int)) = (ds.drop a).take (b - a) := by
  have e1 : HT.sIx ds.length ds.length (some (b : Int)) = min b ds.length := HT.sIx_nat _ _ _
  have e2 : HT.sIx ds.length 0 (some (a : Int)) = min a ds.length := HT.sIx_nat _ _ _
  unfold Mir.cutD
  rw [e1, e2]
  by_cases h : a ≤ ds.length
  · rw [Nat.min_eq_left h]
    by_cases h2 : b ≤ ds.length
    · rw [Nat.min_eq_left h2]
    · rw [Nat.min_eq_right (by omega), List.take_of_length_le (by rw [List.length_drop]; omega), List.take_of_length_le (by rw [List.length_drop]; omega)]
  · rw [Nat.min_eq_right (a := a) (by omega), List.drop_eq_nil_of_le (Nat.le_refl _), List.drop_eq_nil_of_le (by omega)]
    simp
theorem cutN_1 {d : D} : Mir.cutD (d :: ds) (some 1) none = ds := cutN_from (m := 1)
theorem cutN_all : Mir.cutD ds none none = ds := by
  unfold Mir.cutD
  show (ds.drop 0).take (ds.length - 0) = ds
  rw [List.drop_zero, Nat.sub_zero, List.take_length]
theorem r_revR {n : Nat} (h : S[n]? = some (.lst ds)) (q : Q (.ref S.length) (S ++ [.lst ds.reverse])) : wpR (mRev (.ref n) S) Q X := by
  unfold mRev
  simp only [D.items, h]
  exact q
theorem nb_int (xs : List Int) : ∀ d ∈ xs.map D.int, Nb 1 d := fun d hd => by
  obtain ⟨k, _, rfl⟩ := List.mem_map.mp hd
  exact True.intro
/-- a list against a new [] -/
theorem r_eqNil {k m j : Nat} (h1 : S[k]? = some (.lst ds)) (h2 : S[m]? = some (.lst [])) (hd : ∀ d ∈ ds, Nb j d) (hj : j ≤ 63) (q1 : ds = [] → Q (.bl true) S) (q2 : ds ≠ [] → Q (.bl false) S) : wpR (mEq (.ref k) (.ref m) S) Q X :=
  w_eqL h1 h2 hd (fun d hd => absurd hd List.not_mem_nil) hj q1 q2
theorem r_neNil {k m j : Nat} (h1 : S[k]? = some (.lst ds)) (h2 : S[m]? = some (.lst [])) (hd : ∀ d ∈ ds, Nb j d) (hj : j ≤ 63) (q1 : ds = [] → Q (.bl false) S) (q2 : ds ≠ [] → Q (.bl true) S) : wpR (mNe (.ref k) (.ref m) S) Q X :=
  w_neL h1 h2 hd (fun d hd => absurd hd List.not_mem_nil) hj q1 q2
theorem get_last {o : O} {T : ST} : (S ++ (T ++ [o]))[S.length + T.length]? = some o := by
  rw [get_app]
  exact get_app0
theorem Nb.up {n m : Nat} (h : n ≤ m) : ∀ {d : D}, Nb n d → Nb m d := by
  induction n generalizing m with
  | zero => intro d h; exact h.elim
  | succ n ih =>
    intro d hd
    obtain ⟨k, rfl⟩ : ∃ k, m = k + 1 := ⟨m - 1, by omega⟩
    cases d with
    | tup ds => exact fun e he => ih (by omega) (hd e he)
    | _ => exact hd
end
end Mir

namespace L2
open PySem PySem.Spec PyProof.Rows
theorem tuple_mul1 (l : Addr) (items : Array Value) (n : Nat) (dd : Option Addr) (sl : Array (Option Value)) (u : Tok) :
    Meets (Builtin.«tuple.__mul__» ⟨[.ref l, .int 1 u], []⟩) (fun _ R s => s.heap.get? l = some { cls := .type "tuple", dict := dd, data := .seq items n, slots := sl } ∧ R (.ok (.ret (Value.ref l))) s) :=
  .of_wp fun prog w A R s h => by
    obtain ⟨hp, g, d, tk, os⟩ := s
    obtain ⟨hl, h⟩ := h
    have f1 := AutoSeq1.idx_int
    have c0 : (decide ((1 : Int) < -(2 ^ 63)) || decide ((1 : Int) ≥ 2 ^ 63)) = false := by decide
    have c1 : (items.isEmpty || (1 : Int) == 1) = true := by simp
    wp_walk using wpAny_loadPart' hl
    exact ⟨_, rfl, h⟩
def rRep1 (K : PySem.W.Frag) : R2 := fun x y H Q => ∃ l xs, x = .ref l ∧ y = .int 1 ∧ SqT K H l xs ∧ Q (.ref l) H
theorem op_rep1 {X : Cx} : OpR X (binaryOp .Mult) (rRep1 X.K) := by
  intro pins s σ H x y v u Q I rx ry h
  obtain ⟨l, xs, rfl, rfl, hT, q⟩ := h
  cases rx
  obtain ⟨t, rfl⟩ := ry
  obtain ⟨its, r, ⟨⟨cls, dd, data, sl⟩, ho, hc, n, hd⟩, hs⟩ := I.tuple hT
  simp only at hc hd
  subst hc hd
  refine wpAny_binaryOp_repeat_ref (T := "tuple") (U := "int") (by decide) ⟨_, ho, rfl⟩ (fun s' => typeIs_int s' 1 t) noFill_tuple_mul F.fills_int_mul F.slot_int_rmul repeat_tuple F.slot_int_index.lookup
    (call_meets F.slot_int_rmul (typeIs_int s 1 t) F.entry_int_rmul (F.args_int_rmul_2 _ _) (int_rmul_tuple 1 t l its.toArray n dd sl)
      ⟨ho, rfl, ⟨_, ho, rfl⟩, call_meets F.slot_tuple_mul ⟨_, ho, rfl⟩ F.entry_tuple_mul (F.args_tuple_mul_2 _ _) (tuple_mul1 l its.toArray n dd sl t) ⟨ho, ?_⟩⟩)
  exact ⟨.ref l, H, I, rfl, q⟩
/-! ### tuple * int, up to a million parts -/
def rRepU (K : PySem.W.Frag) : R2 := fun x y H Q => ∃ l k xs, x = .ref l ∧ y = .int k ∧ SqT K H l xs ∧ xs ≠ [] ∧ 2 ≤ k ∧ k ≤ 5000 ∧ xs.length ≤ 200 ∧ ∀ p, H p = none → Q (.ref p) (upd H p (.tup (List.replicate k.toNat xs).flatten))
section
variable {X : Cx}
theorem op_repU : OpR X (binaryOp .Mult) (rRepU X.K) := by
  intro pins s σ H x y v u Q I rx ry h
  obtain ⟨l, k, xs, rfl, rfl, hT, hne, h1, h2, hz, q⟩ := h
  cases rx
  obtain ⟨t, rfl⟩ := ry
  obtain ⟨its, r, ⟨⟨cls, dd, data, sl⟩, ho, hc, n, hd⟩, hs⟩ := I.tuple hT
  simp only at hc hd
  subst hc hd
  have hle : its.length = xs.length := r.length.symm
  have ne : its.toArray.isEmpty = false := by
    cases its with
    | nil => exact absurd (List.eq_nil_of_length_eq_zero hle.symm) hne
    | cons a b => rfl
  have sz : its.toArray.size = xs.length := by rw [List.size_toArray, hle]
  have big : k.toNat * xs.length ≤ 5000 * 200 := Nat.mul_le_mul (by omega) hz
  have bigI : ((its.toArray.size : Nat) : Int) * k ≤ 1000000 := by
    rw [sz]
    have e : ((xs.length : Nat) : Int) * k = ((k.toNat * xs.length : Nat) : Int) := by rw [Int.natCast_mul, Int.toNat_of_nonneg (by omega), Int.mul_comm]
    omega
  have fl : (List.replicate k.toNat its).flatten.length ≤ sizeLine := by rw [PyProof.Rows.lm_len_rep_flat, hle, sizeLine_eq]; omega
  have c0 : (decide (k < -(2 ^ 63)) || decide (k ≥ 2 ^ 63)) = false := by rw [decide_eq_false (by omega), decide_eq_false (by omega)] <;> rfl
  have c1 : (its.toArray.isEmpty || k == 1) = false := by rw [ne, Bool.false_or]; exact beq_eq_false_iff_ne.mpr (by omega)
  have c2 : (decide (k ≤ 0) || its.toArray.isEmpty) = false := by rw [ne, Bool.or_false]; exact decide_eq_false (by omega)
  have c4 : Builtin.Tuple.tupleTooMany (((its.toArray.size : Nat) : Int) * k) = false := by unfold Builtin.Tuple.tupleTooMany; rw [sizeLine_eq]; exact decide_eq_false (by omega)
  refine wpAny_binaryOp_repeat_ref (T := "tuple") (U := "int") (by decide) ⟨_, ho, rfl⟩ (fun s' => typeIs_int s' k t) noFill_tuple_mul F.fills_int_mul F.slot_int_rmul repeat_tuple F.slot_int_index.lookup
    (call_meets F.slot_int_rmul (typeIs_int s k t) F.entry_int_rmul (F.args_int_rmul_2 _ _) (int_rmul_tuple k t l its.toArray n dd sl)
      ⟨ho, rfl, ⟨_, ho, rfl⟩, call_meets F.slot_tuple_mul ⟨_, ho, rfl⟩ F.entry_tuple_mul (F.args_tuple_mul_2 _ _) (tuple_mulW l its.toArray n dd sl k t c0 c1 c2 (by omega) c4 (by rw [size_rep, List.size_toArray]; exact fl)) ⟨ho, ?_⟩⟩)
  rw [size_rep]
  exact ⟨.ref s.heap.objs.size, _, I.laid (t' := s.toks) (o := .tup (List.replicate k.toNat xs).flatten) (fun b ob q => Heap.get?_push_of_some _ q) (Nat.le_refl _)
    ⟨by rw [PyProof.Rows.lm_len_rep_flat, sizeLine_eq]; omega, _, r.rep k.toNat, IsTup.new _ _⟩, rfl, q _ (I.hok.fresh (Nat.le_refl _))⟩
end
end L2
namespace Mir
open PySem L2 PyProof.Rows
def mMulU : D → D → C D := fun a b S => match a, b with
  | .tup ds, .int k => if k = 1 then .ok (.tup ds) S else if ds ≠ [] ∧ 2 ≤ k ∧ k ≤ 5000 ∧ ds.length ≤ 200 then .ok (.tup (List.replicate k.toNat ds).flatten) S else .bad
  | _, _ => .bad
section
variable {X : Cx} {W : WX}
theorem op2_mulU : Op2 X W (binaryOp .Mult) mMulU := by
  refine ⟨_, op_repU.or op_rep1, fun ρ S H σ d e x y Q s r1 r2 o => ?_⟩
  unfold mMulU at o
  split at o
  · split at o
    · rename_i ds k c
      obtain ⟨a, vs, e1, q1, v1⟩ := VR_tup.mp r1
      rw [c] at r2
      exact .inr ⟨a, vs, e1, VR_int.mp r2, q1, by rw [← e1]; exact o ρ H x (.refl _ _) s r1⟩
    split at o
    · rename_i ds k _ c
      obtain ⟨a, vs, e1, q1, v1⟩ := VR_tup.mp r1
      refine .inl ⟨a, k, vs, e1, VR_int.mp r2, q1, fun z => c.1 ?_, c.2.1, c.2.2.1, by rw [← v1.length]; exact c.2.2.2, new_tup s o (v1.rep _)⟩
      have := v1.length
      rw [z] at this
      exact List.length_eq_zero_iff.mp (by simpa using this)
    · exact o.elim
  · exact o.elim
end
/-! ### plain data, with truth values -/
def Pb : Nat → D → Prop
  | 0, _ => False
  | n + 1, d => match d with
    | .non => True
    | .bl _ => True
    | .int _ => True
    | .str x => PyData.strOk x = true
    | .tup ds => ∀ d ∈ ds, Pb n d
    | _ => False
theorem pb_pys {n : Nat} (ih : ∀ d, Pb n d → ∃ p, d.py = some p ∧ p.canLay0 = true ∧ p.depth ≤ n) : ∀ ds : List D, (∀ d ∈ ds, Pb n d) → ∃ ps, D.pys ds = some ps ∧ PyData.canLayAll0 ps = true ∧ PyData.depthAll ps ≤ n
  | [], _ => ⟨[], by rw [D.pys], by rw [PyData.canLayAll0], by rw [PyData.depthAll]; omega⟩
  | d :: ds, h => by
    obtain ⟨p, h1, h2, h3⟩ := ih d (h d (List.mem_cons_self ..))
    obtain ⟨ps, g1, g2, g3⟩ := pb_pys ih ds fun e he => h e (List.mem_cons_of_mem _ he)
    exact ⟨p :: ps, by rw [D.pys, h1, g1], by rw [PyData.canLayAll0, h2, g2]; rfl, by rw [PyData.depthAll]; omega⟩
theorem pb_py : ∀ (n : Nat) (d : D), Pb n d → ∃ p, d.py = some p ∧ p.canLay0 = true ∧ p.depth ≤ n
  | 0, d, h => h.elim
  | n + 1, d, h => by
    cases d with
    | non => exact ⟨.none, by rw [D.py], by rw [PyData.canLay0], by rw [PyData.depth]; omega⟩
    | bl b => exact ⟨.bool b, by rw [D.py], by rw [PyData.canLay0], by rw [PyData.depth]; omega⟩
    | int i => exact ⟨.int i, by rw [D.py], by rw [PyData.canLay0], by rw [PyData.depth]; omega⟩
    | str x => exact ⟨.str x, by rw [D.py], by rw [PyData.canLay0]; exact h, by rw [PyData.depth]; omega⟩
    | tup ds =>
      obtain ⟨ps, h1, h2, h3⟩ := pb_pys (pb_py n) ds h
      exact ⟨.tuple ps, by rw [D.py, h1]; rfl, by rw [PyData.canLay0]; exact h2, by rw [PyData.depth]; omega⟩
    | _ => exact h.elim
section
variable {S : ST} {Q : D → ST → Prop} {X : XQ} {ds : List D}
theorem r_mulU {k : Nat} (h : 1 ≤ k) (h2 : k ≤ 5000) (h0 : ds ≠ []) (hl : ds.length ≤ 200) (q : Q (.tup (List.replicate k ds).flatten) S) : wpR (mMulU (.tup ds) (.int k) S) Q X := by
  unfold mMulU
  dsimp only
  split
  · rename_i c
    have : k = 1 := by omega
    subst this
    have q2 : Q (.tup ds) S := by simpa using q
    exact q2
  · rw [if_pos ⟨h0, by omega, by omega, hl⟩]
    exact q
/-- a tuple against () -/
theorem w_eqNilT {n : Nat} (h : ∀ d ∈ ds, Pb n d) (hn : n ≤ 60) (q1 : ds = [] → Q (.bl true) S) (q2 : ds ≠ [] → Q (.bl false) S) : wpR (mEq (.tup ds) (.tup []) S) Q X := by
  obtain ⟨ps, h1, h2, h3⟩ := pb_pys (pb_py n) ds h
  have s1 : SeqAt.shaped (.tuple ps) = true := shaped_of (n := n + 1) (by rw [PyData.canLay0]; exact h2) (by rw [PyData.depth]; omega) (by omega)
  have s2 : SeqAt.shaped (.tuple []) = true := shaped_of (n := n + 1) (by rw [PyData.canLay0, PyData.canLayAll0]) (by rw [PyData.depth, PyData.depthAll]; omega) (by omega)
  have e1 : (D.tup ds).pyS S = some (.tuple ps) := by show (D.tup ds).py = _; rw [D.py, h1]; rfl
  have e2 : (D.tup []).pyS S = some (.tuple []) := by show (D.tup []).py = _; rw [D.py, D.pys]; rfl
  unfold mEq mEqB
  dsimp only
  rw [e1, e2]
  dsimp only
  rw [s1, s2]
  cases ds with
  | nil =>
    rw [D.pys] at h1
    cases h1
    rw [PyData.eqv, PyData.eqvAll]
    exact q1 rfl
  | cons d ds =>
    obtain ⟨p, ps', rfl⟩ : ∃ p ps', ps = p :: ps' := by
      rw [D.pys] at h1
      split at h1 <;> cases h1
      exact ⟨_, _, rfl⟩
    rw [PyData.eqv, PyData.eqvAll]
    · exact q2 (by simp)
    all_goals simp
end
end Mir

namespace L2
open PySem PySem.Spec PyProof.Rows
section
variable {X : Cx}
theorem op_nin_rng : OpR X (compareOp .NotIn) (fun x y H Q => ∃ i a lo hi, x = V.int i ∧ y = V.ref a ∧ H a = some (.rng lo hi) ∧ Q (.bl (!decide (lo ≤ i ∧ i < hi))) H) := by
  intro pins s σ H x y v u Q I rx ry h
  obtain ⟨i, a, lo, hi, rfl, rfl, ha, q⟩ := h
  obtain ⟨k, rfl⟩ := rx
  obtain rfl : u = Value.ref a := ry
  obtain ⟨t1, t2, t3, ho⟩ := I.hok a _ ha
  show wpAny _ _ (do return Value.bool (!(← contains (Value.ref a) (Value.int i k)))) _ _ s
  refine wpAny_bind (wpAny_contains_slot (T := "range") ⟨_, ho, rfl⟩ F.slot_range_contains (call_meets F.slot_range_contains ⟨_, ho, rfl⟩ F.entry_range_contains (F.args_range_contains_2 _ _) (q_contains a lo hi i t1 t2 t3 k)
    ⟨ho, wpAny_truthy_bool (wpAny_pure ⟨.bl _, H, I, rfl, ?_⟩)⟩))
  rw [place1]
  exact q
end
end L2
namespace Mir
open PySem L2 PyProof.Rows
/-! ### x not in range(a, b) -/
def mNinR : D → List D → C D := fun d ds S => match d, ds with
  | .int i, [.int a, .int b] => .ok (.bl (!decide (a ≤ i ∧ i < b))) S
  | _, _ => .bad
def eNinR (fx : ME) (ga : MA) : ME := fun G S => (fx G S).bind fun d S1 => (ga G S1).bind fun ds S2 => mNinR d ds S2
section
variable {X : Cx} {W : WX} {a e : Expr} {es : List Expr} {fx : ME} {ga : MA} {p cpos pos : Pos}
theorem ninR_end {σ : L2.St} {H : Hp} {Q : VK} (h : tE X W (eNinR fx ga) σ H Q) :
    tOp (fun x y H Q => ∃ i a lo hi, x = V.int i ∧ y = V.ref a ∧ H a = some (.rng lo hi) ∧ Q (.bl (!decide (lo ≤ i ∧ i < hi))) H) (tE X W fx) (tCB (fun vs H Q => ∃ i j, vs = [V.int i, V.int j] ∧ ∀ p, H p = none → Q (.ref p) (upd H p (.rng i j))) (tA X W ga)) σ H Q := by
  refine tG_mono (tG_bind (f := fx) (g := fun d G S1 => (ga G S1).bind fun ds S2 => mNinR d ds S2) h) fun x H1 q => ?_
  obtain ⟨ρ, G, S, d, g, s, r1, o⟩ := q
  refine ⟨ρ, G, S, g, s, OutG.mono (out_bind (rel := rVs X) o) (.refl _ _) fun ys H2 q2 => ?_⟩
  obtain ⟨ρ2, S2, ds, x2, s2, r2, o2⟩ := q2
  have r1' := VR.mono x2 r1
  unfold mNinR at o2
  split at o2
  · rename_i i a b
    obtain ⟨v1, v2, rfl, ra, rb⟩ := VRs.two r2
    have e1 := VR_int.mp r1'
    have e2 := VR_int.mp ra
    have e3 := VR_int.mp rb
    subst e1 e2 e3
    exact ⟨a, b, rfl, fun p hp => ⟨i, p, a, b, rfl, rfl, upd_same, o2 ρ2 _ _ (.junk hp) (s2.junk hp) (VR_bl.mpr rfl)⟩⟩
  · exact o2.elim
theorem de_ninR (hg : Gl X "range") (hm : X.mg "range" = none) (ha : DE X W a fx) (hA : DA X W (e :: es) ga)
    (hb : behindInMarks .NotIn (.Call (.Name "range" p) (e :: es) [] cpos) = false := by first | exact nomark _ (by decide) (by decide) | rfl)
    (he : starEach (e :: es) X.env = (false, eval e X.env) :: starEach es X.env := by rfl) (hpl : (backTo cpos (starEach es X.env)).any (·.1) = false := by rfl) :
    DE X W (.Compare a [.NotIn] [.Call (.Name "range" p) (e :: es) [] cpos] pos) (eNinR fx ga) :=
  PE.weak (pe_cmpR op_nin_rng ha (pe_callTy cr_range2 hg hm PyProof.Rows.boot_range hA (by decide) (by decide) he hpl) hb) fun σ H Q h => ninR_end h
theorem dt_ninR (hg : Gl X "range") (hm : X.mg "range" = none) (ha : DE X W a fx) (hA : DA X W (e :: es) ga)
    (hb : behindInMarks .NotIn (.Call (.Name "range" p) (e :: es) [] cpos) = false := by first | exact nomark _ (by decide) (by decide) | rfl)
    (he : starEach (e :: es) X.env = (false, eval e X.env) :: starEach es X.env := by rfl) (hpl : (backTo cpos (starEach es X.env)).any (·.1) = false := by rfl) :
    DT X W (.Compare a [.NotIn] [.Call (.Name "range" p) (e :: es) [] cpos] pos) (tb (eNinR fx ga)) :=
  PT.weak (pt_cmpR op_nin_rng ha (pe_callTy cr_range2 hg hm PyProof.Rows.boot_range hA (by decide) (by decide) he hpl) hb) fun σ H Q h => tb_test (fun Q h => ninR_end h) h
end
section
variable {G : GE} {S : ST} {Q : D → ST → Prop} {X : XQ} {fx : ME} {ga : MA}
def kNinR (d : D) (Q : D → ST → Prop) (X : XQ) : List D → ST → Prop := fun ds S => wpR (mNinR d ds S) Q X
theorem wp_eNinR : wpE (eNinR fx ga) G S Q X = wpE fx G S (fun d S1 => wpE ga G S1 (kNinR d Q X) X) X := by
  unfold wpE eNinR
  rw [wp_bind]
  congr 1
  funext d S1
  rw [wp_bind]
  rfl
theorem kNinR_eq {i a b : Int} : kNinR (.int i) Q X [.int a, .int b] S = Q (.bl (!decide (a ≤ i ∧ i < b))) S := rfl
end
end Mir

namespace L2
open PySem PySem.Spec PyProof.Rows
theorem maxOf_int : ∀ (ns : List Int) (x : Int), PySem.W.maxOf x ns = Mir.maxI x ns
  | [], x => rfl
  | y :: ns, x => by
    have e : PySem.W.maxOf x (y :: ns) = PySem.W.maxOf (if decide (x < y) = true then y else x) ns := rfl
    rw [e, maxOf_int ns]
    show _ = Mir.maxI (if x < y then y else x) ns
    congr 1
    by_cases c : x < y <;> simp [c]
theorem minOf_int : ∀ (ns : List Int) (x : Int), PySem.W.minOf x ns = Mir.minI x ns
  | [], x => rfl
  | y :: ns, x => by
    have e : PySem.W.minOf x (y :: ns) = PySem.W.minOf (if decide (y < x) = true then y else x) ns := rfl
    rw [e, minOf_int ns]
    show _ = Mir.minI (if y < x then y else x) ns
    congr 1
    by_cases c : y < x <;> simp [c]
theorem holds_int_inv {h : Heap} {v : Value} {n : Int} (H : PySem.W.Holds h v n) : ∃ t, v = .int n t := by
  obtain ⟨as, r⟩ := H
  cases r
  exact ⟨_, rfl⟩
section
variable {X : Cx}
theorem cr_maxT (hc : X.calm = true) (hu : X.A.units + 65 < cLine) : CallR X (.builtin "max") (fun vs H Q => ∃ a x ns, vs = [V.ref a] ∧ SqT X.K H a ((x :: ns).map V.int) ∧ Q (.int (Mir.maxI x ns)) H) := by
  intro pins s σ H vs us Q I r h
  obtain ⟨a, x, ns, rfl, hs, q⟩ := h
  obtain ⟨its, rv, p, hz⟩ := I.tuple hs
  rw [Vals.ref1 r]
  refine PySem.W.max_tuple_datum (α := Int) (vs := its.toArray) (I.ok.hd hc) ?_ (PySem.W.HoldAll.of_ints rv.ints) (by show X.A.units + 1 + 0 < cLine; omega) fun i v h' tk hi hH hk => ?_
  · exact p
  · obtain ⟨t, rfl⟩ := holds_int_inv hH
    rw [maxOf_int]
    exact ⟨.int _, H, I.kept hk, ⟨t, rfl⟩, q⟩
theorem cr_minT (hc : X.calm = true) (hu : X.A.units + 65 < cLine) : CallR X (.builtin "min") (fun vs H Q => ∃ a x ns, vs = [V.ref a] ∧ SqT X.K H a ((x :: ns).map V.int) ∧ Q (.int (Mir.minI x ns)) H) := by
  intro pins s σ H vs us Q I r h
  obtain ⟨a, x, ns, rfl, hs, q⟩ := h
  obtain ⟨its, rv, p, hz⟩ := I.tuple hs
  rw [Vals.ref1 r]
  refine PySem.W.min_tuple_datum (α := Int) (vs := its.toArray) (I.ok.hd hc) ?_ (PySem.W.HoldAll.of_ints rv.ints) (by show X.A.units + 1 + 0 < cLine; omega) fun i v h' tk hi hH hk => ?_
  · exact p
  · obtain ⟨t, rfl⟩ := holds_int_inv hH
    rw [minOf_int]
    exact ⟨.int _, H, I.kept hk, ⟨t, rfl⟩, q⟩
end
end L2
namespace Mir
open PySem L2 PyProof.Rows
/-! ### max, min of a tuple of ints (or of a list) -/
def bMaxT : List D → C D := fun ds S => match ds with | [.tup es] => (match intsD es with | some (x :: r) => .ok (.int (maxI x r)) S | _ => .bad) | _ => .bad
def bMinT : List D → C D := fun ds S => match ds with | [.tup es] => (match intsD es with | some (x :: r) => .ok (.int (minI x r)) S | _ => .bad) | _ => .bad
def bMaxA : List D → C D := fun ds S => match ds with | [.tup es] => bMaxT [.tup es] S | ds => bMax1 ds S
def bMinA : List D → C D := fun ds S => match ds with | [.tup es] => bMinT [.tup es] S | ds => bMin1 ds S
section
variable {X : Cx} {W : WX}
theorem bi_maxT (hc : X.calm = true) (hu : X.A.units + 65 < cLine) : Bi X W (.builtin "max") bMaxT := by
  refine ⟨_, cr_maxT hc hu, fun ρ S H σ ds xs Q s r o => ?_⟩
  unfold bMaxT at o
  split at o
  · obtain ⟨v, rfl, r1⟩ := r.one
    split at o
    · rename_i x ns hn
      obtain ⟨a, vs, rfl, q1, v1⟩ := VR_tup.mp r1
      rw [intsD_eq hn] at v1
      rw [v1.ints] at q1
      exact ⟨a, x, ns, rfl, q1, o ρ H _ (.refl _ _) s (VR_int.mpr rfl)⟩
    · exact o.elim
  · exact o.elim
theorem bi_minT (hc : X.calm = true) (hu : X.A.units + 65 < cLine) : Bi X W (.builtin "min") bMinT := by
  refine ⟨_, cr_minT hc hu, fun ρ S H σ ds xs Q s r o => ?_⟩
  unfold bMinT at o
  split at o
  · obtain ⟨v, rfl, r1⟩ := r.one
    split at o
    · rename_i x ns hn
      obtain ⟨a, vs, rfl, q1, v1⟩ := VR_tup.mp r1
      rw [intsD_eq hn] at v1
      rw [v1.ints] at q1
      exact ⟨a, x, ns, rfl, q1, o ρ H _ (.refl _ _) s (VR_int.mpr rfl)⟩
    · exact o.elim
  · exact o.elim
theorem bi_maxA (hc : X.calm = true) (hu : X.A.units + 65 < cLine) : Bi X W (.builtin "max") bMaxA := Bi.or (bi_max1 hc) (bi_maxT hc hu) fun ds S => by
  unfold bMaxA
  split
  · exact .inr rfl
  · exact .inl rfl
theorem bi_minA (hc : X.calm = true) (hu : X.A.units + 65 < cLine) : Bi X W (.builtin "min") bMinA := Bi.or (bi_min1 hc) (bi_minT hc hu) fun ds S => by
  unfold bMinA
  split
  · exact .inr rfl
  · exact .inl rfl
end
section
variable {S : ST} {Q : D → ST → Prop} {XX : XQ}
theorem r_maxAT {x : Int} {ns : List Int} : wpR (bMaxA [.tup ((x :: ns).map D.int)] S) Q XX = Q (.int (maxI x ns)) S := by
  show wpR (match intsD ((x :: ns).map D.int) with | some (x :: r) => .ok (.int (maxI x r)) S | _ => .bad) Q XX = _
  rw [intsD_map]
  rfl
theorem r_minAT {x : Int} {ns : List Int} : wpR (bMinA [.tup ((x :: ns).map D.int)] S) Q XX = Q (.int (minI x ns)) S := by
  show wpR (match intsD ((x :: ns).map D.int) with | some (x :: r) => .ok (.int (minI x r)) S | _ => .bad) Q XX = _
  rw [intsD_map]
  rfl
theorem r_maxAR {n : Nat} : wpR (bMaxA [.ref n] S) Q XX = wpR (bMax1 [.ref n] S) Q XX := rfl
theorem r_minAR {n : Nat} : wpR (bMinA [.ref n] S) Q XX = wpR (bMin1 [.ref n] S) Q XX := rfl
end
end Mir

namespace Pf
open PySem L2 PyProof.Rows Mir
def top (i : Nat) : Stmt := PySem.Challenge.pw_nowhisper_k60_plans_that_can_be_kept.main.body.getD i (.Pass ⟨0, 0, 0, 0⟩)
def cD_LINES_A_FRAME : D := .int 4
/-! ### the mirror -/
@[irreducible] noncomputable def b__law_draws : MS :=
 (sSeq (sSet 2 (eLst aNil))
 (sSeq (sSet 3 (eC (.int 7)))
 (sSeq (sFor (iRg1 (aCons (eCall bLen (aCons (eV 0) aNil)) aNil)) (.nm 4)
 (sSeq (sSet 5 (eCall bAbs (aCons (eCall bInt (aCons (e2 mIx (eV 0) (eV 4)) aNil)) aNil)))
 (sSeq (sSet 3 (e2 mMod (eCall bInt (aCons (e2 mAdd (e2 mAdd (e2 mMul (eV 3) (eC (.int 48271))) (e2 mMod (eV 5) (eC (.int 1000003)))) (eV 4)) aNil)) (eC (.int 65537))))
 (sSeq (sSet 6 (eC (.int 0)))
 (sSeq (sIf (tb (e2 mGe (eV 5) (e2 mPow (eC (.int 10)) (eC (.int 18)))))
 (sSet 6 (eV 5))
 (sSeq (sExpr (eBm "list" bAppend (eV 2) (aCons (e2 mMod (eCall bInt (aCons (eV 5) aNil)) (eC (.int 997))) aNil)))
 (sExpr (eBm "list" bAppend (eV 2) (aCons (e2 mMod (e2 mMod (eCall bInt (aCons (e2 mAdd (e2 mMul (eV 3) (eC (.int 69621))) (eC (.int 5))) aNil)) (eC (.int 65521))) (eC (.int 997))) aNil)))))
 (sFor (iRg1 (aCons (eC (.int 60)) aNil)) (.nm 7)
 (sIf (tb (e2 mGt (eV 6) (eC (.int 0))))
 (sSeq (sExpr (eBm "list" bAppend (eV 2) (aCons (e2 mMod (eCall bInt (aCons (eV 6) aNil)) (eC (.int 997))) aNil)))
 (sSet 6 (e2 mFDiv (eV 6) (eC (.int 997)))))
 sNil)))))))
 (sSeq (sFor (iRg1 (aCons (eV 1) aNil)) (.nm 4)
 (sSeq (sSet 3 (e2 mMod (eCall bInt (aCons (e2 mAdd (e2 mAdd (e2 mMul (eV 3) (eC (.int 16807))) (eV 4)) (eC (.int 1))) aNil)) (eC (.int 65537))))
 (sExpr (eBm "list" bAppend (eV 2) (aCons (e2 mMod (eCall bInt (aCons (eV 3) aNil)) (eC (.int 997))) aNil)))))
 (sRet (eSl (eV 2) oNone (oSome (eV 1))))))))
@[irreducible] noncomputable def m__law_draws : Fn := mkFn 2 6 b__law_draws
theorem mLen__law_draws : ∀ ds S, ds.length ≠ 2 → m__law_draws ds S = .bad := fun ds S h => by unfold m__law_draws; exact mkFn_len ds S h
@[irreducible] noncomputable def b__law_next : MS :=
 (sSeq (sPutAug mIAdd (eV 0) (eC (.str "at")) (eC (.int 1)))
 (sSeq (sIf (tb (e2 mGt (e2 mIx (eV 0) (eC (.str "at"))) (eCall bLen (aCons (e2 mIx (eV 0) (eC (.str "draws"))) aNil))))
 (sRet (eC (.int 0)))
 sNil)
 (sRet (e2 mMod (eCall bInt (aCons (e2 mIx (e2 mIx (eV 0) (eC (.str "draws"))) (e2 mSub (e2 mIx (eV 0) (eC (.str "at"))) (eC (.int 1)))) aNil)) (eV 1)))))
@[irreducible] noncomputable def m__law_next : Fn := mkFn 2 0 b__law_next
theorem mLen__law_next : ∀ ds S, ds.length ≠ 2 → m__law_next ds S = .bad := fun ds S h => by unfold m__law_next; exact mkFn_len ds S h
@[irreducible] noncomputable def b__law_pick : MS :=
 (sRet (e2 mIx (eV 1) (eFn 2 m__law_next (aCons (eV 0) (aCons (eCall bLen (aCons (eV 1) aNil)) aNil)))))
@[irreducible] noncomputable def m__law_pick : Fn := mkFn 2 0 b__law_pick
theorem mLen__law_pick : ∀ ds S, ds.length ≠ 2 → m__law_pick ds S = .bad := fun ds S h => by unfold m__law_pick; exact mkFn_len ds S h
@[irreducible] noncomputable def b__law_off : MS :=
 (sRet (eAnd (e2 mIx (eV 0) (eC (.str "wrong"))) (e2 mEq (eFn 2 m__law_next (aCons (eV 0) (aCons (eV 1) aNil))) (eC (.int 0)))))
@[irreducible] noncomputable def m__law_off : Fn := mkFn 2 0 b__law_off
theorem mLen__law_off : ∀ ds S, ds.length ≠ 2 → m__law_off ds S = .bad := fun ds S h => by unfold m__law_off; exact mkFn_len ds S h
@[irreducible] noncomputable def b__law_cache : MS :=
 (sSeq (sSet 2 (eIf (Mir.tNot (tTru (eFn 2 m__law_off (aCons (eV 0) (aCons (eC (.int 14)) aNil))))) (eFn 2 m__law_pick (aCons (eV 0) (aCons (eLst (aCons (eC (.int 4)) (aCons (eC (.int 8)) (aCons (eC (.int 16)) (aCons (eC (.int 64)) (aCons (eC (.int 12)) (aCons (eC (.int 20)) (aCons (eC (.int 32)) aNil)))))))) aNil))) (eFn 2 m__law_pick (aCons (eV 0) (aCons (eLst (aCons (eC (.int 0)) (aCons (eC (.int 2)) (aCons (eC (.int 6)) (aCons (eC (.int 68)) (aCons (eC (.int 13)) aNil)))))) aNil)))))
 (sSeq (sSet 3 (eIf (Mir.tNot (tTru (eFn 2 m__law_off (aCons (eV 0) (aCons (eC (.int 14)) aNil))))) (e2 mAdd (eC (.int 1)) (eFn 2 m__law_next (aCons (eV 0) (aCons (eC (.int 4)) aNil)))) (eFn 2 m__law_pick (aCons (eV 0) (aCons (eLst (aCons (eC (.int 0)) (aCons (eC (.int 5)) aNil))) aNil)))))
 (sSeq (sSet 4 (eFn 2 m__law_pick (aCons (eV 0) (aCons (eLst (aCons (eC (.str "shared")) (aCons (eC (.str "flushed")) (aCons (eC (.str "coloured")) aNil)))) aNil))))
 (sSeq (sIf (Mir.tAnd (tb (e2 mEq (eV 4) (eC (.str "coloured")))) (Mir.tAnd (tb (e2 mLt (e2 mFDiv (eV 2) (eC (.int 4))) (eV 1))) (Mir.tNot (tTru (eFn 2 m__law_off (aCons (eV 0) (aCons (eC (.int 2)) aNil)))))))
 (sSet 2 (e2 mMul (eC (.int 4)) (e2 mAdd (eV 1) (eFn 2 m__law_next (aCons (eV 0) (aCons (eC (.int 3)) aNil))))))
 sNil)
 (sRet (eTup (aCons (eV 2) (aCons (eV 3) (aCons (eV 4) aNil)))))))))
@[irreducible] noncomputable def m__law_cache : Fn := mkFn 2 3 b__law_cache
theorem mLen__law_cache : ∀ ds S, ds.length ≠ 2 → m__law_cache ds S = .bad := fun ds S h => by unfold m__law_cache; exact mkFn_len ds S h
@[irreducible] noncomputable def b__law_ticks : MS :=
 (sSeq (sSet 1 (e2 mAdd (eC (.int 1)) (eFn 2 m__law_next (aCons (eV 0) (aCons (eC (.int 5)) aNil)))))
 (sSeq (sSet 2 (eLst (aCons (eV 1) (aCons (e2 mAdd (eV 1) (eFn 2 m__law_pick (aCons (eV 0) (aCons (eLst (aCons (eC (.int 0)) (aCons (eC (.int 1)) (aCons (eC (.int 3)) (aCons (eC (.int 20)) (aCons (eC (.int 995)) aNil)))))) aNil)))) (aCons (eFn 2 m__law_pick (aCons (eV 0) (aCons (eLst (aCons (eC (.int 1)) (aCons (eC (.int 2)) (aCons (eC (.int 9)) (aCons (eC (.int 1000)) aNil))))) aNil))) (aCons (eFn 2 m__law_pick (aCons (eV 0) (aCons (eLst (aCons (eC (.int 1)) (aCons (eC (.int 5)) (aCons (eC (.int 30)) (aCons (eC (.int 60)) (aCons (eC (.int 1000)) aNil)))))) aNil))) aNil))))))
 (sSeq (sIf (tTru (eFn 2 m__law_off (aCons (eV 0) (aCons (eC (.int 8)) aNil))))
 (sSeq (sSet 3 (eFn 2 m__law_next (aCons (eV 0) (aCons (eC (.int 4)) aNil))))
 (sSet 2 (e2 mAdd (e2 mAdd (eSl (eV 2) oNone (oSome (eV 3))) (eLst (aCons (eFn 2 m__law_pick (aCons (eV 0) (aCons (eLst (aCons (eC (.int 0)) (aCons (eC (.int 1001)) (aCons (eC (.int 1)) aNil)))) aNil))) aNil))) (eSl (eV 2) (oSome (e2 mAdd (eV 3) (eC (.int 1)))) oNone))))
 sNil)
 (sRet (eCall bTuple (aCons (eV 2) aNil))))))
@[irreducible] noncomputable def m__law_ticks : Fn := mkFn 1 3 b__law_ticks
theorem mLen__law_ticks : ∀ ds S, ds.length ≠ 1 → m__law_ticks ds S = .bad := fun ds S h => by unfold m__law_ticks; exact mkFn_len ds S h
@[irreducible] noncomputable def b__law_a_guest : MS :=
 (sRet (eIf (Mir.tNot (tTru (eFn 2 m__law_off (aCons (eV 0) (aCons (eC (.int 60)) aNil))))) (e2 mIx (eFn 2 m__law_pick (aCons (eV 0) (aCons (eV 1) aNil))) (eC (.int 0))) (eC (.str "nobody"))))
@[irreducible] noncomputable def m__law_a_guest : Fn := mkFn 2 0 b__law_a_guest
theorem mLen__law_a_guest : ∀ ds S, ds.length ≠ 2 → m__law_a_guest ds S = .bad := fun ds S h => by unfold m__law_a_guest; exact mkFn_len ds S h
@[irreducible] noncomputable def b__law_channel : MS :=
 (sSeq (sSet 2 (eFn 2 m__law_a_guest (aCons (eV 0) (aCons (eV 1) aNil))))
 (sSeq (sSet 3 (eLc (iSeq (eV 1)) (.nm 5) (tb (e2 mNe (e2 mIx (eV 5) (eC (.int 0))) (eV 2))) (eV 5) [5]))
 (sSeq (sSet 4 (eFn 2 m__law_a_guest (aCons (eV 0) (aCons (eIf (Mir.tAnd (tb (e2 mNe (eV 3) (eLst aNil))) (Mir.tNot (tTru (eFn 2 m__law_off (aCons (eV 0) (aCons (eC (.int 30)) aNil)))))) (eV 3) (eV 1)) aNil))))
 (sRet (eTup (aCons (eV 2) (aCons (eV 4) (aCons (eIf (Mir.tNot (tTru (eFn 2 m__law_off (aCons (eV 0) (aCons (eC (.int 12)) aNil))))) (eFn 2 m__law_pick (aCons (eV 0) (aCons (eLst (aCons (eC (.int 1)) (aCons (eC (.int 2)) (aCons (eC (.int 64)) (aCons (eC (.int 5)) aNil))))) aNil))) (eFn 2 m__law_pick (aCons (eV 0) (aCons (eLst (aCons (eC (.int 0)) (aCons (eC (.int 65)) (aCons (eC (.int 100)) aNil)))) aNil)))) aNil))))))))
@[irreducible] noncomputable def m__law_channel : Fn := mkFn 2 4 b__law_channel
theorem mLen__law_channel : ∀ ds S, ds.length ≠ 2 → m__law_channel ds S = .bad := fun ds S h => by unfold m__law_channel; exact mkFn_len ds S h
@[irreducible] noncomputable def b__law_worst : MS :=
 (sSeq (sSetT (.tp [1, 2, 3, 4]) (eV 0))
 (sRet (e2 mAdd (eCall bMax2 (aCons (eV 4) (aCons (e2 mAdd (eC (.int 1)) (e2 mMul (eC (.int 2)) (e2 mAdd (eV 3) (eCall bMax2 (aCons (eV 1) (aCons (eV 2) aNil)))))) aNil))) (eV 4))))
@[irreducible] noncomputable def m__law_worst : Fn := mkFn 1 4 b__law_worst
theorem mLen__law_worst : ∀ ds S, ds.length ≠ 1 → m__law_worst ds S = .bad := fun ds S h => by unfold m__law_worst; exact mkFn_len ds S h
@[irreducible] noncomputable def b__law_frames : MS :=
 (sSeq (sSet 2 (eLst aNil))
 (sSeq (sSet 3 (eC (.int 0)))
 (sSeq (sSet 4 (e2 mFDiv (e2 mIx (eV 0) (eC (.int 0))) (eC (.int 4))))
 (sSeq (sFor (iRg1 (aCons (eCall bLen (aCons (eV 1) aNil)) aNil)) (.nm 5)
 (sSeq (sSet 6 (eLst aNil))
 (sSeq (sSet 7 (eV 3))
 (sSeq (sWhile (tb (e2 mLt (eCall bLen (aCons (eV 6) aNil)) (e2 mIx (e2 mIx (eV 1) (eV 5)) (eC (.int 1)))))
 (sSeq (sIf (Mir.tOr (tb (e2 mNe (e2 mIx (eV 0) (eC (.int 2))) (eC (.str "coloured")))) (tb (e2 mEq (e2 mMod (e2 mMod (eCall bInt (aCons (eV 7) aNil)) (eV 4)) (eCall bLen (aCons (eV 1) aNil))) (eV 5))))
 (sExpr (eBm "list" bAppend (eV 6) (aCons (eV 7) aNil)))
 sNil)
 (sAug 7 mIAdd (eC (.int 1)))))
 (sSeq (sSet 3 (eIf (tb (e2 mEq (e2 mIx (eV 0) (eC (.int 2))) (eC (.str "coloured")))) (eC (.int 0)) (eV 7)))
 (sExpr (eBm "list" bAppend (eV 2) (aCons (eCall bTuple (aCons (eV 6) aNil)) aNil))))))))
 (sRet (eCall bTuple (aCons (eV 2) aNil)))))))
@[irreducible] noncomputable def m__law_frames : Fn := mkFn 2 6 b__law_frames
theorem mLen__law_frames : ∀ ds S, ds.length ≠ 2 → m__law_frames ds S = .bad := fun ds S h => by unfold m__law_frames; exact mkFn_len ds S h
@[irreducible] noncomputable def b__law_plan : MS :=
 (sSeq (sSet 1 (e2 mAdd (eC (.int 1)) (eFn 2 m__law_next (aCons (eV 0) (aCons (eC (.int 5)) aNil)))))
 (sSeq (sSet 2 (eLst aNil))
 (sSeq (sFor (iRg1 (aCons (eV 1) aNil)) (.nm 3)
 (sSeq (sSet 4 (eIf (Mir.tNot (tTru (eFn 2 m__law_off (aCons (eV 0) (aCons (eC (.int 45)) aNil))))) (e2 mIx (eLst (aCons (eC (.str "a")) (aCons (eC (.str "b")) (aCons (eC (.str "c1")) (aCons (eC (.str "d_")) (aCons (eC (.str "e")) aNil)))))) (eV 3)) (eC (.str "b"))))
 (sExpr (eBm "list" bAppend (eV 2) (aCons (eTup (aCons (eV 4) (aCons (eIf (Mir.tNot (tTru (eFn 2 m__law_off (aCons (eV 0) (aCons (eC (.int 15)) aNil))))) (e2 mAdd (eC (.int 2)) (eFn 2 m__law_next (aCons (eV 0) (aCons (eC (.int 5)) aNil)))) (eFn 2 m__law_pick (aCons (eV 0) (aCons (eLst (aCons (eC (.int 1)) (aCons (eC (.int 0)) (aCons (eC (.int 65)) (aCons (eC (.int 64)) (aCons (eC (.int 66)) aNil)))))) aNil)))) aNil))) aNil)))))
 (sSeq (sSet 5 (eFn 2 m__law_cache (aCons (eV 0) (aCons (eV 1) aNil))))
 (sSeq (sSet 6 (eTup (aCons (eIf (Mir.tNot (tTru (eFn 2 m__law_off (aCons (eV 0) (aCons (eC (.int 14)) aNil))))) (e2 mAdd (eC (.int 1)) (eFn 2 m__law_next (aCons (eV 0) (aCons (eC (.int 16)) aNil)))) (eFn 2 m__law_pick (aCons (eV 0) (aCons (eLst (aCons (eC (.int 0)) (aCons (eC (.int 17)) aNil))) aNil)))) (aCons (eFn 2 m__law_pick (aCons (eV 0) (aCons (eLst (aCons (eC (.str "shared")) (aCons (eC (.str "flushed")) aNil))) aNil))) aNil))))
 (sSeq (sSet 7 (eFn 1 m__law_ticks (aCons (eV 0) aNil)))
 (sSeq (sSet 8 (eLc (iRg1 (aCons (eIf (Mir.tOr (tb (e2 mGt (eV 1) (eC (.int 1)))) (tTru (e2 mIx (eV 0) (eC (.str "wrong"))))) (eFn 2 m__law_next (aCons (eV 0) (aCons (eC (.int 5)) aNil))) (eC (.int 0))) aNil)) (.nm 3) tYesM (eFn 2 m__law_channel (aCons (eV 0) (aCons (eV 2) aNil))) [3]))
 (sSeq (sSet 9 (eLst aNil))
 (sSeq (sFor (iRg1 (aCons (e2 mAdd (eC (.int 1)) (eFn 2 m__law_next (aCons (eV 0) (aCons (eC (.int 6)) aNil)))) aNil)) (.nm 3)
 (sSeq (sSet 10 (eIf (tb (e2 mGt (eFn 2 m__law_next (aCons (eV 0) (aCons (eC (.int 8)) aNil))) (eC (.int 0)))) (e2 mAdd (eFn 1 m__law_worst (aCons (eV 7) aNil)) (eFn 2 m__law_pick (aCons (eV 0) (aCons (eLst (aCons (eC (.int 0)) (aCons (eC (.int 1)) (aCons (eC (.int 50)) (aCons (eC (.int 400)) aNil))))) aNil)))) (eC (.int 1000000))))
 (sExpr (eBm "list" bAppend (eV 9) (aCons (eTup (aCons (eFn 2 m__law_a_guest (aCons (eV 0) (aCons (eV 2) aNil))) (aCons (eIf (Mir.tNot (tTru (eFn 2 m__law_off (aCons (eV 0) (aCons (eC (.int 12)) aNil))))) (eV 10) (eFn 2 m__law_pick (aCons (eV 0) (aCons (eLst (aCons (e2 mSub (eFn 1 m__law_worst (aCons (eV 7) aNil)) (eC (.int 1))) (aCons (eC (.int 1000001)) aNil))) aNil)))) aNil))) aNil)))))
 (sSeq (sSet 11 (eOr (e2 mNe (e2 mIx (eV 5) (eC (.int 2))) (eC (.str "coloured"))) (e2 mGe (e2 mFDiv (e2 mIx (eV 5) (eC (.int 0))) (eC (.int 4))) (eV 1))))
 (sSeq (sSet 12 (eIf (tTru (eV 11)) (e2 mAdd (eCall bMaxA (aCons (eLc (iSeq (eFn 2 m__law_frames (aCons (eV 5) (aCons (eV 2) aNil)))) (.nm 13) tYesM (eCall bMaxA (aCons (e2 mAdd (eV 13) (eTup (aCons (eC (.int 0)) aNil))) aNil)) [13]) aNil)) (eC (.int 1))) (eC (.int 50))))
 (sSeq (sSet 12 (eIf (Mir.tNot (tTru (eFn 2 m__law_off (aCons (eV 0) (aCons (eC (.int 8)) aNil))))) (e2 mAdd (eV 12) (eFn 2 m__law_pick (aCons (eV 0) (aCons (eLst (aCons (eC (.int 0)) (aCons (eC (.int 0)) (aCons (eC (.int 1)) (aCons (eC (.int 9)) aNil))))) aNil)))) (eCall bMax2 (aCons (eC (.int 0)) (aCons (e2 mSub (e2 mSub (eV 12) (eC (.int 1))) (eFn 2 m__law_next (aCons (eV 0) (aCons (eC (.int 9)) aNil)))) aNil)))))
 (sRet (eTup (aCons (eC (.str "plan")) (aCons (eV 12) (aCons (eV 5) (aCons (eV 6) (aCons (eV 7) (aCons (eCall bTuple (aCons (eV 2) aNil)) (aCons (eCall bTuple (aCons (eV 8) aNil)) (aCons (eCall bTuple (aCons (eV 9) aNil)) aNil))))))))))))))))))))))
@[irreducible] noncomputable def m__law_plan : Fn := mkFn 1 13 b__law_plan
theorem mLen__law_plan : ∀ ds S, ds.length ≠ 1 → m__law_plan ds S = .bad := fun ds S h => by unfold m__law_plan; exact mkFn_len ds S h
@[irreducible] noncomputable def b__law_names_due : MS :=
 (sSeq (sSet 1 (eLc (iSeq (e2 mIx (eV 0) (eC (.int 5)))) (.nm 8) tYesM (e2 mIx (eV 8) (eC (.int 0))) [8]))
 (sSeq (sFor (iRg1 (aCons (eCall bLen (aCons (eV 1) aNil)) aNil)) (.nm 2)
 (sIf (tb (e2 mIn (e2 mIx (eV 1) (eV 2)) (eSl (eV 1) oNone (oSome (eV 2)))))
 (sRet (eTup (aCons (eC (.str "double")) (aCons (e2 mIx (eV 1) (eV 2)) aNil))))
 sNil))
 (sSeq (sSet 3 (eLst aNil))
 (sSeq (sFor (iSeq (e2 mIx (eV 0) (eC (.int 6)))) (.tp [4, 5, 6])
 (sSet 3 (e2 mAdd (eV 3) (eLst (aCons (eV 4) (aCons (eV 5) aNil))))))
 (sSeq (sFor (iSeq (e2 mAdd (eV 3) (eLc (iSeq (e2 mIx (eV 0) (eC (.int 7)))) (.nm 9) tYesM (e2 mIx (eV 9) (eC (.int 0))) [9]))) (.nm 7)
 (sIf (tb (e2 mNotIn (eV 7) (eV 1)))
 (sRet (eTup (aCons (eC (.str "unknown")) (aCons (eV 7) aNil))))
 sNil))
 (sSeq (sFor (iSeq (e2 mIx (eV 0) (eC (.int 6)))) (.tp [4, 5, 6])
 (sIf (tb (e2 mEq (eV 4) (eV 5)))
 (sRet (eTup (aCons (eC (.str "self")) (aCons (eV 4) aNil))))
 sNil))
 (sRet (eC .non))))))))
@[irreducible] noncomputable def m__law_names_due : Fn := mkFn 1 9 b__law_names_due
theorem mLen__law_names_due : ∀ ds S, ds.length ≠ 1 → m__law_names_due ds S = .bad := fun ds S h => by unfold m__law_names_due; exact mkFn_len ds S h
@[irreducible] noncomputable def b__law_rooms_due : MS :=
 (sSeq (sFor (iSeq (e2 mIx (eV 0) (eC (.int 5)))) (.tp [1, 2])
 (sIf (Mir.tOr (tb (e2 mLt (eV 2) (eC (.int 2)))) (tb (e2 mGt (eV 2) (eC (.int 64)))))
 (sRet (eTup (aCons (eC (.str "room")) (aCons (eV 1) aNil))))
 sNil))
 (sSeq (sFor (iSeq (e2 mIx (eV 0) (eC (.int 6)))) (.tp [3, 4, 5])
 (sIf (Mir.tOr (tb (e2 mLt (eV 5) (eC (.int 1)))) (tb (e2 mGt (eV 5) (eC (.int 64)))))
 (sRet (eTup (aCons (eC (.str "room")) (aCons (eV 3) aNil))))
 sNil))
 (sRet (eC .non))))
@[irreducible] noncomputable def m__law_rooms_due : Fn := mkFn 1 5 b__law_rooms_due
theorem mLen__law_rooms_due : ∀ ds S, ds.length ≠ 1 → m__law_rooms_due ds S = .bad := fun ds S h => by unfold m__law_rooms_due; exact mkFn_len ds S h
@[irreducible] noncomputable def b__law_is_cache : MS :=
 (sSeq (sSetT (.tp [1, 2, 3]) (e2 mIx (eV 0) (eC (.int 2))))
 (sSeq (sIf (Mir.tOr (tb (eNinR (eV 1) (aCons (eC (.int 4)) (aCons (eC (.int 65)) aNil)))) (Mir.tOr (tb (e2 mNe (e2 mMod (eCall bInt (aCons (eV 1) aNil)) (eC (.int 4))) (eC (.int 0)))) (Mir.tOr (tb (e2 mLt (eV 2) (eC (.int 1)))) (Mir.tOr (tb (e2 mGt (eV 2) (eC (.int 4)))) (Mir.tOr (tb (e2 mLt (e2 mIx (e2 mIx (eV 0) (eC (.int 3))) (eC (.int 0))) (eC (.int 1)))) (tb (e2 mGt (e2 mIx (e2 mIx (eV 0) (eC (.int 3))) (eC (.int 0))) (eC (.int 16)))))))))
 (sRet (eC (.bl false)))
 sNil)
 (sSeq (sIf (Mir.tAnd (tb (e2 mEq (eV 3) (eC (.str "coloured")))) (tb (e2 mGt (eCall bLen (aCons (e2 mIx (eV 0) (eC (.int 5))) aNil)) (e2 mFDiv (eV 1) (eC (.int 4))))))
 (sRet (eC (.bl false)))
 sNil)
 (sRet (eAnd (e2 mEq (eLc (iSeq (e2 mIx (eV 0) (eC (.int 4)))) (.nm 4) (Mir.tOr (tb (e2 mLt (eV 4) (eC (.int 1)))) (tb (e2 mGt (eV 4) (eC (.int 1000))))) (eV 4) [4]) (eLst aNil)) (e2 mGe (e2 mIx (e2 mIx (eV 0) (eC (.int 4))) (eC (.int 1))) (e2 mIx (e2 mIx (eV 0) (eC (.int 4))) (eC (.int 0)))))))))
@[irreducible] noncomputable def m__law_is_cache : Fn := mkFn 1 4 b__law_is_cache
theorem mLen__law_is_cache : ∀ ds S, ds.length ≠ 1 → m__law_is_cache ds S = .bad := fun ds S h => by unfold m__law_is_cache; exact mkFn_len ds S h
@[irreducible] noncomputable def b__law_due : MS :=
 (sSeq (sIf (tb (e2 mIsNot (eFn 1 m__law_names_due (aCons (eV 0) aNil)) (eC .non)))
 (sRet (eFn 1 m__law_names_due (aCons (eV 0) aNil)))
 sNil)
 (sSeq (sIf (tb (e2 mIsNot (eFn 1 m__law_rooms_due (aCons (eV 0) aNil)) (eC .non)))
 (sRet (eFn 1 m__law_rooms_due (aCons (eV 0) aNil)))
 sNil)
 (sSeq (sIf (Mir.tNot (tTru (eFn 1 m__law_is_cache (aCons (eV 0) aNil))))
 (sRet (eTup (aCons (eC (.str "cache")) (aCons (e2 mIx (eV 0) (eC (.int 0))) aNil))))
 sNil)
 (sSeq (sSet 1 (eFn 2 m__law_frames (aCons (e2 mIx (eV 0) (eC (.int 2))) (aCons (e2 mIx (eV 0) (eC (.int 5))) aNil))))
 (sSeq (sFor (iRg1 (aCons (eCall bLen (aCons (eV 1) aNil)) aNil)) (.nm 2)
 (sIf (tb (e2 mGe (eCall bMaxA (aCons (e2 mIx (eV 1) (eV 2)) aNil)) (e2 mIx (eV 0) (eC (.int 1)))))
 (sRet (eTup (aCons (eC (.str "memory")) (aCons (e2 mIx (e2 mIx (e2 mIx (eV 0) (eC (.int 5))) (eV 2)) (eC (.int 0))) aNil))))
 sNil))
 (sSeq (sFor (iSeq (e2 mIx (eV 0) (eC (.int 7)))) (.tp [3, 4])
 (sIf (Mir.tOr (tb (e2 mLt (eV 4) (eFn 1 m__law_worst (aCons (e2 mIx (eV 0) (eC (.int 4))) aNil)))) (tb (e2 mGt (eV 4) (eC (.int 1000000)))))
 (sRet (eTup (aCons (eC (.str "slot")) (aCons (eV 3) aNil))))
 sNil))
 (sRet (eC .non))))))))
@[irreducible] noncomputable def m__law_due : Fn := mkFn 1 4 b__law_due
theorem mLen__law_due : ∀ ds S, ds.length ≠ 1 → m__law_due ds S = .bad := fun ds S h => by unfold m__law_due; exact mkFn_len ds S h
noncomputable def m__law_alike : Nat → Fn
  | 0 => mBad
  | n + 1 => mkFn 2 1 ((sSeq (sIf (tTru (eCall bIsi (aCons (eV 1) (aCons (eC (.opq (.ty "tuple"))) aNil))))
 (sSeq (sIf (Mir.tOr (Mir.tNot (tTru (eCall bIsi (aCons (eV 0) (aCons (eC (.opq (.ty "tuple"))) aNil))))) (tb (e2 mNe (eCall bLen (aCons (eV 0) aNil)) (eCall bLen (aCons (eV 1) aNil)))))
 (sRet (eC (.bl false)))
 sNil)
 (sRet (e2 mEq (eLc (iRg1 (aCons (eCall bLen (aCons (eV 1) aNil)) aNil)) (.nm 2) (Mir.tNot (tTru (eFn 2 (m__law_alike n) (aCons (e2 mIx (eV 0) (eV 2)) (aCons (e2 mIx (eV 1) (eV 2)) aNil))))) (eV 2) [2]) (eLst aNil))))
 sNil)
 (sSeq (sIf (tb (e2 mIs (eV 1) (eC .non)))
 (sRet (e2 mIs (eV 0) (eC .non)))
 sNil)
 (sSeq (sIf (tTru (eCall bIsi (aCons (eV 1) (aCons (eC (.opq (.ty "bool"))) aNil))))
 (sRet (eAnd (eCall bIsi (aCons (eV 0) (aCons (eC (.opq (.ty "bool"))) aNil))) (e2 mEq (eV 0) (eV 1))))
 sNil)
 (sSeq (sIf (tTru (eCall bIsi (aCons (eV 1) (aCons (eC (.opq (.ty "int"))) aNil))))
 (sRet (eAnd (eCall bIsi (aCons (eV 0) (aCons (eC (.opq (.ty "int"))) aNil))) (eAnd (eNot (eCall bIsi (aCons (eV 0) (aCons (eC (.opq (.ty "bool"))) aNil)))) (e2 mEq (eV 0) (eV 1)))))
 sNil)
 (sRet (eAnd (eCall bIsi (aCons (eV 0) (aCons (eC (.opq (.ty "str"))) aNil))) (e2 mEq (eV 0) (eV 1)))))))))
theorem mLen__law_alike {n : Nat} : ∀ ds S, ds.length ≠ 2 → m__law_alike n ds S = .bad := fun ds S h => by cases n with | zero => (unfold m__law_alike; rfl) | succ n => (unfold m__law_alike; exact mkFn_len ds S h)
@[irreducible] noncomputable def b_names_of : MS :=
 (sRet (eLc (iSeq (e2 mIx (eV 0) (eC (.int 5)))) (.tp [1, 2]) tYesM (eV 1) [1, 2]))
@[irreducible] noncomputable def m_names_of : Fn := mkFn 1 2 b_names_of
theorem mLen_names_of : ∀ ds S, ds.length ≠ 1 → m_names_of ds S = .bad := fun ds S h => by unfold m_names_of; exact mkFn_len ds S h
@[irreducible] noncomputable def b_check_names : MS :=
 (sSeq (sSet 1 (eFn 1 m_names_of (aCons (eV 0) aNil)))
 (sSeq (sFor (iRg1 (aCons (eCall bLen (aCons (eV 1) aNil)) aNil)) (.nm 2)
 (sIf (tb (e2 mIn (e2 mIx (eV 1) (eV 2)) (eSl (eV 1) oNone (oSome (eV 2)))))
 (sRaise "BadPlan" ["kind", "name"] (aCons (eC (.str "double")) (aCons (e2 mIx (eV 1) (eV 2)) aNil)))
 sNil))
 (sSeq (sFor (iSeq (e2 mIx (eV 0) (eC (.int 6)))) (.tp [3, 4, 5])
 (sFor (iSeq (eTup (aCons (eV 3) (aCons (eV 4) aNil)))) (.nm 6)
 (sIf (tb (e2 mNotIn (eV 6) (eV 1)))
 (sRaise "BadPlan" ["kind", "name"] (aCons (eC (.str "unknown")) (aCons (eV 6) aNil)))
 sNil)))
 (sSeq (sFor (iSeq (e2 mIx (eV 0) (eC (.int 7)))) (.tp [6, 5])
 (sIf (tb (e2 mNotIn (eV 6) (eV 1)))
 (sRaise "BadPlan" ["kind", "name"] (aCons (eC (.str "unknown")) (aCons (eV 6) aNil)))
 sNil))
 (sFor (iSeq (e2 mIx (eV 0) (eC (.int 6)))) (.tp [3, 4, 5])
 (sIf (tb (e2 mEq (eV 3) (eV 4)))
 (sRaise "BadPlan" ["kind", "name"] (aCons (eC (.str "self")) (aCons (eV 3) aNil)))
 sNil))))))
@[irreducible] noncomputable def m_check_names : Fn := mkFn 1 6 b_check_names
theorem mLen_check_names : ∀ ds S, ds.length ≠ 1 → m_check_names ds S = .bad := fun ds S h => by unfold m_check_names; exact mkFn_len ds S h
@[irreducible] noncomputable def b_check_rooms : MS :=
 (sSeq (sFor (iSeq (e2 mIx (eV 0) (eC (.int 5)))) (.tp [1, 2])
 (sIf (Mir.tNot (tb (eChain mLe mLe (eC (.int 2)) (eV 2) (eC (.int 64)))))
 (sRaise "BadPlan" ["kind", "name"] (aCons (eC (.str "room")) (aCons (eV 1) aNil)))
 sNil))
 (sFor (iSeq (e2 mIx (eV 0) (eC (.int 6)))) (.tp [3, 4, 5])
 (sIf (Mir.tNot (tb (eChain mLe mLe (eC (.int 1)) (eV 5) (eC (.int 64)))))
 (sRaise "BadPlan" ["kind", "name"] (aCons (eC (.str "room")) (aCons (eV 3) aNil)))
 sNil)))
@[irreducible] noncomputable def m_check_rooms : Fn := mkFn 1 5 b_check_rooms
theorem mLen_check_rooms : ∀ ds S, ds.length ≠ 1 → m_check_rooms ds S = .bad := fun ds S h => by unfold m_check_rooms; exact mkFn_len ds S h
@[irreducible] noncomputable def b_frames_in_order : MS :=
 (sSeq (sSet 1 (eLst aNil))
 (sSeq (sSet 2 (eC (.int 0)))
 (sSeq (sFor (iSeq (e2 mIx (eV 0) (eC (.int 5)))) (.tp [3, 4])
 (sSeq (sExpr (eBm "list" bAppend (eV 1) (aCons (e2 mTupR (eV 2) (e2 mAdd (eV 2) (eV 4))) aNil)))
 (sAug 2 mIAdd (eV 4))))
 (sRet (eCall bTuple (aCons (eV 1) aNil))))))
@[irreducible] noncomputable def m_frames_in_order : Fn := mkFn 1 4 b_frames_in_order
theorem mLen_frames_in_order : ∀ ds S, ds.length ≠ 1 → m_frames_in_order ds S = .bad := fun ds S h => by unfold m_frames_in_order; exact mkFn_len ds S h
@[irreducible] noncomputable def b_colours_of : MS :=
 (sRet (e2 mFDiv (e2 mIx (e2 mIx (eV 0) (eC (.int 2))) (eC (.int 0))) (eC cD_LINES_A_FRAME)))
@[irreducible] noncomputable def m_colours_of : Fn := mkFn 1 0 b_colours_of
theorem mLen_colours_of : ∀ ds S, ds.length ≠ 1 → m_colours_of ds S = .bad := fun ds S h => by unfold m_colours_of; exact mkFn_len ds S h
@[irreducible] noncomputable def b_frames_by_colours : MS :=
 (sSeq (sPar 1 2 (aCons (eCall bLen (aCons (e2 mIx (eV 0) (eC (.int 5))) aNil)) (aCons (eFn 1 m_colours_of (aCons (eV 0) aNil)) aNil)))
 (sSeq (sSet 3 (eLst aNil))
 (sSeq (sFor (iRg1 (aCons (eV 1) aNil)) (.nm 4)
 (sSeq (sSet 5 (eLst aNil))
 (sSeq (sSet 6 (eC (.int 0)))
 (sSeq (sWhile (tb (e2 mLt (eCall bLen (aCons (eV 5) aNil)) (e2 mIx (e2 mIx (e2 mIx (eV 0) (eC (.int 5))) (eV 4)) (eC (.int 1)))))
 (sSeq (sIf (tb (e2 mEq (e2 mMod (e2 mMod (eV 6) (eV 2)) (eV 1)) (eV 4)))
 (sExpr (eBm "list" bAppend (eV 5) (aCons (eV 6) aNil)))
 sNil)
 (sAug 6 mIAdd (eC (.int 1)))))
 (sExpr (eBm "list" bAppend (eV 3) (aCons (eCall bTuple (aCons (eV 5) aNil)) aNil)))))))
 (sRet (eCall bTuple (aCons (eV 3) aNil))))))
@[irreducible] noncomputable def m_frames_by_colours : Fn := mkFn 1 6 b_frames_by_colours
theorem mLen_frames_by_colours : ∀ ds S, ds.length ≠ 1 → m_frames_by_colours ds S = .bad := fun ds S h => by unfold m_frames_by_colours; exact mkFn_len ds S h
@[irreducible] noncomputable def b_frames_of : MS :=
 (sSeq (sIf (tb (e2 mEq (e2 mIx (e2 mIx (eV 0) (eC (.int 2))) (eC (.int 2))) (eC (.str "coloured"))))
 (sRet (eFn 1 m_frames_by_colours (aCons (eV 0) aNil)))
 sNil)
 (sRet (eFn 1 m_frames_in_order (aCons (eV 0) aNil))))
@[irreducible] noncomputable def m_frames_of : Fn := mkFn 1 0 b_frames_of
theorem mLen_frames_of : ∀ ds S, ds.length ≠ 1 → m_frames_of ds S = .bad := fun ds S h => by unfold m_frames_of; exact mkFn_len ds S h
@[irreducible] noncomputable def b_is_cache_right : MS :=
 (sSeq (sSetT (.tp [1, 2, 3]) (e2 mIx (eV 0) (eC (.int 2))))
 (sSeq (sIf (Mir.tOr (tb (e2 mNe (e2 mMod (eV 1) (eC cD_LINES_A_FRAME)) (eC (.int 0)))) (Mir.tOr (Mir.tNot (tb (eChain mLe mLe (eC (.int 4)) (eV 1) (eC (.int 64))))) (Mir.tOr (Mir.tNot (tb (eChain mLe mLe (eC (.int 1)) (eV 2) (eC (.int 4))))) (Mir.tNot (tb (eChain mLe mLe (eC (.int 1)) (e2 mIx (e2 mIx (eV 0) (eC (.int 3))) (eC (.int 0))) (eC (.int 16))))))))
 (sRet (eC (.bl false)))
 sNil)
 (sSeq (sIf (Mir.tAnd (tb (e2 mEq (eV 3) (eC (.str "coloured")))) (tb (e2 mGt (eCall bLen (aCons (e2 mIx (eV 0) (eC (.int 5))) aNil)) (eFn 1 m_colours_of (aCons (eV 0) aNil)))))
 (sRet (eC (.bl false)))
 sNil)
 (sSeq (sSetT (.tp [4, 5, 6, 6]) (e2 mIx (eV 0) (eC (.int 4))))
 (sRet (eAnd (e2 mGt (eCall bMinA (aCons (e2 mIx (eV 0) (eC (.int 4))) aNil)) (eC (.int 0))) (eAnd (e2 mLe (eCall bMaxA (aCons (e2 mIx (eV 0) (eC (.int 4))) aNil)) (eC (.int 1000))) (e2 mLe (eV 4) (eV 5)))))))))
@[irreducible] noncomputable def m_is_cache_right : Fn := mkFn 1 6 b_is_cache_right
theorem mLen_is_cache_right : ∀ ds S, ds.length ≠ 1 → m_is_cache_right ds S = .bad := fun ds S h => by unfold m_is_cache_right; exact mkFn_len ds S h
@[irreducible] noncomputable def b_worst : MS :=
 (sSeq (sSetT (.tp [1, 2, 3, 4]) (e2 mIx (eV 0) (eC (.int 4))))
 (sRet (e2 mAdd (eCall bMax2 (aCons (eV 4) (aCons (e2 mAdd (eC (.int 1)) (e2 mMul (eC (.int 2)) (e2 mAdd (eV 3) (eCall bMax2 (aCons (eV 1) (aCons (eV 2) aNil)))))) aNil))) (eV 4))))
@[irreducible] noncomputable def m_worst : Fn := mkFn 1 4 b_worst
theorem mLen_worst : ∀ ds S, ds.length ≠ 1 → m_worst ds S = .bad := fun ds S h => by unfold m_worst; exact mkFn_len ds S h
@[irreducible] noncomputable def b_check_plan : MS :=
 (sSeq (sExpr (eFn 1 m_check_names (aCons (eV 0) aNil)))
 (sSeq (sExpr (eFn 1 m_check_rooms (aCons (eV 0) aNil)))
 (sSeq (sIf (Mir.tNot (tTru (eFn 1 m_is_cache_right (aCons (eV 0) aNil))))
 (sRaise "BadPlan" ["kind", "name"] (aCons (eC (.str "cache")) (aCons (e2 mIx (eV 0) (eC (.int 0))) aNil)))
 sNil)
 (sSeq (sSet 1 (eFn 1 m_frames_of (aCons (eV 0) aNil)))
 (sSeq (sFor (iRg1 (aCons (eCall bLen (aCons (eV 1) aNil)) aNil)) (.nm 2)
 (sIf (tb (e2 mGe (e2 mIx (e2 mIx (eV 1) (eV 2)) (e1 mNeg (eC (.int 1)))) (e2 mIx (eV 0) (eC (.int 1)))))
 (sRaise "BadPlan" ["kind", "name"] (aCons (eC (.str "memory")) (aCons (e2 mIx (e2 mIx (e2 mIx (eV 0) (eC (.int 5))) (eV 2)) (eC (.int 0))) aNil)))
 sNil))
 (sFor (iSeq (e2 mIx (eV 0) (eC (.int 7)))) (.tp [3, 4])
 (sIf (Mir.tNot (tb (eChain mLe mLe (eFn 1 m_worst (aCons (eV 0) aNil)) (eV 4) (e2 mPow (eC (.int 10)) (eC (.int 6))))))
 (sRaise "BadPlan" ["kind", "name"] (aCons (eC (.str "slot")) (aCons (eV 3) aNil)))
 sNil)))))))
@[irreducible] noncomputable def m_check_plan : Fn := mkFn 1 4 b_check_plan
theorem mLen_check_plan : ∀ ds S, ds.length ≠ 1 → m_check_plan ds S = .bad := fun ds S h => by unfold m_check_plan; exact mkFn_len ds S h
@[irreducible] noncomputable def b__law_told : MS :=
 (sTry 1 ["BadPlan"] [] (sRet (eFn 1 m_check_plan (aCons (eV 0) aNil)))
 (xIf (fun c => !(fun c => decide (c ∈ (["BadPlan"] : List Str))) c) (xRet (fun _ _ => some (.str "else"))) (xRetT (fun c fs => ((fun _ fs => List.lookup ("kind" : Str) fs) c fs).bind fun x => ((fun c fs => ((fun _ fs => List.lookup ("name" : Str) fs) c fs).bind fun x => ((fun _ _ => some []) c fs).map fun xs => x :: xs) c fs).map fun xs => x :: xs))))
@[irreducible] noncomputable def m__law_told : Fn := mkFn 1 1 b__law_told
theorem mLen__law_told : ∀ ds S, ds.length ≠ 1 → m__law_told ds S = .bad := fun ds S h => by unfold m__law_told; exact mkFn_len ds S h
@[irreducible] noncomputable def b_law : MS :=
 (sSeq (sSet 1 (eDict [((eC (.str "draws")), (eFn 2 m__law_draws (aCons (eV 0) (aCons (eC (.int 700)) aNil)))), ((eC (.str "at")), (eC (.int 0))), ((eC (.str "wrong")), (eC (.bl false)))]))
 (sSeq (sFor (iRg1 (aCons (eC (.int 8)) aNil)) (.nm 2)
 (sSeq (sPut (eV 1) (eC (.str "wrong")) (e2 mGt (eV 2) (eC (.int 1))))
 (sSeq (sSet 3 (eFn 1 m__law_plan (aCons (eV 1) aNil)))
 (sSeq (sSet 4 (eFn 1 m__law_due (aCons (eV 3) aNil)))
 (sSeq (sIf (Mir.tNot (tTru (eFn 2 (m__law_alike 40) (aCons (eFn 1 m__law_told (aCons (eV 3) aNil)) (aCons (eV 4) aNil)))))
 (sRet (eC (.bl false)))
 sNil)
 (sSeq (sIf (Mir.tAnd (tb (e2 mIs (eV 4) (eC .non))) (Mir.tNot (tTru (eFn 2 (m__law_alike 40) (aCons (eFn 1 m_frames_of (aCons (eV 3) aNil)) (aCons (eFn 2 m__law_frames (aCons (e2 mIx (eV 3) (eC (.int 2))) (aCons (e2 mIx (eV 3) (eC (.int 5))) aNil))) aNil))))))
 (sRet (eC (.bl false)))
 sNil)
 (sIf (Mir.tAnd (tb (e2 mIs (eV 4) (eC .non))) (Mir.tNot (tTru (eFn 2 (m__law_alike 40) (aCons (eFn 1 m_worst (aCons (eV 3) aNil)) (aCons (eFn 1 m__law_worst (aCons (e2 mIx (eV 3) (eC (.int 4))) aNil)) aNil))))))
 (sRet (eC (.bl false)))
 sNil)))))))
 (sRet (eC (.bl true)))))
@[irreducible] noncomputable def m_law : Fn := mkFn 1 4 b_law
theorem mLen_law : ∀ ds S, ds.length ≠ 1 → m_law ds S = .bad := fun ds S h => by unfold m_law; exact mkFn_len ds S h
end Pf

namespace Pf
open PySem L2 PyProof.Rows Mir
structure Zs (K : PySem.W.Frag) (w : World) (mg : Str → Option Value) : Prop where
  z_len : mg "len" = none
  z_range : mg "range" = none
  z_int : mg "int" = none
  z_abs : mg "abs" = none
  z_tuple : mg "tuple" = none
  z_max : mg "max" = none
  z_isinstance : mg "isinstance" = none
  z_bool : mg "bool" = none
  z_str : mg "str" = none
  c_LINES_A_FRAME : ConAt K mg "LINES_A_FRAME" cD_LINES_A_FRAME
  z_min : mg "min" = none
  try_WhisperError_BadPlan : TryAt K mg "WhisperError" ["BadPlan"]
  is_BadPlan_BadPlan : IsT K mg [("BadPlan", "BadPlan", true)]
  cl_BadPlan : ∃ D : Addr, mg "BadPlan" = some (.ref D)
  ef_none_BadPlan : ∀ c ∈ (["BadPlan"] : List Str), ErrF K mg c []
  ef_name_BadPlan : ∀ c ∈ (["BadPlan"] : List Str), ErrF K mg c ["name"]
  ef_kind_BadPlan : ∀ c ∈ (["BadPlan"] : List Str), ErrF K mg c ["kind"]
  ba_WhisperError : BaseAt K mg "WhisperError"
section
variable {P : Program} {w : World} {K : PySem.W.Frag} {mg : Str → Option Value} {base : Heap}
theorem sc_BadPlan___init__ : FnScope ["self", "kind", "name"] ["self", "kind", "name"] (defScope (inClass (top 2) 0)) := ⟨rfl, rfl, rfl, by decide +kernel, rfl, by decide +kernel, by decide +kernel⟩
theorem ok_BadPlan (Z : Zs K w mg) (hE : ErrAt K mg "BadPlan" ["kind", "name"]) (Dx : ErrInit K mg "BadPlan" "BadPlan.__init__" (inClass (top 2) 0) ["self", "kind", "name"]) : Oke P w K mg base "BadPlan" ["kind", "name"] :=
  okI2 (m := "the plan cannot be kept") hE Dx sc_BadPlan___init__ fun f cdv A outer s H E => (pss_cons (ps_expr (pe_binit Z.ba_WhisperError (by rfl) (pa_cons (pv 0) (pa_cons pe_str pa_nil)))) (pss_cons (ps_ost (f := "kind") (pv 0) (pv 1)) (pss_one (ps_ost (f := "name") (pv 0) (pv 2)))))
theorem sc__law_draws : FnScope ["script", "many", "draws", "mixed", "k", "cell", "rest", "turn"] ["script", "many"] (defScope (top 16)) := ⟨rfl, rfl, rfl, by decide +kernel, rfl, by decide +kernel, by decide +kernel⟩
theorem ok__law_draws (Z : Zs K w mg) (Dx : DefAt K mg "_law_draws" "_law_draws" (top 16) ["script", "many"]) : Okd P w K mg base CX0 1 "_law_draws" 2 m__law_draws := by
  unfold m__law_draws b__law_draws
  exact okd0 (N := ["script", "many", "draws", "mixed", "k", "cell", "rest", "turn"]) (l := 0) Dx sc__law_draws rfl rfl fun f cdv A outer s H E hr =>
 (dss_cons (ds_set (i := 2) sc__law_draws.nd rfl (by first | exact Or.inl rfl | exact Or.inr rfl) (de_lst da_nil))
 (dss_cons (ds_set (i := 3) sc__law_draws.nd rfl (by first | exact Or.inl rfl | exact Or.inr rfl) de_int)
 (dss_cons (ds_for PassesOwn.never rfl (di_range1 (by rfl) Z.z_range (da_cons (de_callB bi_len (by rfl) Z.z_len bb_len (da_cons (de_v 0) da_nil)) da_nil)) (dg_name (i := 4) sc__law_draws.nd rfl (by first | exact Or.inl rfl | exact Or.inr rfl))
 (dss_cons (ds_set (i := 5) sc__law_draws.nd rfl (by first | exact Or.inl rfl | exact Or.inr rfl) (de_callB bi_abs (by rfl) Z.z_abs bb_abs (da_cons (de_callTy bi_int (by rfl) Z.z_int bb_int (da_cons (de_ix (hu65 hr) (de_v 0) (de_v 4)) da_nil)) da_nil)))
 (dss_cons (ds_set (i := 3) sc__law_draws.nd rfl (by first | exact Or.inl rfl | exact Or.inr rfl) (de_bin op2_mod (de_callTy bi_int (by rfl) Z.z_int bb_int (da_cons (de_bin op2_add (de_bin op2_add (de_bin op2_mul (de_v 3) de_int) (de_bin op2_mod (de_v 5) de_int)) (de_v 4)) da_nil)) de_int))
 (dss_cons (ds_set (i := 6) sc__law_draws.nd rfl (by first | exact Or.inl rfl | exact Or.inr rfl) de_int)
 (dss_cons (ds_if (dt_cmp op2_ge (de_v 5) (de_bin op2_pow de_int de_int))
 (dss_one (ds_set (i := 6) sc__law_draws.nd rfl (by first | exact Or.inl rfl | exact Or.inr rfl) (de_v 5)))
 (dss_cons (ds_expr (de_bm bm_append PySem.F.plainAttrs_list PySem.F.slot_list_append PySem.F.type_list_append (de_v 2) (da_cons (de_bin op2_mod (de_callTy bi_int (by rfl) Z.z_int bb_int (da_cons (de_v 5) da_nil)) de_int) da_nil)))
 (dss_one (ds_expr (de_bm bm_append PySem.F.plainAttrs_list PySem.F.slot_list_append PySem.F.type_list_append (de_v 2) (da_cons (de_bin op2_mod (de_bin op2_mod (de_callTy bi_int (by rfl) Z.z_int bb_int (da_cons (de_bin op2_add (de_bin op2_mul (de_v 3) de_int) de_int) da_nil)) de_int) de_int) da_nil))))))
 (dss_one (ds_for PassesOwn.never rfl (di_range1 (by rfl) Z.z_range (da_cons de_int da_nil)) (dg_name (i := 7) sc__law_draws.nd rfl (by first | exact Or.inl rfl | exact Or.inr rfl))
 (dss_one (ds_if (dt_cmp op2_gt (de_v 6) de_int)
 (dss_cons (ds_expr (de_bm bm_append PySem.F.plainAttrs_list PySem.F.slot_list_append PySem.F.type_list_append (de_v 2) (da_cons (de_bin op2_mod (de_callTy bi_int (by rfl) Z.z_int bb_int (da_cons (de_v 6) da_nil)) de_int) da_nil)))
 (dss_one (ds_set (i := 6) sc__law_draws.nd rfl (by first | exact Or.inl rfl | exact Or.inr rfl) (de_bin op2_fdiv (de_v 6) de_int))))
 dss_nil)))))))))
 (dss_cons (ds_for PassesOwn.never rfl (di_range1 (by rfl) Z.z_range (da_cons (de_v 1) da_nil)) (dg_name (i := 4) sc__law_draws.nd rfl (by first | exact Or.inl rfl | exact Or.inr rfl))
 (dss_cons (ds_set (i := 3) sc__law_draws.nd rfl (by first | exact Or.inl rfl | exact Or.inr rfl) (de_bin op2_mod (de_callTy bi_int (by rfl) Z.z_int bb_int (da_cons (de_bin op2_add (de_bin op2_add (de_bin op2_mul (de_v 3) de_int) (de_v 4)) de_int) da_nil)) de_int))
 (dss_one (ds_expr (de_bm bm_append PySem.F.plainAttrs_list PySem.F.slot_list_append PySem.F.type_list_append (de_v 2) (da_cons (de_bin op2_mod (de_callTy bi_int (by rfl) Z.z_int bb_int (da_cons (de_v 3) da_nil)) de_int) da_nil))))))
 (dss_one (ds_ret (de_slice (de_v 2) do_none (do_some (de_v 1)))))))))
theorem sc__law_next : FnScope ["w", "many"] ["w", "many"] (defScope (top 17)) := ⟨rfl, rfl, rfl, by decide +kernel, rfl, by decide +kernel, by decide +kernel⟩
theorem ok__law_next (Z : Zs K w mg) (Dx : DefAt K mg "_law_next" "_law_next" (top 17) ["w", "many"]) : Okd P w K mg base CX0 1 "_law_next" 2 m__law_next := by
  unfold m__law_next b__law_next
  exact okd0 (N := ["w", "many"]) (l := 0) Dx sc__law_next rfl rfl fun f cdv A outer s H E hr =>
 (dss_cons (ds_putAug (hu65 hr) (de_v 0) de_str de_int op2_iadd)
 (dss_cons (ds_if (dt_cmp op2_gt (de_ix (hu65 hr) (de_v 0) de_str) (de_callB bi_len (by rfl) Z.z_len bb_len (da_cons (de_ix (hu65 hr) (de_v 0) de_str) da_nil)))
 (dss_one (ds_ret de_int))
 dss_nil)
 (dss_one (ds_ret (de_bin op2_mod (de_callTy bi_int (by rfl) Z.z_int bb_int (da_cons (de_ix (hu65 hr) (de_ix (hu65 hr) (de_v 0) de_str) (de_bin op2_sub (de_ix (hu65 hr) (de_v 0) de_str) de_int)) da_nil)) (de_v 1))))))
theorem sc__law_pick : FnScope ["w", "rows"] ["w", "rows"] (defScope (top 18)) := ⟨rfl, rfl, rfl, by decide +kernel, rfl, by decide +kernel, by decide +kernel⟩
theorem ok__law_pick (Z : Zs K w mg) (Dx : DefAt K mg "_law_pick" "_law_pick" (top 18) ["w", "rows"]) (h__law_next : Okd P w K mg base CX0 1 "_law_next" 2 m__law_next) : Okd P w K mg base CX0 2 "_law_pick" 2 m__law_pick := by
  unfold m__law_pick b__law_pick
  exact okd0 (N := ["w", "rows"]) (l := 1) Dx sc__law_pick rfl rfl fun f cdv A outer s H E hr =>
 (dss_one (ds_ret (de_ix (hu65 hr) (de_v 1) (de_fnE h__law_next (hr.mono (by decide)) (by rfl) hx0 (da_cons (de_v 0) (da_cons (de_callB bi_len (by rfl) Z.z_len bb_len (da_cons (de_v 1) da_nil)) da_nil))))))
theorem sc__law_off : FnScope ["w", "odds"] ["w", "odds"] (defScope (top 22)) := ⟨rfl, rfl, rfl, by decide +kernel, rfl, by decide +kernel, by decide +kernel⟩
theorem ok__law_off (Z : Zs K w mg) (Dx : DefAt K mg "_law_off" "_law_off" (top 22) ["w", "odds"]) (h__law_next : Okd P w K mg base CX0 1 "_law_next" 2 m__law_next) : Okd P w K mg base CX0 2 "_law_off" 2 m__law_off := by
  unfold m__law_off b__law_off
  exact okd0 (N := ["w", "odds"]) (l := 1) Dx sc__law_off rfl rfl fun f cdv A outer s H E hr =>
 (dss_one (ds_ret (de_and (de_ix (hu65 hr) (de_v 0) de_str) (de_one (de_cmp (op2_eq (hu64 hr)) (de_fnE h__law_next (hr.mono (by decide)) (by rfl) hx0 (da_cons (de_v 0) (da_cons (de_v 1) da_nil))) de_int)))))
theorem sc__law_cache : FnScope ["w", "many", "sets", "ways", "keeping"] ["w", "many"] (defScope (top 26)) := ⟨rfl, rfl, rfl, by decide +kernel, rfl, by decide +kernel, by decide +kernel⟩
theorem ok__law_cache (Z : Zs K w mg) (Dx : DefAt K mg "_law_cache" "_law_cache" (top 26) ["w", "many"]) (h__law_pick : Okd P w K mg base CX0 2 "_law_pick" 2 m__law_pick) (h__law_off : Okd P w K mg base CX0 2 "_law_off" 2 m__law_off) (h__law_next : Okd P w K mg base CX0 1 "_law_next" 2 m__law_next) : Okd P w K mg base CX0 3 "_law_cache" 2 m__law_cache := by
  unfold m__law_cache b__law_cache
  exact okd0 (N := ["w", "many", "sets", "ways", "keeping"]) (l := 2) Dx sc__law_cache rfl rfl fun f cdv A outer s H E hr =>
 (dss_cons (ds_set (i := 2) sc__law_cache.nd rfl (by first | exact Or.inl rfl | exact Or.inr rfl) (de_ifExp (dt_not (dt_tru (de_fnE h__law_off (hr.mono (by decide)) (by rfl) hx0 (da_cons (de_v 0) (da_cons de_int da_nil))))) (de_fnE h__law_pick (hr.mono (by decide)) (by rfl) hx0 (da_cons (de_v 0) (da_cons (de_lst (da_cons de_int (da_cons de_int (da_cons de_int (da_cons de_int (da_cons de_int (da_cons de_int (da_cons de_int da_nil)))))))) da_nil))) (de_fnE h__law_pick (hr.mono (by decide)) (by rfl) hx0 (da_cons (de_v 0) (da_cons (de_lst (da_cons de_int (da_cons de_int (da_cons de_int (da_cons de_int (da_cons de_int da_nil)))))) da_nil)))))
 (dss_cons (ds_set (i := 3) sc__law_cache.nd rfl (by first | exact Or.inl rfl | exact Or.inr rfl) (de_ifExp (dt_not (dt_tru (de_fnE h__law_off (hr.mono (by decide)) (by rfl) hx0 (da_cons (de_v 0) (da_cons de_int da_nil))))) (de_bin op2_add de_int (de_fnE h__law_next (hr.mono (by decide)) (by rfl) hx0 (da_cons (de_v 0) (da_cons de_int da_nil)))) (de_fnE h__law_pick (hr.mono (by decide)) (by rfl) hx0 (da_cons (de_v 0) (da_cons (de_lst (da_cons de_int (da_cons de_int da_nil))) da_nil)))))
 (dss_cons (ds_set (i := 4) sc__law_cache.nd rfl (by first | exact Or.inl rfl | exact Or.inr rfl) (de_fnE h__law_pick (hr.mono (by decide)) (by rfl) hx0 (da_cons (de_v 0) (da_cons (de_lst (da_cons de_str (da_cons de_str (da_cons de_str da_nil)))) da_nil))))
 (dss_cons (ds_if (dt_w (dw_and (dt_cmp (op2_eq (hu64 hr)) (de_v 4) de_str) (dw_and (dt_cmp op2_lt (de_bin op2_fdiv (de_v 2) de_int) (de_v 1)) (dw_and1 (dt_not (dt_tru (de_fnE h__law_off (hr.mono (by decide)) (by rfl) hx0 (da_cons (de_v 0) (da_cons de_int da_nil)))))))))
 (dss_one (ds_set (i := 2) sc__law_cache.nd rfl (by first | exact Or.inl rfl | exact Or.inr rfl) (de_bin op2_mul de_int (de_bin op2_add (de_v 1) (de_fnE h__law_next (hr.mono (by decide)) (by rfl) hx0 (da_cons (de_v 0) (da_cons de_int da_nil)))))))
 dss_nil)
 (dss_one (ds_ret (de_tup (da_cons (de_v 2) (da_cons (de_v 3) (da_cons (de_v 4) da_nil))))))))))
theorem sc__law_ticks : FnScope ["w", "hit", "ticks", "at"] ["w"] (defScope (top 25)) := ⟨rfl, rfl, rfl, by decide +kernel, rfl, by decide +kernel, by decide +kernel⟩
theorem ok__law_ticks (Z : Zs K w mg) (Dx : DefAt K mg "_law_ticks" "_law_ticks" (top 25) ["w"]) (h__law_off : Okd P w K mg base CX0 2 "_law_off" 2 m__law_off) (h__law_next : Okd P w K mg base CX0 1 "_law_next" 2 m__law_next) (h__law_pick : Okd P w K mg base CX0 2 "_law_pick" 2 m__law_pick) : Okd P w K mg base CX0 3 "_law_ticks" 1 m__law_ticks := by
  unfold m__law_ticks b__law_ticks
  exact okd0 (N := ["w", "hit", "ticks", "at"]) (l := 2) Dx sc__law_ticks rfl rfl fun f cdv A outer s H E hr =>
 (dss_cons (ds_set (i := 1) sc__law_ticks.nd rfl (by first | exact Or.inl rfl | exact Or.inr rfl) (de_bin op2_add de_int (de_fnE h__law_next (hr.mono (by decide)) (by rfl) hx0 (da_cons (de_v 0) (da_cons de_int da_nil)))))
 (dss_cons (ds_set (i := 2) sc__law_ticks.nd rfl (by first | exact Or.inl rfl | exact Or.inr rfl) (de_lst (da_cons (de_v 1) (da_cons (de_bin op2_add (de_v 1) (de_fnE h__law_pick (hr.mono (by decide)) (by rfl) hx0 (da_cons (de_v 0) (da_cons (de_lst (da_cons de_int (da_cons de_int (da_cons de_int (da_cons de_int (da_cons de_int da_nil)))))) da_nil)))) (da_cons (de_fnE h__law_pick (hr.mono (by decide)) (by rfl) hx0 (da_cons (de_v 0) (da_cons (de_lst (da_cons de_int (da_cons de_int (da_cons de_int (da_cons de_int da_nil))))) da_nil))) (da_cons (de_fnE h__law_pick (hr.mono (by decide)) (by rfl) hx0 (da_cons (de_v 0) (da_cons (de_lst (da_cons de_int (da_cons de_int (da_cons de_int (da_cons de_int (da_cons de_int da_nil)))))) da_nil))) da_nil))))))
 (dss_cons (ds_if (dt_tru (de_fnE h__law_off (hr.mono (by decide)) (by rfl) hx0 (da_cons (de_v 0) (da_cons de_int da_nil))))
 (dss_cons (ds_set (i := 3) sc__law_ticks.nd rfl (by first | exact Or.inl rfl | exact Or.inr rfl) (de_fnE h__law_next (hr.mono (by decide)) (by rfl) hx0 (da_cons (de_v 0) (da_cons de_int da_nil))))
 (dss_one (ds_set (i := 2) sc__law_ticks.nd rfl (by first | exact Or.inl rfl | exact Or.inr rfl) (de_bin op2_add (de_bin op2_add (de_slice (de_v 2) do_none (do_some (de_v 3))) (de_lst (da_cons (de_fnE h__law_pick (hr.mono (by decide)) (by rfl) hx0 (da_cons (de_v 0) (da_cons (de_lst (da_cons de_int (da_cons de_int (da_cons de_int da_nil)))) da_nil))) da_nil))) (de_slice (de_v 2) (do_some (de_bin op2_add (de_v 3) de_int)) do_none)))))
 dss_nil)
 (dss_one (ds_ret (de_callTy bi_tuple (by rfl) Z.z_tuple bb_tuple (da_cons (de_v 2) da_nil)))))))
theorem sc__law_a_guest : FnScope ["w", "guests"] ["w", "guests"] (defScope (top 23)) := ⟨rfl, rfl, rfl, by decide +kernel, rfl, by decide +kernel, by decide +kernel⟩
theorem ok__law_a_guest (Z : Zs K w mg) (Dx : DefAt K mg "_law_a_guest" "_law_a_guest" (top 23) ["w", "guests"]) (h__law_off : Okd P w K mg base CX0 2 "_law_off" 2 m__law_off) (h__law_pick : Okd P w K mg base CX0 2 "_law_pick" 2 m__law_pick) : Okd P w K mg base CX0 3 "_law_a_guest" 2 m__law_a_guest := by
  unfold m__law_a_guest b__law_a_guest
  exact okd0 (N := ["w", "guests"]) (l := 2) Dx sc__law_a_guest rfl rfl fun f cdv A outer s H E hr =>
 (dss_one (ds_ret (de_ifExp (dt_not (dt_tru (de_fnE h__law_off (hr.mono (by decide)) (by rfl) hx0 (da_cons (de_v 0) (da_cons de_int da_nil))))) (de_ix (hu65 hr) (de_fnE h__law_pick (hr.mono (by decide)) (by rfl) hx0 (da_cons (de_v 0) (da_cons (de_v 1) da_nil))) de_int) de_str)))
theorem sc__law_channel : FnScope ["w", "guests", "one", "others", "other", "guest"] ["w", "guests"] (defScope (top 24)) := ⟨rfl, rfl, rfl, by decide +kernel, rfl, by decide +kernel, by decide +kernel⟩
theorem ok__law_channel (Z : Zs K w mg) (Dx : DefAt K mg "_law_channel" "_law_channel" (top 24) ["w", "guests"]) (h__law_a_guest : Okd P w K mg base CX0 3 "_law_a_guest" 2 m__law_a_guest) (h__law_pick : Okd P w K mg base CX0 2 "_law_pick" 2 m__law_pick) (h__law_off : Okd P w K mg base CX0 2 "_law_off" 2 m__law_off) : Okd P w K mg base CX0 4 "_law_channel" 2 m__law_channel := by
  unfold m__law_channel b__law_channel
  exact okd0 (N := ["w", "guests", "one", "others", "other", "guest"]) (l := 3) Dx sc__law_channel rfl rfl fun f cdv A outer s H E hr =>
 (dss_cons (ds_set (i := 2) sc__law_channel.nd rfl (by first | exact Or.inl rfl | exact Or.inr rfl) (de_fnE h__law_a_guest (hr.mono (by decide)) (by rfl) hx0 (da_cons (de_v 0) (da_cons (de_v 1) da_nil))))
 (dss_cons (ds_setLc (i := 3) (own := [("guest", 5)]) rfl sc__law_channel.nd rfl rfl (sw_true rfl rfl rfl (by decide +kernel)) (di_seq (de_v 1)) (blkOk_by (own := [("guest", 5)]) (N := ["w", "guests", "one", "others", "other", "guest"]) (sc := (defScope (top 24))) (by decide +kernel)) (fun _ _ _ _ _ => (dg_name (i := 5) sc__law_channel.nd rfl (by first | exact Or.inl rfl | exact Or.inr rfl))) (fun _ _ _ _ _ => (dpt_one (dt_cmp (op2_ne (hu64 hr)) (de_ix (hu65 hr) (de_v 5) de_int) (de_v 2)))) (fun _ _ _ _ _ => (de_v 5)))
 (dss_cons (ds_set (i := 4) sc__law_channel.nd rfl (by first | exact Or.inl rfl | exact Or.inr rfl) (de_fnE h__law_a_guest (hr.mono (by decide)) (by rfl) hx0 (da_cons (de_v 0) (da_cons (de_ifExp (dt_w (dw_and (dt_cmp (op2_ne (hu64 hr)) (de_v 3) (de_lst da_nil)) (dw_and1 (dt_not (dt_tru (de_fnE h__law_off (hr.mono (by decide)) (by rfl) hx0 (da_cons (de_v 0) (da_cons de_int da_nil)))))))) (de_v 3) (de_v 1)) da_nil))))
 (dss_one (ds_ret (de_tup (da_cons (de_v 2) (da_cons (de_v 4) (da_cons (de_ifExp (dt_not (dt_tru (de_fnE h__law_off (hr.mono (by decide)) (by rfl) hx0 (da_cons (de_v 0) (da_cons de_int da_nil))))) (de_fnE h__law_pick (hr.mono (by decide)) (by rfl) hx0 (da_cons (de_v 0) (da_cons (de_lst (da_cons de_int (da_cons de_int (da_cons de_int (da_cons de_int da_nil))))) da_nil))) (de_fnE h__law_pick (hr.mono (by decide)) (by rfl) hx0 (da_cons (de_v 0) (da_cons (de_lst (da_cons de_int (da_cons de_int (da_cons de_int da_nil)))) da_nil)))) da_nil)))))))))
theorem sc__law_worst : FnScope ["ticks", "hit", "miss", "look", "fault"] ["ticks"] (defScope (top 20)) := ⟨rfl, rfl, rfl, by decide +kernel, rfl, by decide +kernel, by decide +kernel⟩
theorem ok__law_worst (Z : Zs K w mg) (Dx : DefAt K mg "_law_worst" "_law_worst" (top 20) ["ticks"]) : Okd P w K mg base CX0 1 "_law_worst" 1 m__law_worst := by
  unfold m__law_worst b__law_worst
  exact okd0 (N := ["ticks", "hit", "miss", "look", "fault"]) (l := 0) Dx sc__law_worst rfl rfl fun f cdv A outer s H E hr =>
 (dss_cons (ds_asg (de_v 0) (dg_tup rfl (dgs_cons (dg_name (i := 1) sc__law_worst.nd rfl (by first | exact Or.inl rfl | exact Or.inr rfl)) (dgs_cons (dg_name (i := 2) sc__law_worst.nd rfl (by first | exact Or.inl rfl | exact Or.inr rfl)) (dgs_cons (dg_name (i := 3) sc__law_worst.nd rfl (by first | exact Or.inl rfl | exact Or.inr rfl)) (dgs_cons (dg_name (i := 4) sc__law_worst.nd rfl (by first | exact Or.inl rfl | exact Or.inr rfl)) dgs_nil))))))
 (dss_one (ds_ret (de_bin op2_add (de_callB (bi_max2 rfl) (by rfl) Z.z_max bb_max (da_cons (de_v 4) (da_cons (de_bin op2_add de_int (de_bin op2_mul de_int (de_bin op2_add (de_v 3) (de_callB (bi_max2 rfl) (by rfl) Z.z_max bb_max (da_cons (de_v 1) (da_cons (de_v 2) da_nil)))))) da_nil))) (de_v 4)))))
theorem sc__law_frames : FnScope ["cache", "guests", "found", "begin", "colours", "k", "own", "frame"] ["cache", "guests"] (defScope (top 21)) := ⟨rfl, rfl, rfl, by decide +kernel, rfl, by decide +kernel, by decide +kernel⟩
theorem ok__law_frames (Z : Zs K w mg) (Dx : DefAt K mg "_law_frames" "_law_frames" (top 21) ["cache", "guests"]) : Okd P w K mg base CX0 1 "_law_frames" 2 m__law_frames := by
  unfold m__law_frames b__law_frames
  exact okd0 (N := ["cache", "guests", "found", "begin", "colours", "k", "own", "frame"]) (l := 0) Dx sc__law_frames rfl rfl fun f cdv A outer s H E hr =>
 (dss_cons (ds_set (i := 2) sc__law_frames.nd rfl (by first | exact Or.inl rfl | exact Or.inr rfl) (de_lst da_nil))
 (dss_cons (ds_set (i := 3) sc__law_frames.nd rfl (by first | exact Or.inl rfl | exact Or.inr rfl) de_int)
 (dss_cons (ds_set (i := 4) sc__law_frames.nd rfl (by first | exact Or.inl rfl | exact Or.inr rfl) (de_bin op2_fdiv (de_ix (hu65 hr) (de_v 0) de_int) de_int))
 (dss_cons (ds_for PassesOwn.never rfl (di_range1 (by rfl) Z.z_range (da_cons (de_callB bi_len (by rfl) Z.z_len bb_len (da_cons (de_v 1) da_nil)) da_nil)) (dg_name (i := 5) sc__law_frames.nd rfl (by first | exact Or.inl rfl | exact Or.inr rfl))
 (dss_cons (ds_set (i := 6) sc__law_frames.nd rfl (by first | exact Or.inl rfl | exact Or.inr rfl) (de_lst da_nil))
 (dss_cons (ds_set (i := 7) sc__law_frames.nd rfl (by first | exact Or.inl rfl | exact Or.inr rfl) (de_v 3))
 (dss_cons (ds_while PassesOwn.never (dt_cmp op2_lt (de_callB bi_len (by rfl) Z.z_len bb_len (da_cons (de_v 6) da_nil)) (de_ix (hu65 hr) (de_ix (hu65 hr) (de_v 1) (de_v 5)) de_int))
 (dss_cons (ds_if (dt_w (dw_or (dt_cmp (op2_ne (hu64 hr)) (de_ix (hu65 hr) (de_v 0) de_int) de_str) (dw_or1 (dt_cmp (op2_eq (hu64 hr)) (de_bin op2_mod (de_bin op2_mod (de_callTy bi_int (by rfl) Z.z_int bb_int (da_cons (de_v 7) da_nil)) (de_v 4)) (de_callB bi_len (by rfl) Z.z_len bb_len (da_cons (de_v 1) da_nil))) (de_v 5)))))
 (dss_one (ds_expr (de_bm bm_append PySem.F.plainAttrs_list PySem.F.slot_list_append PySem.F.type_list_append (de_v 6) (da_cons (de_v 7) da_nil))))
 dss_nil)
 (dss_one (ds_aug (i := 7) sc__law_frames.nd rfl (by first | exact Or.inl rfl | exact Or.inr rfl) de_int op2_iadd))))
 (dss_cons (ds_set (i := 3) sc__law_frames.nd rfl (by first | exact Or.inl rfl | exact Or.inr rfl) (de_ifExp (dt_cmp (op2_eq (hu64 hr)) (de_ix (hu65 hr) (de_v 0) de_int) de_str) de_int (de_v 7)))
 (dss_one (ds_expr (de_bm bm_append PySem.F.plainAttrs_list PySem.F.slot_list_append PySem.F.type_list_append (de_v 2) (da_cons (de_callTy bi_tuple (by rfl) Z.z_tuple bb_tuple (da_cons (de_v 6) da_nil)) da_nil)))))))))
 (dss_one (ds_ret (de_callTy bi_tuple (by rfl) Z.z_tuple bb_tuple (da_cons (de_v 2) da_nil))))))))
theorem sc__law_plan : FnScope ["w", "many", "guests", "k", "name", "cache", "lookaside", "ticks", "channels", "slots", "long", "can", "memory", "own"] ["w"] (defScope (top 27)) := ⟨rfl, rfl, rfl, by decide +kernel, rfl, by decide +kernel, by decide +kernel⟩
theorem ok__law_plan (Z : Zs K w mg) (Dx : DefAt K mg "_law_plan" "_law_plan" (top 27) ["w"]) (h__law_cache : Okd P w K mg base CX0 3 "_law_cache" 2 m__law_cache) (h__law_ticks : Okd P w K mg base CX0 3 "_law_ticks" 1 m__law_ticks) (h__law_next : Okd P w K mg base CX0 1 "_law_next" 2 m__law_next) (h__law_pick : Okd P w K mg base CX0 2 "_law_pick" 2 m__law_pick) (h__law_channel : Okd P w K mg base CX0 4 "_law_channel" 2 m__law_channel) (h__law_off : Okd P w K mg base CX0 2 "_law_off" 2 m__law_off) (h__law_worst : Okd P w K mg base CX0 1 "_law_worst" 1 m__law_worst) (h__law_a_guest : Okd P w K mg base CX0 3 "_law_a_guest" 2 m__law_a_guest) (h__law_frames : Okd P w K mg base CX0 1 "_law_frames" 2 m__law_frames) : Okd P w K mg base CX0 5 "_law_plan" 1 m__law_plan := by
  unfold m__law_plan b__law_plan
  exact okd0 (N := ["w", "many", "guests", "k", "name", "cache", "lookaside", "ticks", "channels", "slots", "long", "can", "memory", "own"]) (l := 4) Dx sc__law_plan rfl rfl fun f cdv A outer s H E hr =>
 (dss_cons (ds_set (i := 1) sc__law_plan.nd rfl (by first | exact Or.inl rfl | exact Or.inr rfl) (de_bin op2_add de_int (de_fnE h__law_next (hr.mono (by decide)) (by rfl) hx0 (da_cons (de_v 0) (da_cons de_int da_nil)))))
 (dss_cons (ds_set (i := 2) sc__law_plan.nd rfl (by first | exact Or.inl rfl | exact Or.inr rfl) (de_lst da_nil))
 (dss_cons (ds_for PassesOwn.never rfl (di_range1 (by rfl) Z.z_range (da_cons (de_v 1) da_nil)) (dg_name (i := 3) sc__law_plan.nd rfl (by first | exact Or.inl rfl | exact Or.inr rfl))
 (dss_cons (ds_set (i := 4) sc__law_plan.nd rfl (by first | exact Or.inl rfl | exact Or.inr rfl) (de_ifExp (dt_not (dt_tru (de_fnE h__law_off (hr.mono (by decide)) (by rfl) hx0 (da_cons (de_v 0) (da_cons de_int da_nil))))) (de_ix (hu65 hr) (de_lst (da_cons de_str (da_cons de_str (da_cons de_str (da_cons de_str (da_cons de_str da_nil)))))) (de_v 3)) de_str))
 (dss_one (ds_expr (de_bm bm_append PySem.F.plainAttrs_list PySem.F.slot_list_append PySem.F.type_list_append (de_v 2) (da_cons (de_tup (da_cons (de_v 4) (da_cons (de_ifExp (dt_not (dt_tru (de_fnE h__law_off (hr.mono (by decide)) (by rfl) hx0 (da_cons (de_v 0) (da_cons de_int da_nil))))) (de_bin op2_add de_int (de_fnE h__law_next (hr.mono (by decide)) (by rfl) hx0 (da_cons (de_v 0) (da_cons de_int da_nil)))) (de_fnE h__law_pick (hr.mono (by decide)) (by rfl) hx0 (da_cons (de_v 0) (da_cons (de_lst (da_cons de_int (da_cons de_int (da_cons de_int (da_cons de_int (da_cons de_int da_nil)))))) da_nil)))) da_nil))) da_nil))))))
 (dss_cons (ds_set (i := 5) sc__law_plan.nd rfl (by first | exact Or.inl rfl | exact Or.inr rfl) (de_fnE h__law_cache (hr.mono (by decide)) (by rfl) hx0 (da_cons (de_v 0) (da_cons (de_v 1) da_nil))))
 (dss_cons (ds_set (i := 6) sc__law_plan.nd rfl (by first | exact Or.inl rfl | exact Or.inr rfl) (de_tup (da_cons (de_ifExp (dt_not (dt_tru (de_fnE h__law_off (hr.mono (by decide)) (by rfl) hx0 (da_cons (de_v 0) (da_cons de_int da_nil))))) (de_bin op2_add de_int (de_fnE h__law_next (hr.mono (by decide)) (by rfl) hx0 (da_cons (de_v 0) (da_cons de_int da_nil)))) (de_fnE h__law_pick (hr.mono (by decide)) (by rfl) hx0 (da_cons (de_v 0) (da_cons (de_lst (da_cons de_int (da_cons de_int da_nil))) da_nil)))) (da_cons (de_fnE h__law_pick (hr.mono (by decide)) (by rfl) hx0 (da_cons (de_v 0) (da_cons (de_lst (da_cons de_str (da_cons de_str da_nil))) da_nil))) da_nil))))
 (dss_cons (ds_set (i := 7) sc__law_plan.nd rfl (by first | exact Or.inl rfl | exact Or.inr rfl) (de_fnE h__law_ticks (hr.mono (by decide)) (by rfl) hx0 (da_cons (de_v 0) da_nil)))
 (dss_cons (ds_setLc (i := 8) (own := [("k", 3)]) rfl sc__law_plan.nd rfl rfl (sw_true rfl rfl rfl (by decide +kernel)) (di_range1 (by rfl) Z.z_range (da_cons (de_ifExp (dt_w (dw_or (dt_cmp op2_gt (de_v 1) de_int) (dw_or1 (dt_tru (de_ix (hu65 hr) (de_v 0) de_str))))) (de_fnE h__law_next (hr.mono (by decide)) (by rfl) hx0 (da_cons (de_v 0) (da_cons de_int da_nil))) de_int) da_nil)) (blkOk_by (own := [("k", 3)]) (N := ["w", "many", "guests", "k", "name", "cache", "lookaside", "ticks", "channels", "slots", "long", "can", "memory", "own"]) (sc := (defScope (top 27))) (by decide +kernel)) (fun _ _ _ _ _ => (dg_name (i := 3) sc__law_plan.nd rfl (by first | exact Or.inl rfl | exact Or.inr rfl))) (fun _ _ _ _ _ => dpt_nil) (fun _ _ _ _ _ => (de_fnE h__law_channel (hr.mono (by decide)) (by rfl) hx0 (da_cons (de_v 0) (da_cons (de_v 2) da_nil)))))
 (dss_cons (ds_set (i := 9) sc__law_plan.nd rfl (by first | exact Or.inl rfl | exact Or.inr rfl) (de_lst da_nil))
 (dss_cons (ds_for PassesOwn.never rfl (di_range1 (by rfl) Z.z_range (da_cons (de_bin op2_add de_int (de_fnE h__law_next (hr.mono (by decide)) (by rfl) hx0 (da_cons (de_v 0) (da_cons de_int da_nil)))) da_nil)) (dg_name (i := 3) sc__law_plan.nd rfl (by first | exact Or.inl rfl | exact Or.inr rfl))
 (dss_cons (ds_set (i := 10) sc__law_plan.nd rfl (by first | exact Or.inl rfl | exact Or.inr rfl) (de_ifExp (dt_cmp op2_gt (de_fnE h__law_next (hr.mono (by decide)) (by rfl) hx0 (da_cons (de_v 0) (da_cons de_int da_nil))) de_int) (de_bin op2_add (de_fnE h__law_worst (hr.mono (by decide)) (by rfl) hx0 (da_cons (de_v 7) da_nil)) (de_fnE h__law_pick (hr.mono (by decide)) (by rfl) hx0 (da_cons (de_v 0) (da_cons (de_lst (da_cons de_int (da_cons de_int (da_cons de_int (da_cons de_int da_nil))))) da_nil)))) de_int))
 (dss_one (ds_expr (de_bm bm_append PySem.F.plainAttrs_list PySem.F.slot_list_append PySem.F.type_list_append (de_v 9) (da_cons (de_tup (da_cons (de_fnE h__law_a_guest (hr.mono (by decide)) (by rfl) hx0 (da_cons (de_v 0) (da_cons (de_v 2) da_nil))) (da_cons (de_ifExp (dt_not (dt_tru (de_fnE h__law_off (hr.mono (by decide)) (by rfl) hx0 (da_cons (de_v 0) (da_cons de_int da_nil))))) (de_v 10) (de_fnE h__law_pick (hr.mono (by decide)) (by rfl) hx0 (da_cons (de_v 0) (da_cons (de_lst (da_cons (de_bin op2_sub (de_fnE h__law_worst (hr.mono (by decide)) (by rfl) hx0 (da_cons (de_v 7) da_nil)) de_int) (da_cons de_int da_nil))) da_nil)))) da_nil))) da_nil))))))
 (dss_cons (ds_set (i := 11) sc__law_plan.nd rfl (by first | exact Or.inl rfl | exact Or.inr rfl) (de_or (de_cmp (op2_ne (hu64 hr)) (de_ix (hu65 hr) (de_v 5) de_int) de_str) (de_one (de_cmp op2_ge (de_bin op2_fdiv (de_ix (hu65 hr) (de_v 5) de_int) de_int) (de_v 1)))))
 (dss_cons (ds_set (i := 12) sc__law_plan.nd rfl (by first | exact Or.inl rfl | exact Or.inr rfl) (de_ifExp (dt_tru (de_v 11)) (de_bin op2_add (de_callB (bi_maxA rfl (hu65 hr)) (by rfl) Z.z_max bb_max (da_cons (de_lc (own := [("own", 13)]) rfl sc__law_plan.nd (di_seq (de_fnE h__law_frames (hr.mono (by decide)) (by rfl) hx0 (da_cons (de_v 5) (da_cons (de_v 2) da_nil)))) (blkOk_by (own := [("own", 13)]) (N := ["w", "many", "guests", "k", "name", "cache", "lookaside", "ticks", "channels", "slots", "long", "can", "memory", "own"]) (sc := (defScope (top 27))) (by decide +kernel)) (fun _ _ _ _ _ => (dg_name (i := 13) sc__law_plan.nd rfl (by first | exact Or.inl rfl | exact Or.inr rfl))) (fun _ _ _ _ _ => dpt_nil) (fun _ _ _ _ _ => (de_callB (bi_maxA rfl (hu65 hr)) (by rfl) Z.z_max bb_max (da_cons (de_bin op2_add (de_v 13) (de_tup (da_cons de_int da_nil))) da_nil)))) da_nil)) de_int) de_int))
 (dss_cons (ds_set (i := 12) sc__law_plan.nd rfl (by first | exact Or.inl rfl | exact Or.inr rfl) (de_ifExp (dt_not (dt_tru (de_fnE h__law_off (hr.mono (by decide)) (by rfl) hx0 (da_cons (de_v 0) (da_cons de_int da_nil))))) (de_bin op2_add (de_v 12) (de_fnE h__law_pick (hr.mono (by decide)) (by rfl) hx0 (da_cons (de_v 0) (da_cons (de_lst (da_cons de_int (da_cons de_int (da_cons de_int (da_cons de_int da_nil))))) da_nil)))) (de_callB (bi_max2 rfl) (by rfl) Z.z_max bb_max (da_cons de_int (da_cons (de_bin op2_sub (de_bin op2_sub (de_v 12) de_int) (de_fnE h__law_next (hr.mono (by decide)) (by rfl) hx0 (da_cons (de_v 0) (da_cons de_int da_nil)))) da_nil)))))
 (dss_one (ds_ret (de_tup (da_cons de_str (da_cons (de_v 12) (da_cons (de_v 5) (da_cons (de_v 6) (da_cons (de_v 7) (da_cons (de_callTy bi_tuple (by rfl) Z.z_tuple bb_tuple (da_cons (de_v 2) da_nil)) (da_cons (de_callTy bi_tuple (by rfl) Z.z_tuple bb_tuple (da_cons (de_v 8) da_nil)) (da_cons (de_callTy bi_tuple (by rfl) Z.z_tuple bb_tuple (da_cons (de_v 9) da_nil)) da_nil)))))))))))))))))))))))
theorem sc__law_names_due : FnScope ["plan", "names", "k", "met", "one", "other", "room", "name", "guest", "slot"] ["plan"] (defScope (top 28)) := ⟨rfl, rfl, rfl, by decide +kernel, rfl, by decide +kernel, by decide +kernel⟩
theorem ok__law_names_due (Z : Zs K w mg) (Dx : DefAt K mg "_law_names_due" "_law_names_due" (top 28) ["plan"]) : Okd P w K mg base CX0 1 "_law_names_due" 1 m__law_names_due := by
  unfold m__law_names_due b__law_names_due
  exact okd0 (N := ["plan", "names", "k", "met", "one", "other", "room", "name", "guest", "slot"]) (l := 0) Dx sc__law_names_due rfl rfl fun f cdv A outer s H E hr =>
 (dss_cons (ds_setLc (i := 1) (own := [("guest", 8)]) rfl sc__law_names_due.nd rfl rfl (sw_true rfl rfl rfl (by decide +kernel)) (di_seq (de_ix (hu65 hr) (de_v 0) de_int)) (blkOk_by (own := [("guest", 8)]) (N := ["plan", "names", "k", "met", "one", "other", "room", "name", "guest", "slot"]) (sc := (defScope (top 28))) (by decide +kernel)) (fun _ _ _ _ _ => (dg_name (i := 8) sc__law_names_due.nd rfl (by first | exact Or.inl rfl | exact Or.inr rfl))) (fun _ _ _ _ _ => dpt_nil) (fun _ _ _ _ _ => (de_ix (hu65 hr) (de_v 8) de_int)))
 (dss_cons (ds_for PassesOwn.never rfl (di_range1 (by rfl) Z.z_range (da_cons (de_callB bi_len (by rfl) Z.z_len bb_len (da_cons (de_v 1) da_nil)) da_nil)) (dg_name (i := 2) sc__law_names_due.nd rfl (by first | exact Or.inl rfl | exact Or.inr rfl))
 (dss_one (ds_if (dt_in (hu65 hr) (de_ix (hu65 hr) (de_v 1) (de_v 2)) (de_slice (de_v 1) do_none (do_some (de_v 2))))
 (dss_one (ds_ret (de_tup (da_cons de_str (da_cons (de_ix (hu65 hr) (de_v 1) (de_v 2)) da_nil)))))
 dss_nil)))
 (dss_cons (ds_set (i := 3) sc__law_names_due.nd rfl (by first | exact Or.inl rfl | exact Or.inr rfl) (de_lst da_nil))
 (dss_cons (ds_for PassesOwn.never rfl (di_seq (de_ix (hu65 hr) (de_v 0) de_int)) (dg_tup rfl (dgs_cons (dg_name (i := 4) sc__law_names_due.nd rfl (by first | exact Or.inl rfl | exact Or.inr rfl)) (dgs_cons (dg_name (i := 5) sc__law_names_due.nd rfl (by first | exact Or.inl rfl | exact Or.inr rfl)) (dgs_cons (dg_name (i := 6) sc__law_names_due.nd rfl (by first | exact Or.inl rfl | exact Or.inr rfl)) dgs_nil))))
 (dss_one (ds_set (i := 3) sc__law_names_due.nd rfl (by first | exact Or.inl rfl | exact Or.inr rfl) (de_bin op2_add (de_v 3) (de_lst (da_cons (de_v 4) (da_cons (de_v 5) da_nil)))))))
 (dss_cons (ds_for PassesOwn.never rfl (di_seq (de_bin op2_add (de_v 3) (de_lc (own := [("slot", 9)]) rfl sc__law_names_due.nd (di_seq (de_ix (hu65 hr) (de_v 0) de_int)) (blkOk_by (own := [("slot", 9)]) (N := ["plan", "names", "k", "met", "one", "other", "room", "name", "guest", "slot"]) (sc := (defScope (top 28))) (by decide +kernel)) (fun _ _ _ _ _ => (dg_name (i := 9) sc__law_names_due.nd rfl (by first | exact Or.inl rfl | exact Or.inr rfl))) (fun _ _ _ _ _ => dpt_nil) (fun _ _ _ _ _ => (de_ix (hu65 hr) (de_v 9) de_int))))) (dg_name (i := 7) sc__law_names_due.nd rfl (by first | exact Or.inl rfl | exact Or.inr rfl))
 (dss_one (ds_if (dt_notIn (hu65 hr) (de_v 7) (de_v 1))
 (dss_one (ds_ret (de_tup (da_cons de_str (da_cons (de_v 7) da_nil)))))
 dss_nil)))
 (dss_cons (ds_for PassesOwn.never rfl (di_seq (de_ix (hu65 hr) (de_v 0) de_int)) (dg_tup rfl (dgs_cons (dg_name (i := 4) sc__law_names_due.nd rfl (by first | exact Or.inl rfl | exact Or.inr rfl)) (dgs_cons (dg_name (i := 5) sc__law_names_due.nd rfl (by first | exact Or.inl rfl | exact Or.inr rfl)) (dgs_cons (dg_name (i := 6) sc__law_names_due.nd rfl (by first | exact Or.inl rfl | exact Or.inr rfl)) dgs_nil))))
 (dss_one (ds_if (dt_cmp (op2_eq (hu64 hr)) (de_v 4) (de_v 5))
 (dss_one (ds_ret (de_tup (da_cons de_str (da_cons (de_v 4) da_nil)))))
 dss_nil)))
 (dss_one (ds_ret de_non))))))))
theorem sc__law_rooms_due : FnScope ["plan", "name", "frames", "one", "other", "room"] ["plan"] (defScope (top 29)) := ⟨rfl, rfl, rfl, by decide +kernel, rfl, by decide +kernel, by decide +kernel⟩
theorem ok__law_rooms_due (Z : Zs K w mg) (Dx : DefAt K mg "_law_rooms_due" "_law_rooms_due" (top 29) ["plan"]) : Okd P w K mg base CX0 1 "_law_rooms_due" 1 m__law_rooms_due := by
  unfold m__law_rooms_due b__law_rooms_due
  exact okd0 (N := ["plan", "name", "frames", "one", "other", "room"]) (l := 0) Dx sc__law_rooms_due rfl rfl fun f cdv A outer s H E hr =>
 (dss_cons (ds_for PassesOwn.never rfl (di_seq (de_ix (hu65 hr) (de_v 0) de_int)) (dg_tup rfl (dgs_cons (dg_name (i := 1) sc__law_rooms_due.nd rfl (by first | exact Or.inl rfl | exact Or.inr rfl)) (dgs_cons (dg_name (i := 2) sc__law_rooms_due.nd rfl (by first | exact Or.inl rfl | exact Or.inr rfl)) dgs_nil)))
 (dss_one (ds_if (dt_w (dw_or (dt_cmp op2_lt (de_v 2) de_int) (dw_or1 (dt_cmp op2_gt (de_v 2) de_int))))
 (dss_one (ds_ret (de_tup (da_cons de_str (da_cons (de_v 1) da_nil)))))
 dss_nil)))
 (dss_cons (ds_for PassesOwn.never rfl (di_seq (de_ix (hu65 hr) (de_v 0) de_int)) (dg_tup rfl (dgs_cons (dg_name (i := 3) sc__law_rooms_due.nd rfl (by first | exact Or.inl rfl | exact Or.inr rfl)) (dgs_cons (dg_name (i := 4) sc__law_rooms_due.nd rfl (by first | exact Or.inl rfl | exact Or.inr rfl)) (dgs_cons (dg_name (i := 5) sc__law_rooms_due.nd rfl (by first | exact Or.inl rfl | exact Or.inr rfl)) dgs_nil))))
 (dss_one (ds_if (dt_w (dw_or (dt_cmp op2_lt (de_v 5) de_int) (dw_or1 (dt_cmp op2_gt (de_v 5) de_int))))
 (dss_one (ds_ret (de_tup (da_cons de_str (da_cons (de_v 3) da_nil)))))
 dss_nil)))
 (dss_one (ds_ret de_non))))
theorem sc__law_is_cache : FnScope ["plan", "sets", "ways", "keeping", "tick"] ["plan"] (defScope (top 30)) := ⟨rfl, rfl, rfl, by decide +kernel, rfl, by decide +kernel, by decide +kernel⟩
theorem ok__law_is_cache (Z : Zs K w mg) (Dx : DefAt K mg "_law_is_cache" "_law_is_cache" (top 30) ["plan"]) : Okd P w K mg base CX0 1 "_law_is_cache" 1 m__law_is_cache := by
  unfold m__law_is_cache b__law_is_cache
  exact okd0 (N := ["plan", "sets", "ways", "keeping", "tick"]) (l := 0) Dx sc__law_is_cache rfl rfl fun f cdv A outer s H E hr =>
 (dss_cons (ds_asg (de_ix (hu65 hr) (de_v 0) de_int) (dg_tup rfl (dgs_cons (dg_name (i := 1) sc__law_is_cache.nd rfl (by first | exact Or.inl rfl | exact Or.inr rfl)) (dgs_cons (dg_name (i := 2) sc__law_is_cache.nd rfl (by first | exact Or.inl rfl | exact Or.inr rfl)) (dgs_cons (dg_name (i := 3) sc__law_is_cache.nd rfl (by first | exact Or.inl rfl | exact Or.inr rfl)) dgs_nil)))))
 (dss_cons (ds_if (dt_w (dw_or (dt_ninR (by rfl) Z.z_range (de_v 1) (da_cons de_int (da_cons de_int da_nil))) (dw_or (dt_cmp (op2_ne (hu64 hr)) (de_bin op2_mod (de_callTy bi_int (by rfl) Z.z_int bb_int (da_cons (de_v 1) da_nil)) de_int) de_int) (dw_or (dt_cmp op2_lt (de_v 2) de_int) (dw_or (dt_cmp op2_gt (de_v 2) de_int) (dw_or (dt_cmp op2_lt (de_ix (hu65 hr) (de_ix (hu65 hr) (de_v 0) de_int) de_int) de_int) (dw_or1 (dt_cmp op2_gt (de_ix (hu65 hr) (de_ix (hu65 hr) (de_v 0) de_int) de_int) de_int))))))))
 (dss_one (ds_ret de_bl))
 dss_nil)
 (dss_cons (ds_if (dt_w (dw_and (dt_cmp (op2_eq (hu64 hr)) (de_v 3) de_str) (dw_and1 (dt_cmp op2_gt (de_callB bi_len (by rfl) Z.z_len bb_len (da_cons (de_ix (hu65 hr) (de_v 0) de_int) da_nil)) (de_bin op2_fdiv (de_v 1) de_int)))))
 (dss_one (ds_ret de_bl))
 dss_nil)
 (dss_one (ds_ret (de_and (de_cmp (op2_eq (hu64 hr)) (de_lc (own := [("tick", 4)]) rfl sc__law_is_cache.nd (di_seq (de_ix (hu65 hr) (de_v 0) de_int)) (blkOk_by (own := [("tick", 4)]) (N := ["plan", "sets", "ways", "keeping", "tick"]) (sc := (defScope (top 30))) (by decide +kernel)) (fun _ _ _ _ _ => (dg_name (i := 4) sc__law_is_cache.nd rfl (by first | exact Or.inl rfl | exact Or.inr rfl))) (fun _ _ _ _ _ => (dpt_one (dt_w (dw_or (dt_cmp op2_lt (de_v 4) de_int) (dw_or1 (dt_cmp op2_gt (de_v 4) de_int)))))) (fun _ _ _ _ _ => (de_v 4))) (de_lst da_nil)) (de_one (de_cmp op2_ge (de_ix (hu65 hr) (de_ix (hu65 hr) (de_v 0) de_int) de_int) (de_ix (hu65 hr) (de_ix (hu65 hr) (de_v 0) de_int) de_int)))))))))
theorem sc__law_due : FnScope ["plan", "frames", "k", "name", "ticks"] ["plan"] (defScope (top 31)) := ⟨rfl, rfl, rfl, by decide +kernel, rfl, by decide +kernel, by decide +kernel⟩
theorem ok__law_due (Z : Zs K w mg) (Dx : DefAt K mg "_law_due" "_law_due" (top 31) ["plan"]) (h__law_frames : Okd P w K mg base CX0 1 "_law_frames" 2 m__law_frames) (h__law_names_due : Okd P w K mg base CX0 1 "_law_names_due" 1 m__law_names_due) (h__law_rooms_due : Okd P w K mg base CX0 1 "_law_rooms_due" 1 m__law_rooms_due) (h__law_is_cache : Okd P w K mg base CX0 1 "_law_is_cache" 1 m__law_is_cache) (h__law_worst : Okd P w K mg base CX0 1 "_law_worst" 1 m__law_worst) : Okd P w K mg base CX0 2 "_law_due" 1 m__law_due := by
  unfold m__law_due b__law_due
  exact okd0 (N := ["plan", "frames", "k", "name", "ticks"]) (l := 1) Dx sc__law_due rfl rfl fun f cdv A outer s H E hr =>
 (dss_cons (ds_if (dt_cmp op2_isNot (de_fnE h__law_names_due (hr.mono (by decide)) (by rfl) hx0 (da_cons (de_v 0) da_nil)) de_non)
 (dss_one (ds_ret (de_fnE h__law_names_due (hr.mono (by decide)) (by rfl) hx0 (da_cons (de_v 0) da_nil))))
 dss_nil)
 (dss_cons (ds_if (dt_cmp op2_isNot (de_fnE h__law_rooms_due (hr.mono (by decide)) (by rfl) hx0 (da_cons (de_v 0) da_nil)) de_non)
 (dss_one (ds_ret (de_fnE h__law_rooms_due (hr.mono (by decide)) (by rfl) hx0 (da_cons (de_v 0) da_nil))))
 dss_nil)
 (dss_cons (ds_if (dt_not (dt_tru (de_fnE h__law_is_cache (hr.mono (by decide)) (by rfl) hx0 (da_cons (de_v 0) da_nil))))
 (dss_one (ds_ret (de_tup (da_cons de_str (da_cons (de_ix (hu65 hr) (de_v 0) de_int) da_nil)))))
 dss_nil)
 (dss_cons (ds_set (i := 1) sc__law_due.nd rfl (by first | exact Or.inl rfl | exact Or.inr rfl) (de_fnE h__law_frames (hr.mono (by decide)) (by rfl) hx0 (da_cons (de_ix (hu65 hr) (de_v 0) de_int) (da_cons (de_ix (hu65 hr) (de_v 0) de_int) da_nil))))
 (dss_cons (ds_for PassesOwn.never rfl (di_range1 (by rfl) Z.z_range (da_cons (de_callB bi_len (by rfl) Z.z_len bb_len (da_cons (de_v 1) da_nil)) da_nil)) (dg_name (i := 2) sc__law_due.nd rfl (by first | exact Or.inl rfl | exact Or.inr rfl))
 (dss_one (ds_if (dt_cmp op2_ge (de_callB (bi_maxA rfl (hu65 hr)) (by rfl) Z.z_max bb_max (da_cons (de_ix (hu65 hr) (de_v 1) (de_v 2)) da_nil)) (de_ix (hu65 hr) (de_v 0) de_int))
 (dss_one (ds_ret (de_tup (da_cons de_str (da_cons (de_ix (hu65 hr) (de_ix (hu65 hr) (de_ix (hu65 hr) (de_v 0) de_int) (de_v 2)) de_int) da_nil)))))
 dss_nil)))
 (dss_cons (ds_for PassesOwn.never rfl (di_seq (de_ix (hu65 hr) (de_v 0) de_int)) (dg_tup rfl (dgs_cons (dg_name (i := 3) sc__law_due.nd rfl (by first | exact Or.inl rfl | exact Or.inr rfl)) (dgs_cons (dg_name (i := 4) sc__law_due.nd rfl (by first | exact Or.inl rfl | exact Or.inr rfl)) dgs_nil)))
 (dss_one (ds_if (dt_w (dw_or (dt_cmp op2_lt (de_v 4) (de_fnE h__law_worst (hr.mono (by decide)) (by rfl) hx0 (da_cons (de_ix (hu65 hr) (de_v 0) de_int) da_nil))) (dw_or1 (dt_cmp op2_gt (de_v 4) de_int))))
 (dss_one (ds_ret (de_tup (da_cons de_str (da_cons (de_v 3) da_nil)))))
 dss_nil)))
 (dss_one (ds_ret de_non))))))))
theorem sc__law_alike : FnScope ["told", "due", "k"] ["told", "due"] (defScope (top 19)) := ⟨rfl, rfl, rfl, by decide +kernel, rfl, by decide +kernel, by decide +kernel⟩
theorem okS__law_alike {n : Nat} (Z : Zs K w mg) (Dx : DefAt K mg "_law_alike" "_law_alike" (top 19) ["told", "due"]) (h__law_alike : Okd P w K mg base CX0 (0 + n) "_law_alike" 2 (m__law_alike n)) : Okd P w K mg base CX0 (0 + n + 1) "_law_alike" 2 (m__law_alike (n + 1)) := by
  unfold m__law_alike
  exact okd0 (N := ["told", "due", "k"]) (l := 0 + n) Dx sc__law_alike rfl rfl fun f cdv A outer s H E hr =>
 (dss_cons (ds_if (dt_tru (de_callB bi_isi (by rfl) Z.z_isinstance bb_isinstance (da_cons (de_v 1) (da_cons (de_ty (by rfl) Z.z_tuple bb_tuple) da_nil))))
 (dss_cons (ds_if (dt_w (dw_or (dt_not (dt_tru (de_callB bi_isi (by rfl) Z.z_isinstance bb_isinstance (da_cons (de_v 0) (da_cons (de_ty (by rfl) Z.z_tuple bb_tuple) da_nil))))) (dw_or1 (dt_cmp (op2_ne (hu64 hr)) (de_callB bi_len (by rfl) Z.z_len bb_len (da_cons (de_v 0) da_nil)) (de_callB bi_len (by rfl) Z.z_len bb_len (da_cons (de_v 1) da_nil))))))
 (dss_one (ds_ret de_bl))
 dss_nil)
 (dss_one (ds_ret (de_cmp (op2_eq (hu64 hr)) (de_lc (own := [("k", 2)]) rfl sc__law_alike.nd (di_range1 (by rfl) Z.z_range (da_cons (de_callB bi_len (by rfl) Z.z_len bb_len (da_cons (de_v 1) da_nil)) da_nil)) (blkOk_by (own := [("k", 2)]) (N := ["told", "due", "k"]) (sc := (defScope (top 19))) (by decide +kernel)) (fun _ _ _ _ _ => (dg_name (i := 2) sc__law_alike.nd rfl (by first | exact Or.inl rfl | exact Or.inr rfl))) (fun _ _ _ _ _ => (dpt_one (dt_not (dt_tru (de_fnE h__law_alike hr (by rfl) hx0 (da_cons (de_ix (hu65 hr) (de_v 0) (de_v 2)) (da_cons (de_ix (hu65 hr) (de_v 1) (de_v 2)) da_nil))))))) (fun _ _ _ _ _ => (de_v 2))) (de_lst da_nil)))))
 dss_nil)
 (dss_cons (ds_if (dt_cmp op2_is (de_v 1) de_non)
 (dss_one (ds_ret (de_cmp op2_is (de_v 0) de_non)))
 dss_nil)
 (dss_cons (ds_if (dt_tru (de_callB bi_isi (by rfl) Z.z_isinstance bb_isinstance (da_cons (de_v 1) (da_cons (de_ty (by rfl) Z.z_bool bb_bool) da_nil))))
 (dss_one (ds_ret (de_and (de_callB bi_isi (by rfl) Z.z_isinstance bb_isinstance (da_cons (de_v 0) (da_cons (de_ty (by rfl) Z.z_bool bb_bool) da_nil))) (de_one (de_cmp (op2_eq (hu64 hr)) (de_v 0) (de_v 1))))))
 dss_nil)
 (dss_cons (ds_if (dt_tru (de_callB bi_isi (by rfl) Z.z_isinstance bb_isinstance (da_cons (de_v 1) (da_cons (de_ty (by rfl) Z.z_int bb_int) da_nil))))
 (dss_one (ds_ret (de_and (de_callB bi_isi (by rfl) Z.z_isinstance bb_isinstance (da_cons (de_v 0) (da_cons (de_ty (by rfl) Z.z_int bb_int) da_nil))) (de_and (de_not (de_callB bi_isi (by rfl) Z.z_isinstance bb_isinstance (da_cons (de_v 0) (da_cons (de_ty (by rfl) Z.z_bool bb_bool) da_nil)))) (de_one (de_cmp (op2_eq (hu64 hr)) (de_v 0) (de_v 1)))))))
 dss_nil)
 (dss_one (ds_ret (de_and (de_callB bi_isi (by rfl) Z.z_isinstance bb_isinstance (da_cons (de_v 0) (da_cons (de_ty (by rfl) Z.z_str bb_str) da_nil))) (de_one (de_cmp (op2_eq (hu64 hr)) (de_v 0) (de_v 1))))))))))
theorem okA__law_alike (Z : Zs K w mg) (D__law_alike : DefAt K mg "_law_alike" "_law_alike" (top 19) ["told", "due"]) : ∀ n : Nat, Okd P w K mg base CX0 (0 + n) "_law_alike" 2 (m__law_alike n) := by
  intro n
  induction n with
  | zero => exact (by unfold m__law_alike; exact okd_bad D__law_alike rfl)
  | succ n ih =>
    have h__law_alike := ih
    exact (okS__law_alike Z D__law_alike h__law_alike)
theorem ok__law_alike (Z : Zs K w mg) (D__law_alike : DefAt K mg "_law_alike" "_law_alike" (top 19) ["told", "due"]) : Okd P w K mg base CX0 40 "_law_alike" 2 (m__law_alike 40) := (okA__law_alike Z D__law_alike 40)
theorem sc_names_of : FnScope ["plan", "name", "_"] ["plan"] (defScope (top 5)) := ⟨rfl, rfl, rfl, by decide +kernel, rfl, by decide +kernel, by decide +kernel⟩
theorem ok_names_of (Z : Zs K w mg) (Dx : DefAt K mg "names_of" "names_of" (top 5) ["plan"]) : Okd P w K mg base CX0 1 "names_of" 1 m_names_of := by
  unfold m_names_of b_names_of
  exact okd0 (N := ["plan", "name", "_"]) (l := 0) Dx sc_names_of rfl rfl fun f cdv A outer s H E hr =>
 (dss_one (ds_ret (de_lc (own := [("name", 1), ("_", 2)]) rfl sc_names_of.nd (di_seq (de_ix (hu65 hr) (de_v 0) de_int)) (blkOk_by (own := [("name", 1), ("_", 2)]) (N := ["plan", "name", "_"]) (sc := (defScope (top 5))) (by decide +kernel)) (fun _ _ _ _ _ => (dg_tup rfl (dgs_cons (dg_name (i := 1) sc_names_of.nd rfl (by first | exact Or.inl rfl | exact Or.inr rfl)) (dgs_cons (dg_name (i := 2) sc_names_of.nd rfl (by first | exact Or.inl rfl | exact Or.inr rfl)) dgs_nil)))) (fun _ _ _ _ _ => dpt_nil) (fun _ _ _ _ _ => (de_v 1)))))
theorem sc_check_names : FnScope ["plan", "names", "k", "one", "other", "_", "name"] ["plan"] (defScope (top 11)) := ⟨rfl, rfl, rfl, by decide +kernel, rfl, by decide +kernel, by decide +kernel⟩
theorem ok_check_names (Z : Zs K w mg) (Dx : DefAt K mg "check_names" "check_names" (top 11) ["plan"]) (h_names_of : Okd P w K mg base CX0 1 "names_of" 1 m_names_of) (h_BadPlan : Oke P w K mg base "BadPlan" ["kind", "name"]) : Okd P w K mg base (L2.CX P w) 3 "check_names" 1 m_check_names := by
  unfold m_check_names b_check_names
  exact okd1 (N := ["plan", "names", "k", "one", "other", "_", "name"]) (l := 2) Dx sc_check_names rfl rfl fun f cdv A outer s H E hr =>
 (dss_cons (ds_set (i := 1) sc_check_names.nd rfl (by first | exact Or.inl rfl | exact Or.inr rfl) (de_fnE h_names_of (hr.mono (by decide)) (by rfl) hx0 (da_cons (de_v 0) da_nil)))
 (dss_cons (ds_for (passes_of rfl) rfl (di_range1 (by rfl) Z.z_range (da_cons (de_callB bi_len (by rfl) Z.z_len bb_len (da_cons (de_v 1) da_nil)) da_nil)) (dg_name (i := 2) sc_check_names.nd rfl (by first | exact Or.inl rfl | exact Or.inr rfl))
 (dss_one (ds_if (dt_in (hu65 hr) (de_ix (hu65 hr) (de_v 1) (de_v 2)) (de_slice (de_v 1) do_none (do_some (de_v 2))))
 (dss_one (ds_raise h_BadPlan (fun z => nomatch z) (by decide) (hr.mono (by decide)) rfl (takes_of rfl rfl rfl rfl) (by rfl) (da_cons de_str (da_cons (de_ix (hu65 hr) (de_v 1) (de_v 2)) da_nil))))
 dss_nil)))
 (dss_cons (ds_for (passes_of rfl) rfl (di_seq (de_ix (hu65 hr) (de_v 0) de_int)) (dg_tup rfl (dgs_cons (dg_name (i := 3) sc_check_names.nd rfl (by first | exact Or.inl rfl | exact Or.inr rfl)) (dgs_cons (dg_name (i := 4) sc_check_names.nd rfl (by first | exact Or.inl rfl | exact Or.inr rfl)) (dgs_cons (dg_name (i := 5) sc_check_names.nd rfl (by first | exact Or.inl rfl | exact Or.inr rfl)) dgs_nil))))
 (dss_one (ds_for (passes_of rfl) rfl (di_seq (de_tup (da_cons (de_v 3) (da_cons (de_v 4) da_nil)))) (dg_name (i := 6) sc_check_names.nd rfl (by first | exact Or.inl rfl | exact Or.inr rfl))
 (dss_one (ds_if (dt_notIn (hu65 hr) (de_v 6) (de_v 1))
 (dss_one (ds_raise h_BadPlan (fun z => nomatch z) (by decide) (hr.mono (by decide)) rfl (takes_of rfl rfl rfl rfl) (by rfl) (da_cons de_str (da_cons (de_v 6) da_nil))))
 dss_nil)))))
 (dss_cons (ds_for (passes_of rfl) rfl (di_seq (de_ix (hu65 hr) (de_v 0) de_int)) (dg_tup rfl (dgs_cons (dg_name (i := 6) sc_check_names.nd rfl (by first | exact Or.inl rfl | exact Or.inr rfl)) (dgs_cons (dg_name (i := 5) sc_check_names.nd rfl (by first | exact Or.inl rfl | exact Or.inr rfl)) dgs_nil)))
 (dss_one (ds_if (dt_notIn (hu65 hr) (de_v 6) (de_v 1))
 (dss_one (ds_raise h_BadPlan (fun z => nomatch z) (by decide) (hr.mono (by decide)) rfl (takes_of rfl rfl rfl rfl) (by rfl) (da_cons de_str (da_cons (de_v 6) da_nil))))
 dss_nil)))
 (dss_one (ds_for (passes_of rfl) rfl (di_seq (de_ix (hu65 hr) (de_v 0) de_int)) (dg_tup rfl (dgs_cons (dg_name (i := 3) sc_check_names.nd rfl (by first | exact Or.inl rfl | exact Or.inr rfl)) (dgs_cons (dg_name (i := 4) sc_check_names.nd rfl (by first | exact Or.inl rfl | exact Or.inr rfl)) (dgs_cons (dg_name (i := 5) sc_check_names.nd rfl (by first | exact Or.inl rfl | exact Or.inr rfl)) dgs_nil))))
 (dss_one (ds_if (dt_cmp (op2_eq (hu64 hr)) (de_v 3) (de_v 4))
 (dss_one (ds_raise h_BadPlan (fun z => nomatch z) (by decide) (hr.mono (by decide)) rfl (takes_of rfl rfl rfl rfl) (by rfl) (da_cons de_str (da_cons (de_v 3) da_nil))))
 dss_nil))))))))
theorem sc_check_rooms : FnScope ["plan", "name", "many", "one", "_", "room"] ["plan"] (defScope (top 12)) := ⟨rfl, rfl, rfl, by decide +kernel, rfl, by decide +kernel, by decide +kernel⟩
theorem ok_check_rooms (Z : Zs K w mg) (Dx : DefAt K mg "check_rooms" "check_rooms" (top 12) ["plan"]) (h_BadPlan : Oke P w K mg base "BadPlan" ["kind", "name"]) : Okd P w K mg base (L2.CX P w) 3 "check_rooms" 1 m_check_rooms := by
  unfold m_check_rooms b_check_rooms
  exact okd1 (N := ["plan", "name", "many", "one", "_", "room"]) (l := 2) Dx sc_check_rooms rfl rfl fun f cdv A outer s H E hr =>
 (dss_cons (ds_for (passes_of rfl) rfl (di_seq (de_ix (hu65 hr) (de_v 0) de_int)) (dg_tup rfl (dgs_cons (dg_name (i := 1) sc_check_rooms.nd rfl (by first | exact Or.inl rfl | exact Or.inr rfl)) (dgs_cons (dg_name (i := 2) sc_check_rooms.nd rfl (by first | exact Or.inl rfl | exact Or.inr rfl)) dgs_nil)))
 (dss_one (ds_if (dt_not (dt_chain op2_le op2_le de_int (de_v 2) de_int))
 (dss_one (ds_raise h_BadPlan (fun z => nomatch z) (by decide) (hr.mono (by decide)) rfl (takes_of rfl rfl rfl rfl) (by rfl) (da_cons de_str (da_cons (de_v 1) da_nil))))
 dss_nil)))
 (dss_one (ds_for (passes_of rfl) rfl (di_seq (de_ix (hu65 hr) (de_v 0) de_int)) (dg_tup rfl (dgs_cons (dg_name (i := 3) sc_check_rooms.nd rfl (by first | exact Or.inl rfl | exact Or.inr rfl)) (dgs_cons (dg_name (i := 4) sc_check_rooms.nd rfl (by first | exact Or.inl rfl | exact Or.inr rfl)) (dgs_cons (dg_name (i := 5) sc_check_rooms.nd rfl (by first | exact Or.inl rfl | exact Or.inr rfl)) dgs_nil))))
 (dss_one (ds_if (dt_not (dt_chain op2_le op2_le de_int (de_v 5) de_int))
 (dss_one (ds_raise h_BadPlan (fun z => nomatch z) (by decide) (hr.mono (by decide)) rfl (takes_of rfl rfl rfl rfl) (by rfl) (da_cons de_str (da_cons (de_v 3) da_nil))))
 dss_nil)))))
theorem sc_frames_in_order : FnScope ["plan", "found", "at", "_", "many"] ["plan"] (defScope (top 8)) := ⟨rfl, rfl, rfl, by decide +kernel, rfl, by decide +kernel, by decide +kernel⟩
theorem ok_frames_in_order (Z : Zs K w mg) (Dx : DefAt K mg "frames_in_order" "frames_in_order" (top 8) ["plan"]) : Okd P w K mg base CX0 1 "frames_in_order" 1 m_frames_in_order := by
  unfold m_frames_in_order b_frames_in_order
  exact okd0 (N := ["plan", "found", "at", "_", "many"]) (l := 0) Dx sc_frames_in_order rfl rfl fun f cdv A outer s H E hr =>
 (dss_cons (ds_set (i := 1) sc_frames_in_order.nd rfl (by first | exact Or.inl rfl | exact Or.inr rfl) (de_lst da_nil))
 (dss_cons (ds_set (i := 2) sc_frames_in_order.nd rfl (by first | exact Or.inl rfl | exact Or.inr rfl) de_int)
 (dss_cons (ds_for PassesOwn.never rfl (di_seq (de_ix (hu65 hr) (de_v 0) de_int)) (dg_tup rfl (dgs_cons (dg_name (i := 3) sc_frames_in_order.nd rfl (by first | exact Or.inl rfl | exact Or.inr rfl)) (dgs_cons (dg_name (i := 4) sc_frames_in_order.nd rfl (by first | exact Or.inl rfl | exact Or.inr rfl)) dgs_nil)))
 (dss_cons (ds_expr (de_bm bm_append PySem.F.plainAttrs_list PySem.F.slot_list_append PySem.F.type_list_append (de_v 1) (da_cons (de_tupR2 rfl (by rfl) Z.z_tuple (by rfl) Z.z_range (de_v 2) (de_bin op2_add (de_v 2) (de_v 4))) da_nil)))
 (dss_one (ds_aug (i := 2) sc_frames_in_order.nd rfl (by first | exact Or.inl rfl | exact Or.inr rfl) (de_v 4) op2_iadd))))
 (dss_one (ds_ret (de_callTy bi_tuple (by rfl) Z.z_tuple bb_tuple (da_cons (de_v 1) da_nil)))))))
theorem sc_colours_of : FnScope ["plan"] ["plan"] (defScope (top 6)) := ⟨rfl, rfl, rfl, by decide +kernel, rfl, by decide +kernel, by decide +kernel⟩
theorem ok_colours_of (Z : Zs K w mg) (Dx : DefAt K mg "colours_of" "colours_of" (top 6) ["plan"]) : Okd P w K mg base CX0 1 "colours_of" 1 m_colours_of := by
  unfold m_colours_of b_colours_of
  exact okd0 (N := ["plan"]) (l := 0) Dx sc_colours_of rfl rfl fun f cdv A outer s H E hr =>
 (dss_one (ds_ret (de_bin op2_fdiv (de_ix (hu65 hr) (de_ix (hu65 hr) (de_v 0) de_int) de_int) (de_cg Z.c_LINES_A_FRAME (by rfl)))))
theorem sc_frames_by_colours : FnScope ["plan", "guests", "colours", "found", "k", "own", "frame"] ["plan"] (defScope (top 9)) := ⟨rfl, rfl, rfl, by decide +kernel, rfl, by decide +kernel, by decide +kernel⟩
theorem ok_frames_by_colours (Z : Zs K w mg) (Dx : DefAt K mg "frames_by_colours" "frames_by_colours" (top 9) ["plan"]) (h_colours_of : Okd P w K mg base CX0 1 "colours_of" 1 m_colours_of) : Okd P w K mg base CX0 2 "frames_by_colours" 1 m_frames_by_colours := by
  unfold m_frames_by_colours b_frames_by_colours
  exact okd0 (N := ["plan", "guests", "colours", "found", "k", "own", "frame"]) (l := 1) Dx sc_frames_by_colours rfl rfl fun f cdv A outer s H E hr =>
 (dss_cons (ds_par (i := 1) (j := 2) rfl sc_frames_by_colours.nd rfl rfl (by decide) rfl rfl (da_cons (de_callB bi_len (by rfl) Z.z_len bb_len (da_cons (de_ix (hu65 hr) (de_v 0) de_int) da_nil)) (da_cons (de_fnE h_colours_of (hr.mono (by decide)) (by rfl) hx0 (da_cons (de_v 0) da_nil)) da_nil)))
 (dss_cons (ds_set (i := 3) sc_frames_by_colours.nd rfl (by first | exact Or.inl rfl | exact Or.inr rfl) (de_lst da_nil))
 (dss_cons (ds_for PassesOwn.never rfl (di_range1 (by rfl) Z.z_range (da_cons (de_v 1) da_nil)) (dg_name (i := 4) sc_frames_by_colours.nd rfl (by first | exact Or.inl rfl | exact Or.inr rfl))
 (dss_cons (ds_set (i := 5) sc_frames_by_colours.nd rfl (by first | exact Or.inl rfl | exact Or.inr rfl) (de_lst da_nil))
 (dss_cons (ds_set (i := 6) sc_frames_by_colours.nd rfl (by first | exact Or.inl rfl | exact Or.inr rfl) de_int)
 (dss_cons (ds_while PassesOwn.never (dt_cmp op2_lt (de_callB bi_len (by rfl) Z.z_len bb_len (da_cons (de_v 5) da_nil)) (de_ix (hu65 hr) (de_ix (hu65 hr) (de_ix (hu65 hr) (de_v 0) de_int) (de_v 4)) de_int))
 (dss_cons (ds_if (dt_cmp (op2_eq (hu64 hr)) (de_bin op2_mod (de_bin op2_mod (de_v 6) (de_v 2)) (de_v 1)) (de_v 4))
 (dss_one (ds_expr (de_bm bm_append PySem.F.plainAttrs_list PySem.F.slot_list_append PySem.F.type_list_append (de_v 5) (da_cons (de_v 6) da_nil))))
 dss_nil)
 (dss_one (ds_aug (i := 6) sc_frames_by_colours.nd rfl (by first | exact Or.inl rfl | exact Or.inr rfl) de_int op2_iadd))))
 (dss_one (ds_expr (de_bm bm_append PySem.F.plainAttrs_list PySem.F.slot_list_append PySem.F.type_list_append (de_v 3) (da_cons (de_callTy bi_tuple (by rfl) Z.z_tuple bb_tuple (da_cons (de_v 5) da_nil)) da_nil))))))))
 (dss_one (ds_ret (de_callTy bi_tuple (by rfl) Z.z_tuple bb_tuple (da_cons (de_v 3) da_nil)))))))
theorem sc_frames_of : FnScope ["plan"] ["plan"] (defScope (top 10)) := ⟨rfl, rfl, rfl, by decide +kernel, rfl, by decide +kernel, by decide +kernel⟩
theorem ok_frames_of (Z : Zs K w mg) (Dx : DefAt K mg "frames_of" "frames_of" (top 10) ["plan"]) (h_frames_in_order : Okd P w K mg base CX0 1 "frames_in_order" 1 m_frames_in_order) (h_frames_by_colours : Okd P w K mg base CX0 2 "frames_by_colours" 1 m_frames_by_colours) : Okd P w K mg base CX0 3 "frames_of" 1 m_frames_of := by
  unfold m_frames_of b_frames_of
  exact okd0 (N := ["plan"]) (l := 2) Dx sc_frames_of rfl rfl fun f cdv A outer s H E hr =>
 (dss_cons (ds_if (dt_cmp (op2_eq (hu64 hr)) (de_ix (hu65 hr) (de_ix (hu65 hr) (de_v 0) de_int) de_int) de_str)
 (dss_one (ds_ret (de_fnE h_frames_by_colours (hr.mono (by decide)) (by rfl) hx0 (da_cons (de_v 0) da_nil))))
 dss_nil)
 (dss_one (ds_ret (de_fnE h_frames_in_order (hr.mono (by decide)) (by rfl) hx0 (da_cons (de_v 0) da_nil)))))
theorem sc_is_cache_right : FnScope ["plan", "sets", "ways", "keeping", "hit", "miss", "_"] ["plan"] (defScope (top 13)) := ⟨rfl, rfl, rfl, by decide +kernel, rfl, by decide +kernel, by decide +kernel⟩
theorem ok_is_cache_right (Z : Zs K w mg) (Dx : DefAt K mg "is_cache_right" "is_cache_right" (top 13) ["plan"]) (h_colours_of : Okd P w K mg base CX0 1 "colours_of" 1 m_colours_of) : Okd P w K mg base CX0 2 "is_cache_right" 1 m_is_cache_right := by
  unfold m_is_cache_right b_is_cache_right
  exact okd0 (N := ["plan", "sets", "ways", "keeping", "hit", "miss", "_"]) (l := 1) Dx sc_is_cache_right rfl rfl fun f cdv A outer s H E hr =>
 (dss_cons (ds_asg (de_ix (hu65 hr) (de_v 0) de_int) (dg_tup rfl (dgs_cons (dg_name (i := 1) sc_is_cache_right.nd rfl (by first | exact Or.inl rfl | exact Or.inr rfl)) (dgs_cons (dg_name (i := 2) sc_is_cache_right.nd rfl (by first | exact Or.inl rfl | exact Or.inr rfl)) (dgs_cons (dg_name (i := 3) sc_is_cache_right.nd rfl (by first | exact Or.inl rfl | exact Or.inr rfl)) dgs_nil)))))
 (dss_cons (ds_if (dt_w (dw_or (dt_cmp (op2_ne (hu64 hr)) (de_bin op2_mod (de_v 1) (de_cg Z.c_LINES_A_FRAME (by rfl))) de_int) (dw_or (dt_not (dt_chain op2_le op2_le de_int (de_v 1) de_int)) (dw_or (dt_not (dt_chain op2_le op2_le de_int (de_v 2) de_int)) (dw_or1 (dt_not (dt_chain op2_le op2_le de_int (de_ix (hu65 hr) (de_ix (hu65 hr) (de_v 0) de_int) de_int) de_int)))))))
 (dss_one (ds_ret de_bl))
 dss_nil)
 (dss_cons (ds_if (dt_w (dw_and (dt_cmp (op2_eq (hu64 hr)) (de_v 3) de_str) (dw_and1 (dt_cmp op2_gt (de_callB bi_len (by rfl) Z.z_len bb_len (da_cons (de_ix (hu65 hr) (de_v 0) de_int) da_nil)) (de_fnE h_colours_of (hr.mono (by decide)) (by rfl) hx0 (da_cons (de_v 0) da_nil))))))
 (dss_one (ds_ret de_bl))
 dss_nil)
 (dss_cons (ds_asg (de_ix (hu65 hr) (de_v 0) de_int) (dg_tup rfl (dgs_cons (dg_name (i := 4) sc_is_cache_right.nd rfl (by first | exact Or.inl rfl | exact Or.inr rfl)) (dgs_cons (dg_name (i := 5) sc_is_cache_right.nd rfl (by first | exact Or.inl rfl | exact Or.inr rfl)) (dgs_cons (dg_name (i := 6) sc_is_cache_right.nd rfl (by first | exact Or.inl rfl | exact Or.inr rfl)) (dgs_cons (dg_name (i := 6) sc_is_cache_right.nd rfl (by first | exact Or.inl rfl | exact Or.inr rfl)) dgs_nil))))))
 (dss_one (ds_ret (de_and (de_cmp op2_gt (de_callB (bi_minA rfl (hu65 hr)) (by rfl) Z.z_min bb_min (da_cons (de_ix (hu65 hr) (de_v 0) de_int) da_nil)) de_int) (de_and (de_cmp op2_le (de_callB (bi_maxA rfl (hu65 hr)) (by rfl) Z.z_max bb_max (da_cons (de_ix (hu65 hr) (de_v 0) de_int) da_nil)) de_int) (de_one (de_cmp op2_le (de_v 4) (de_v 5)))))))))))
theorem sc_worst : FnScope ["plan", "hit", "miss", "look", "fault"] ["plan"] (defScope (top 7)) := ⟨rfl, rfl, rfl, by decide +kernel, rfl, by decide +kernel, by decide +kernel⟩
theorem ok_worst (Z : Zs K w mg) (Dx : DefAt K mg "worst" "worst" (top 7) ["plan"]) : Okd P w K mg base CX0 1 "worst" 1 m_worst := by
  unfold m_worst b_worst
  exact okd0 (N := ["plan", "hit", "miss", "look", "fault"]) (l := 0) Dx sc_worst rfl rfl fun f cdv A outer s H E hr =>
 (dss_cons (ds_asg (de_ix (hu65 hr) (de_v 0) de_int) (dg_tup rfl (dgs_cons (dg_name (i := 1) sc_worst.nd rfl (by first | exact Or.inl rfl | exact Or.inr rfl)) (dgs_cons (dg_name (i := 2) sc_worst.nd rfl (by first | exact Or.inl rfl | exact Or.inr rfl)) (dgs_cons (dg_name (i := 3) sc_worst.nd rfl (by first | exact Or.inl rfl | exact Or.inr rfl)) (dgs_cons (dg_name (i := 4) sc_worst.nd rfl (by first | exact Or.inl rfl | exact Or.inr rfl)) dgs_nil))))))
 (dss_one (ds_ret (de_bin op2_add (de_callB (bi_max2 rfl) (by rfl) Z.z_max bb_max (da_cons (de_v 4) (da_cons (de_bin op2_add de_int (de_bin op2_mul de_int (de_bin op2_add (de_v 3) (de_callB (bi_max2 rfl) (by rfl) Z.z_max bb_max (da_cons (de_v 1) (da_cons (de_v 2) da_nil)))))) da_nil))) (de_v 4)))))
theorem sc_check_plan : FnScope ["plan", "frames", "k", "name", "ticks"] ["plan"] (defScope (top 14)) := ⟨rfl, rfl, rfl, by decide +kernel, rfl, by decide +kernel, by decide +kernel⟩
theorem ok_check_plan (Z : Zs K w mg) (Dx : DefAt K mg "check_plan" "check_plan" (top 14) ["plan"]) (h_check_names : Okd P w K mg base (L2.CX P w) 3 "check_names" 1 m_check_names) (h_check_rooms : Okd P w K mg base (L2.CX P w) 3 "check_rooms" 1 m_check_rooms) (h_BadPlan : Oke P w K mg base "BadPlan" ["kind", "name"]) (h_frames_of : Okd P w K mg base CX0 3 "frames_of" 1 m_frames_of) (h_is_cache_right : Okd P w K mg base CX0 2 "is_cache_right" 1 m_is_cache_right) (h_worst : Okd P w K mg base CX0 1 "worst" 1 m_worst) : Okd P w K mg base (L2.CX P w) 4 "check_plan" 1 m_check_plan := by
  unfold m_check_plan b_check_plan
  exact okd1 (N := ["plan", "frames", "k", "name", "ticks"]) (l := 3) Dx sc_check_plan rfl rfl fun f cdv A outer s H E hr =>
 (dss_cons (ds_expr (de_fnE h_check_names (hr.mono (by decide)) (by rfl) (hxX (takes_of rfl rfl rfl rfl)) (da_cons (de_v 0) da_nil)))
 (dss_cons (ds_expr (de_fnE h_check_rooms (hr.mono (by decide)) (by rfl) (hxX (takes_of rfl rfl rfl rfl)) (da_cons (de_v 0) da_nil)))
 (dss_cons (ds_if (dt_not (dt_tru (de_fnE h_is_cache_right (hr.mono (by decide)) (by rfl) hx0 (da_cons (de_v 0) da_nil))))
 (dss_one (ds_raise h_BadPlan (fun z => nomatch z) (by decide) (hr.mono (by decide)) rfl (takes_of rfl rfl rfl rfl) (by rfl) (da_cons de_str (da_cons (de_ix (hu65 hr) (de_v 0) de_int) da_nil))))
 dss_nil)
 (dss_cons (ds_set (i := 1) sc_check_plan.nd rfl (by first | exact Or.inl rfl | exact Or.inr rfl) (de_fnE h_frames_of (hr.mono (by decide)) (by rfl) hx0 (da_cons (de_v 0) da_nil)))
 (dss_cons (ds_for (passes_of rfl) rfl (di_range1 (by rfl) Z.z_range (da_cons (de_callB bi_len (by rfl) Z.z_len bb_len (da_cons (de_v 1) da_nil)) da_nil)) (dg_name (i := 2) sc_check_plan.nd rfl (by first | exact Or.inl rfl | exact Or.inr rfl))
 (dss_one (ds_if (dt_cmp op2_ge (de_ix (hu65 hr) (de_ix (hu65 hr) (de_v 1) (de_v 2)) (de_un op1_neg de_int)) (de_ix (hu65 hr) (de_v 0) de_int))
 (dss_one (ds_raise h_BadPlan (fun z => nomatch z) (by decide) (hr.mono (by decide)) rfl (takes_of rfl rfl rfl rfl) (by rfl) (da_cons de_str (da_cons (de_ix (hu65 hr) (de_ix (hu65 hr) (de_ix (hu65 hr) (de_v 0) de_int) (de_v 2)) de_int) da_nil))))
 dss_nil)))
 (dss_one (ds_for (passes_of rfl) rfl (di_seq (de_ix (hu65 hr) (de_v 0) de_int)) (dg_tup rfl (dgs_cons (dg_name (i := 3) sc_check_plan.nd rfl (by first | exact Or.inl rfl | exact Or.inr rfl)) (dgs_cons (dg_name (i := 4) sc_check_plan.nd rfl (by first | exact Or.inl rfl | exact Or.inr rfl)) dgs_nil)))
 (dss_one (ds_if (dt_not (dt_chain op2_le op2_le (de_fnE h_worst (hr.mono (by decide)) (by rfl) hx0 (da_cons (de_v 0) da_nil)) (de_v 4) (de_bin op2_pow de_int de_int)))
 (dss_one (ds_raise h_BadPlan (fun z => nomatch z) (by decide) (hr.mono (by decide)) rfl (takes_of rfl rfl rfl rfl) (by rfl) (da_cons de_str (da_cons (de_v 3) da_nil))))
 dss_nil)))))))))
theorem sc__law_told : FnScope ["plan", "e"] ["plan"] (defScope (top 32)) := ⟨rfl, rfl, rfl, by decide +kernel, rfl, by decide +kernel, by decide +kernel⟩
theorem ok__law_told (Z : Zs K w mg) (Dx : DefAt K mg "_law_told" "_law_told" (top 32) ["plan"]) (h_check_plan : Okd P w K mg base (L2.CX P w) 4 "check_plan" 1 m_check_plan) : Okd P w K mg base CX0 5 "_law_told" 1 m__law_told := by
  unfold m__law_told b__law_told
  exact okd0 (N := ["plan", "e"]) (l := 4) Dx sc__law_told rfl rfl fun f cdv A outer s H E hr =>
 (dss_one (ds_tryE Z.try_WhisperError_BadPlan rfl rfl sc__law_told.nd rfl rfl (by rfl) (fun W2 pn xe tk hp => (dss_one (ds_ret (de_fnE h_check_plan (hr.mono (by decide)) (by rfl) (hxX tk) (da_cons (de_v 0) da_nil))))) (su_ifs (p1 := []) (tu_not (tu_is (b := (fun c => decide (c ∈ (["BadPlan"] : List Str)))) rfl (by first | exact Or.inl rfl | exact Or.inr (Or.inl rfl) | exact Or.inr (Or.inr rfl)) Z.ef_none_BadPlan Z.cl_BadPlan (by rfl) (by rfl) Z.z_isinstance [("BadPlan", "BadPlan", true)] Z.is_BadPlan_BadPlan (by decide +kernel))) vu_str (su_one (su_retT (au_cons (vu_fld rfl (by first | exact Or.inl rfl | exact Or.inr (Or.inl rfl) | exact Or.inr (Or.inr rfl)) Z.ef_kind_BadPlan) (au_cons (vu_fld rfl (by first | exact Or.inl rfl | exact Or.inr (Or.inl rfl) | exact Or.inr (Or.inr rfl)) Z.ef_name_BadPlan) au_nil)))))))
theorem sc_law : FnScope ["script", "w", "turn", "plan", "due"] ["script"] (defScope (top 33)) := ⟨rfl, rfl, rfl, by decide +kernel, rfl, by decide +kernel, by decide +kernel⟩
theorem law_ok {P : Program} {w : World} {K : PySem.W.Frag} {mg : Str → Option Value} {base : Heap} {f : Addr} {fd : FuncData} (Z : Zs K w mg) (F : Fun K "law" "law" (top 33) f fd) (h__law_draws : Okd P w K mg base CX0 1 "_law_draws" 2 m__law_draws) (h__law_plan : Okd P w K mg base CX0 5 "_law_plan" 1 m__law_plan) (h__law_due : Okd P w K mg base CX0 2 "_law_due" 1 m__law_due) (h__law_alike : Okd P w K mg base CX0 40 "_law_alike" 2 (m__law_alike 40)) (h__law_told : Okd P w K mg base CX0 5 "_law_told" 1 m__law_told) (h_frames_of : Okd P w K mg base CX0 3 "frames_of" 1 m_frames_of) (h__law_frames : Okd P w K mg base CX0 1 "_law_frames" 2 m__law_frames) (h_worst : Okd P w K mg base CX0 1 "worst" 1 m_worst) (h__law_worst : Okd P w K mg base CX0 1 "_law_worst" 1 m__law_worst) : FnOk P w K mg base CX0 41 f fd ["script"] (spM K mg 1 m_law) := by
  unfold m_law b_law
  exact fn0 (N := ["script", "w", "turn", "plan", "due"]) (l := 40) F sc_law rfl rfl fun cdv A outer s H E hr =>
 (dss_cons (ds_set (i := 1) sc_law.nd rfl (by first | exact Or.inl rfl | exact Or.inr rfl) (de_dict (dps_cons de_str (de_fnE h__law_draws (hr.mono (by decide)) (by rfl) hx0 (da_cons (de_v 0) (da_cons de_int da_nil))) (dps_cons de_str de_int (dps_cons de_str de_bl dps_nil)))))
 (dss_cons (ds_for PassesOwn.never rfl (di_range1 (by rfl) Z.z_range (da_cons de_int da_nil)) (dg_name (i := 2) sc_law.nd rfl (by first | exact Or.inl rfl | exact Or.inr rfl))
 (dss_cons (ds_put (hu65 hr) (de_v 1) de_str (de_cmp op2_gt (de_v 2) de_int))
 (dss_cons (ds_set (i := 3) sc_law.nd rfl (by first | exact Or.inl rfl | exact Or.inr rfl) (de_fnE h__law_plan (hr.mono (by decide)) (by rfl) hx0 (da_cons (de_v 1) da_nil)))
 (dss_cons (ds_set (i := 4) sc_law.nd rfl (by first | exact Or.inl rfl | exact Or.inr rfl) (de_fnE h__law_due (hr.mono (by decide)) (by rfl) hx0 (da_cons (de_v 3) da_nil)))
 (dss_cons (ds_if (dt_not (dt_tru (de_fnE h__law_alike (hr.mono (by decide)) (by rfl) hx0 (da_cons (de_fnE h__law_told (hr.mono (by decide)) (by rfl) hx0 (da_cons (de_v 3) da_nil)) (da_cons (de_v 4) da_nil)))))
 (dss_one (ds_ret de_bl))
 dss_nil)
 (dss_cons (ds_if (dt_w (dw_and (dt_cmp op2_is (de_v 4) de_non) (dw_and1 (dt_not (dt_tru (de_fnE h__law_alike (hr.mono (by decide)) (by rfl) hx0 (da_cons (de_fnE h_frames_of (hr.mono (by decide)) (by rfl) hx0 (da_cons (de_v 3) da_nil)) (da_cons (de_fnE h__law_frames (hr.mono (by decide)) (by rfl) hx0 (da_cons (de_ix (hu65 hr) (de_v 3) de_int) (da_cons (de_ix (hu65 hr) (de_v 3) de_int) da_nil))) da_nil))))))))
 (dss_one (ds_ret de_bl))
 dss_nil)
 (dss_one (ds_if (dt_w (dw_and (dt_cmp op2_is (de_v 4) de_non) (dw_and1 (dt_not (dt_tru (de_fnE h__law_alike (hr.mono (by decide)) (by rfl) hx0 (da_cons (de_fnE h_worst (hr.mono (by decide)) (by rfl) hx0 (da_cons (de_v 3) da_nil)) (da_cons (de_fnE h__law_worst (hr.mono (by decide)) (by rfl) hx0 (da_cons (de_ix (hu65 hr) (de_v 3) de_int) da_nil)) da_nil))))))))
 (dss_one (ds_ret de_bl))
 dss_nil))))))))
 (dss_one (ds_ret de_bl))))
end
end Pf

namespace Pf
open PySem L2 PyProof.Rows Mir
theorem c_lf : cD_LINES_A_FRAME = .int 4 := rfl

local macro_rules | `(tactic| walk_at "mir") => `(tactic| simp -implicitDefEqProofs only [wp_ok, wp_sSeq, seq_nx, seq_rt, seq_ex, kx_seq, kx_mk, kRet_seq, kRet_mk, kRet_fe, kx_fe, fe_ex, seq_bk, seq_ct, wp_sNil, wp_sBreak, wp_sCont, wp_sRetN, wp_sExpr, kExpr_eq, wp_sRet, kRet_eq, wp_sSet, kSet_eq, wp_sSetT, wp_sIf, kIfS_d, kIfS_n, kIfS_t, kIfS_f, wp_sPar, kPar_eq, wp_sPar3, kPar3_eq, r_cix, r_sumT, wp_sAug, kAug_eq, kAug2_eq, wp_sPut, kPut1_eq, kPut2_eq, kPut3_ref, wp_sPutAug, wp_sSlc, kSc1_eq, kSc2_eq, kSc3_eq, kSc4_ref, r_tupR2, r_lstR2, set_app_lt, kPA1_eq, kPA3_eq, wp_sFld, kFld1_eq, wp_sFldAug, kFA0_eq, kFA1_eq, kFA2_eq, wp_sFor, wp_iSeq, kSeq_tup, kSeq_fl, wp_iRg1, kRg1_eq, wp_iRg2, kRg2_eq, wp_iRgC, kRgC_eq,
  wp_eV, kV_some, wp_eC, wp_e2, k2a_eq, k2b_eq, wp_e1, k1_eq, wp_eCall, wp_aNil, wp_aCons, kC1_eq, kC2_eq, wp_eTup, kTup_eq, wp_eLst, kLst_eq, wp_eFn, kFn_eq, wp_tb, kTb_eq, wp_tTru, kTru_bl, wp_tAnd, kAnd_d, kAnd_n, kAnd_t, kAnd_f, wp_tOr, kOr_d, kOr_n, kOr_t, kOr_f, wp_tNot, kNot_eq, wp_eIf, kIf_d, kIf_n, kIf_t, kIf_f, wp_eAnd, kAndV_d, kAndV_n, kAndV_t, kAndV_f, wp_eOr, kOrV_d, kOrV_n, kOrV_t, kOrV_f, wp_eNot, kNotV_bl, wp_eChain, kCh1_eq, kCh2_eq, kCh3_eq, wp_eSl, kSl1_eq, kSl2_eq, kSl3_eq, wp_oNone, wp_oSome, kO_eq, wp_eBm, kBm_eq, kBm2_eq, wp_eBm0, kBm0_eq, wp_eMeth, kMt2_eq, wp_eMake, kMk_eq, kMkI_eq, wp_eDict, wp_pairs_nil, wp_pairs_cons, kP1_eq, kP2_eq, kP3_eq, wp_eLc, wp_allocO, fe_nx, fe_rt,
  r_add, r_addS, r_addT, r_iadd, r_sub, r_mul, r_fdiv, r_mod, r_pow, r_shl, r_shr, r_and, r_or, r_xor, r_neg, r_lt, r_le, r_gt, r_ge, r_eqI, r_eqS, r_eqB, r_neI, r_neS, r_neB, r_isB, r_isNB, r_is0, r_isI, r_isT, r_isNot0, r_isNotI, r_isNotT, r_int, r_intB, r_abs, r_max2, r_min2, r_lenT, r_lenF, r_lenR, kLen_lst, kLen_dk, kOpt_some, r_ixT, r_ixF, r_ixR, kIx_lst, kIx_dkS, kIx_dkI, look_cons, inr_inj, inl_inj, ofS_inj, String.reduceEq, reduceIte, kPutO_dkS, kPutO_dkI, r_append, sl_ref, kPA2_ref, kPAo_dkS, kPAo_dkI, kPA4_ref, kPDo_dkS, kPDo_dkI,
  List.getElem?_cons_zero, List.getElem?_cons_succ, List.set_cons_zero, List.set_cons_succ, List.length_cons, List.length_nil, List.map_cons, List.map_nil, List.cons_append, List.nil_append, List.replicate_succ, List.replicate_zero, decide_eq_true_eq, decide_eq_false_iff_not, decide_true, decide_false, Bool.not_true, Bool.not_false, Nat.reduceAdd, tyD_ref, beq_self_eq_true, Int.zero_add, Int.mul_one, Int.toNat_natCast, Nat.zero_add, wp_mkFn, eq_self, c_lf, wp_sRaise, kRaise_eq, wp_sTry, wp_sTryN, wp_sSetM, kSetM_tup, kSetM_ref, kM_eq, wp_aAll_nil, wp_aAll_cons, kA_eq, wp_aNm, wp_aSub, kAs1_eq, kAs2_ref, wp_aFld, kAf_ref, r_kx, r_kin, wp_iZipT, kZip_eq, r_dict, wp_eNinR, kNinR_eq, r_maxAT, r_minAT, r_maxAR, r_minAR, r_fld, kFldO_ins, lk_nil, lk_cons, kFld2_ref, kFA3_ref, kFlO_ins, kMt_ref, kMtO_ins, kMtM_some, putA_nil, putA_cons, mem_one, mem_two, mem_three, or_true, true_or, kLsO_lst, r_pop0, r_popAt0, r_insert, r_extend, r_tupR, r_tupT, r_tupF, r_listR, r_listT, r_listF, r_addR, kSeq_refO, set_get, set_get', set_same, List.take_zero, List.drop_zero, r_mulR, List.flatten_replicate_singleton, wipe_nil, wipe_cons, wp_tYes, kSetT_ref, kSetT_tup, kSetT_nm, setG_nil, setG_cons, atI_0, atI_1, atI_2, atI_3, atI_4, atI_5, atI_6, atI_7, List.length_set, List.set_set, List.getElem?_append_left, List.head?_cons, List.tail_cons, sz_le, sz_lt, Nat.reduceLeDiff, Nat.reduceLT, Nat.reduceSub, lim64_of, lim62_of, cMod_of, cDiv_of, cNn_of, cPow_of, Int.reduceLT, Int.reduceLE, Int.reduceNeg, Int.reduceToNat, Int.reduceAdd, r_inT, r_ninT, flat_int, flat_str, flat_bl, eqF_int, eqF_str, dec_or, List.all_cons, List.all_nil, List.any_cons, List.any_nil, Bool.and_self, Bool.and_true, Bool.or_false, Bool.false_or, Bool.true_or, Bool.or_true, r_isi, kIsi_some, tyN_non, tyN_bl, tyN_int, tyN_str, tyN_tup, tyN_fl, tyN_ref, tyO_lst, tyO_dk, subN_int, subN_bool, subN_str, subN_tuple, subN_list, subN_dict, Option.bind_some, String.reduceBEq, r_isS, r_isBl, r_isR, r_isF, r_isNotS, r_isNotBl, r_isNotR, r_isNotF, reduceCtorEq, kDict_dk, kDk_some, keysD_nil, keysD_s, keysD_i, Option.map_some, dmerge_def, List.foldl_cons, List.foldl_nil, dput_nil, dput_n, dput_h, List.forall_mem_cons, List.not_mem_nil, true_imp_iff, false_imp_iff, implies_true, ne_eq, not_false_eq_true, not_true_eq_false, get_app, get_app0, set_app, set_app0, get_appE, get_appE0, set_appE, set_appE0, List.length_map, List.length_append, List.append_assoc, Nat.add_assoc, Nat.reduceEqDiff, true_and, and_true])
local macro_rules | `(tactic| walk_at "mirs") => `(tactic| simp -implicitDefEqProofs only [wp_ok, wp_sSeq, seq_nx, seq_rt, seq_ex, kx_seq, kx_mk, kRet_seq, kRet_mk, kRet_fe, kx_fe, fe_ex, seq_bk, seq_ct, wp_sNil, wp_sBreak, wp_sCont, wp_sRetN, wp_sExpr, kExpr_eq, wp_sRet, kRet_eq, wp_sSet, kSet_eq, wp_sSetT, wp_sIf, kIfS_d, kIfS_n, kIfS_t, kIfS_f, wp_sPar, kPar_eq, wp_sPar3, kPar3_eq, r_cix, r_sumT, wp_sAug, kAug_eq, kAug2_eq, wp_sPut, kPut1_eq, kPut2_eq, kPut3_ref, wp_sPutAug, wp_sSlc, kSc1_eq, kSc2_eq, kSc3_eq, kSc4_ref, r_tupR2, r_lstR2, set_app_lt, kPA1_eq, kPA3_eq, wp_sFld, kFld1_eq, wp_sFldAug, kFA0_eq, kFA1_eq, kFA2_eq, wp_sFor, wp_iSeq, kSeq_tup, kSeq_fl, wp_iRg1, kRg1_eq, wp_iRg2, kRg2_eq, wp_iRgC, kRgC_eq,
  wp_eV, kV_some, wp_eC, wp_e2, k2a_eq, k2b_eq, wp_e1, k1_eq, wp_eCall, wp_aNil, wp_aCons, kC1_eq, kC2_eq, wp_eTup, kTup_eq, wp_eLst, kLst_eq, wp_eFn, kFn_eq, wp_tb, kTb_eq, wp_tTru, kTru_bl, wp_tAnd, kAnd_d, kAnd_n, kAnd_t, kAnd_f, wp_tOr, kOr_d, kOr_n, kOr_t, kOr_f, wp_tNot, kNot_eq, wp_eIf, kIf_d, kIf_n, kIf_t, kIf_f, wp_eAnd, kAndV_d, kAndV_n, kAndV_t, kAndV_f, wp_eOr, kOrV_d, kOrV_n, kOrV_t, kOrV_f, wp_eNot, kNotV_bl, wp_eChain, kCh1_eq, kCh2_eq, kCh3_eq, wp_eSl, kSl1_eq, kSl2_eq, kSl3_eq, wp_oNone, wp_oSome, kO_eq, wp_eBm, kBm_eq, kBm2_eq, wp_eBm0, kBm0_eq, wp_eMeth, kMt2_eq, wp_eMake, kMk_eq, kMkI_eq, wp_eDict, wp_pairs_nil, wp_pairs_cons, kP1_eq, kP2_eq, kP3_eq, wp_eLc, wp_allocO, fe_nx, fe_rt,
  r_add, r_addS, r_addT, r_iadd, r_sub, r_mul, r_fdiv, r_mod, r_pow, r_shl, r_shr, r_and, r_or, r_xor, r_neg, r_lt, r_le, r_gt, r_ge, r_eqI, r_eqS, r_eqB, r_neI, r_neS, r_neB, r_isB, r_isNB, r_is0, r_isI, r_isT, r_isNot0, r_isNotI, r_isNotT, r_int, r_intB, r_abs, r_max2, r_min2, r_lenT, r_lenF, r_lenR, kLen_lst, kLen_dk, kOpt_some, r_ixT, r_ixF, r_ixR, kIx_lst, kIx_dkS, kIx_dkI, look_cons, inr_inj, inl_inj, ofS_inj, String.reduceEq, reduceIte, kPutO_dkS, kPutO_dkI, r_append, sl_ref, kPA2_ref, kPAo_dkS, kPAo_dkI, kPA4_ref, kPDo_dkS, kPDo_dkI,
  List.getElem?_cons_zero, List.getElem?_cons_succ, List.set_cons_zero, List.set_cons_succ, List.length_cons, List.length_nil, List.map_cons, List.map_nil, List.cons_append, List.nil_append, List.replicate_succ, List.replicate_zero, decide_eq_true_eq, decide_eq_false_iff_not, decide_true, decide_false, Bool.not_true, Bool.not_false, Nat.reduceAdd, tyD_ref, beq_self_eq_true, Int.zero_add, Int.mul_one, Int.toNat_natCast, Nat.zero_add, wp_mkFn, eq_self, c_lf, wp_sRaise, kRaise_eq, wp_sTry, wp_sTryN, wp_sSetM, kSetM_tup, kSetM_ref, kM_eq, wp_aAll_nil, wp_aAll_cons, kA_eq, wp_aNm, wp_aSub, kAs1_eq, kAs2_ref, wp_aFld, kAf_ref, r_kx, r_kin, wp_iZipT, kZip_eq, r_dict, wp_eNinR, kNinR_eq, r_maxAT, r_minAT, r_maxAR, r_minAR, r_fld, kFldO_ins, lk_nil, lk_cons, kFld2_ref, kFA3_ref, kFlO_ins, kMt_ref, kMtO_ins, kMtM_some, putA_nil, putA_cons, mem_one, mem_two, mem_three, or_true, true_or, kLsO_lst, r_pop0, r_popAt0, r_insert, r_extend, r_tupR, r_tupT, r_tupF, r_listR, r_listT, r_listF, r_addR, kSeq_refO, set_get, set_get', set_same, List.take_zero, List.drop_zero, r_mulR, List.flatten_replicate_singleton, wipe_nil, wipe_cons, wp_tYes, kSetT_ref, kSetT_tup, kSetT_nm, setG_nil, setG_cons, atI_0, atI_1, atI_2, atI_3, atI_4, atI_5, atI_6, atI_7, List.length_set, List.set_set, List.getElem?_append_left, List.head?_cons, List.tail_cons, sz_le, sz_lt, Nat.reduceLeDiff, Nat.reduceLT, Nat.reduceSub, lim64_of, lim62_of, cMod_of, cDiv_of, cNn_of, cPow_of, Int.reduceLT, Int.reduceLE, Int.reduceNeg, Int.reduceToNat, Int.reduceAdd, r_inT, r_ninT, flat_int, flat_str, flat_bl, eqF_int, eqF_str, dec_or, List.all_cons, List.all_nil, List.any_cons, List.any_nil, Bool.and_self, Bool.and_true, Bool.or_false, Bool.false_or, Bool.true_or, Bool.or_true, r_isi, kIsi_some, tyN_non, tyN_bl, tyN_int, tyN_str, tyN_tup, tyN_fl, tyN_ref, tyO_lst, tyO_dk, subN_int, subN_bool, subN_str, subN_tuple, subN_list, subN_dict, Option.bind_some, String.reduceBEq, r_isS, r_isBl, r_isR, r_isF, r_isNotS, r_isNotBl, r_isNotR, r_isNotF, reduceCtorEq, kDict_dk, kDk_some, keysD_nil, keysD_s, keysD_i, Option.map_some, dmerge_def, List.foldl_cons, List.foldl_nil, dput_nil, dput_n, dput_h, List.forall_mem_cons, List.not_mem_nil, true_imp_iff, false_imp_iff, implies_true, ne_eq, not_false_eq_true, not_true_eq_false, get_app, get_app0, set_app, set_app0, get_appE, get_appE0, set_appE, set_appE0, List.length_map, List.length_append, List.append_assoc, Nat.add_assoc, Nat.reduceEqDiff, true_and, and_true, *])
local macro_rules | `(tactic| walk_at "sd") => `(tactic| first | with_reducible rfl | decide | (have hSZ : SZ = 16777216 := rfl; first | exact cMod_of (by omega) | exact lim64_l (by omega) (by omega) | exact lim64_r (by omega) (by omega) | exact cNn_of (by omega) | exact cDiv_of (by omega) (by omega) | exact cPow_of (by omega) (by omega) (by omega) (by omega) | exact lim62_of (by omega) (by omega) | exact lim64_of (by omega) (by omega) | omega | ((try simp only [List.length_map, List.length_append, List.length_cons, List.length_nil] at *); (have hSZ : SZ = 16777216 := rfl); omega)))
local macro_rules | `(tactic| walk_at "side") => `(tactic| repeat (with_reducible refine And.intro (by walk_at "sd") ?_))

section
/-! ### the draws -/
/-- the store with the draws at n, their dict at iw -/
structure DrawSt (S : ST) (iw n : Nat) : Prop where
  ne : iw ≠ n
  ex : ∃ (a : Int × Bool) (xs : List Int), S[iw]? = some (.dk [(.inr "draws", .ref n), (.inr "at", .int a.1), (.inr "wrong", .bl a.2)]) ∧ S[n]? = some (.lst (xs.map D.int)) ∧ 0 ≤ a.1 ∧ (∀ x ∈ xs, 0 ≤ x) ∧ xs.length < SZ
/-- all but the draws' place stands as it was -/
structure Fr (iw : Nat) (S S' : ST) : Prop where
  le : S.length ≤ S'.length
  eq : ∀ i, i ≠ iw → i < S.length → S'[i]? = S[i]?
theorem Fr.refl (iw : Nat) (S : ST) : Fr iw S S := ⟨Nat.le_refl _, fun _ _ _ => rfl⟩
theorem Fr.trans {iw : Nat} {S S1 S2 : ST} (a : Fr iw S S1) (b : Fr iw S1 S2) : Fr iw S S2 := ⟨Nat.le_trans a.le b.le, fun i h1 h2 => (b.eq i h1 (Nat.lt_of_lt_of_le h2 a.le)).trans (a.eq i h1 h2)⟩
theorem Fr.app (iw : Nat) (S T : ST) : Fr iw S (S ++ T) := ⟨by simp, fun i _ h => List.getElem?_append_left h⟩
theorem Fr.set (iw : Nat) (S : ST) (o : O) : Fr iw S (S.set iw o) := ⟨by simp, fun i h _ => List.getElem?_set_ne (Ne.symm h)⟩
theorem Fr.get {iw : Nat} {S S' : ST} (f : Fr iw S S') {i : Nat} {o : O} (h : i ≠ iw) (e : S[i]? = some o) : S'[i]? = some o := by rw [f.eq i h (List.getElem?_eq_some_iff.mp e).1]; exact e
theorem DrawSt.fr {S S' : ST} {iw n : Nat} (d : DrawSt S iw n) (h : S'[iw]? = S[iw]?) (f : Fr iw S S') : DrawSt S' iw n := by
  obtain ⟨ne, a, xs, h1, h2, h3⟩ := d
  exact ⟨ne, a, xs, h.trans h1, f.get (Ne.symm ne) h2, h3⟩
theorem DrawSt.app {S : ST} {iw n : Nat} (d : DrawSt S iw n) (T : ST) : DrawSt (S ++ T) iw n := by
  refine d.fr ?_ (.app iw S T)
  obtain ⟨_, a, xs, h1, _⟩ := d
  rw [List.getElem?_append_left (List.getElem?_eq_some_iff.mp h1).1]
theorem next_ok {S : ST} {iw n : Nat} (d : DrawSt S iw n) {many : Int} (hm : 0 < many) :
    ∃ (v : Int) (S' : ST), m__law_next [.ref iw, .int many] S = .ok (.int v) S' ∧ 0 ≤ v ∧ v < many ∧ DrawSt S' iw n ∧ Fr iw S S' := by
  obtain ⟨ne, ⟨a, b⟩, xs, h1, h2, h3, h4, h5⟩ := d
  dsimp only at h1 h3
  suffices h : wpR (m__law_next [.ref iw, .int many] S) (fun r S' => ∃ v : Int, r = .int v ∧ 0 ≤ v ∧ v < many ∧ DrawSt S' iw n ∧ Fr iw S S') (fun _ _ _ => False) by
    obtain ⟨r, S', e, v, rfl, q⟩ := wpR_eq h
    exact ⟨v, S', e, q⟩
  have hl : iw < S.length := (List.getElem?_eq_some_iff.mp h1).1
  unfold m__law_next
  walk_at "mir"
  unfold b__law_next
  walk_at "mirs"
  generalize hS : S.set iw (.dk [(Sum.inr (Str.ofString "draws"), D.ref n), (Sum.inr (Str.ofString "at"), D.int (a + 1)), (Sum.inr (Str.ofString "wrong"), D.bl b)]) = S1
  have g1 : S1[iw]? = some (.dk [(Sum.inr (Str.ofString "draws"), D.ref n), (Sum.inr (Str.ofString "at"), D.int (a + 1)), (Sum.inr (Str.ofString "wrong"), D.bl b)]) := by rw [← hS]; exact set_same hl
  have g2 : S1[n]? = some (.lst (xs.map D.int)) := by rw [← hS, set_get (Ne.symm ne)]; exact h2
  have dS : DrawSt S1 iw n := ⟨ne, (a + 1, b), xs, g1, g2, by show 0 ≤ a + 1; omega, h4, h5⟩
  have fS : Fr iw S S1 := by rw [← hS]; exact .set _ _ _
  walk_at "mirs"
  refine ⟨fun _ => ⟨0, rfl, Int.le_refl _, hm⟩, fun c => ?_⟩
  have ha : a.toNat < xs.length := by omega
  rw [atI_pos (by omega) (by rw [List.length_map]; omega), show (a + 1 - 1).toNat = a.toNat by omega, List.getElem?_map, List.getElem?_eq_getElem ha, Option.map_some]
  walk_at "mirs"
  walk_at "side"
  exact ⟨_, rfl, Int.emod_nonneg _ (by omega), Int.emod_lt_of_pos _ hm⟩
theorem next_w {S : Mir.ST} {iw n : Nat} (d : DrawSt S iw n) {many : Int} (hm : 0 < many) {Q : D → Mir.ST → Prop} {X : XQ} (k : ∀ (v : Int) (S' : Mir.ST), 0 ≤ v → v < many → DrawSt S' iw n → Fr iw S S' → Q (.int v) S') : wpR (m__law_next [.ref iw, .int many] S) Q X := by
  obtain ⟨v, S', e, h0, h1, hd, hf⟩ := next_ok d hm
  exact wpR_of ⟨_, _, e, k v S' h0 h1 hd hf⟩

theorem nat_int (j : Int) (h : 0 ≤ j) : ((j.toNat : Nat) : Int) = j := Int.toNat_of_nonneg h
theorem abs_nn (c : Int) : 0 ≤ (if c < 0 then -c else c) := by split <;> omega
theorem cut_map (xs : List Int) (lo hi : Option Int) : ∃ ys : List Int, Mir.cutD (xs.map D.int) lo hi = ys.map D.int ∧ (∀ y ∈ ys, y ∈ xs) ∧ ys.length ≤ xs.length := by
  unfold Mir.cutD
  rw [← List.map_drop, ← List.map_take]
  exact ⟨_, rfl, fun y h => List.mem_of_mem_drop (List.mem_of_mem_take h), by rw [List.length_take, List.length_drop]; omega⟩
theorem in_loop {K : Kt} {a0 a1 a3 a4 a5 g7 : Option D} (S0 : Mir.ST) (xs : List Int) (r : Int) (B : Nat) (hr : 0 ≤ r) (hx : ∀ x ∈ xs, 0 ≤ x) (hl : xs.length ≤ B) (hB : B + 60 < SZ)
    (k : ∀ (xs : List Int) (r : Int) (g7 : Option D), (∀ x ∈ xs, 0 ≤ x) → xs.length ≤ B + 60 → K.nx [a0, a1, some (D.ref S0.length), a3, a4, a5, some (.int r), g7] (S0 ++ [.lst (xs.map D.int)])) :
    kFor (.nm 7) (sIf (tb (e2 mGt (eV 6) (eC (.int 0)))) (sSeq (sExpr (eBm "list" bAppend (eV 2) (aCons (e2 mMod (eCall bInt (aCons (eV 6) aNil)) (eC (.int 997))) aNil))) (sSet 6 (e2 mFDiv (eV 6) (eC (.int 997))))) sNil)
      K [a0, a1, some (D.ref S0.length), a3, a4, a5, some (.int r), g7] ⟨rngD 0 1 60, none⟩ (S0 ++ [.lst (xs.map D.int)]) := by
  refine for_rng (fun i G S => ∃ (r : Int) (xs : List Int) (g7 : Option D), G = [a0, a1, some (D.ref S0.length), a3, a4, a5, some (.int r), g7] ∧ S = S0 ++ [.lst (xs.map D.int)] ∧ 0 ≤ r ∧ (∀ x ∈ xs, 0 ≤ x) ∧ xs.length ≤ B + i) ?_ ?_ ?_
  · exact ⟨r, xs, g7, rfl, rfl, hr, hx, by omega⟩
  · intro G S hP
    obtain ⟨r, xs, g7, hG, hS, h0, hx, hl⟩ := hP
    rw [hG, hS]
    exact k xs r g7 hx hl
  · clear hl hx hr g7 r xs
    intro i G S hi hP
    obtain ⟨r, xs, g7, hG, hS, h0, hx, hl⟩ := hP
    rw [hG, hS]
    clear hG hS
    refine ⟨_, rfl, ?_⟩
    walk_at "mir"
    refine ⟨fun hb => ?_, fun hb => ⟨r, xs, _, rfl, rfl, h0, hx, by omega⟩⟩
    walk_at "side"
    refine ⟨r / 997, xs ++ [r % 997], _, rfl, by rw [List.map_append]; rfl, by omega, ?_, by rw [List.length_append, List.length_singleton]; omega⟩
    intro x hx2
    rcases List.mem_append.mp hx2 with h | h
    · exact hx x h
    · rw [List.mem_singleton.mp h]; omega
theorem draws_ok (ns : List Int) (h63 : ns.length ≤ 63) (many : Nat) (hm : many ≤ 4000) (S0 : Mir.ST) :
    ∃ (n : Nat) (xs : List Int) (S' : Mir.ST), m__law_draws [.fl (ns.map D.int), .int many] S0 = .ok (.ref n) S' ∧ S'[n]? = some (.lst (xs.map D.int)) ∧ (∀ x ∈ xs, 0 ≤ x) ∧ xs.length < SZ ∧ S0.length ≤ n ∧ ∃ T, S' = S0 ++ T := by
  suffices h : wpR (m__law_draws [.fl (ns.map D.int), .int many] S0) (fun r S' => ∃ (n : Nat) (xs : List Int), r = .ref n ∧ S'[n]? = some (.lst (xs.map D.int)) ∧ (∀ x ∈ xs, 0 ≤ x) ∧ xs.length < SZ ∧ S0.length ≤ n ∧ ∃ T, S' = S0 ++ T) (fun _ _ _ => False) by
    obtain ⟨r, S', e, h2⟩ := wpR_eq h
    obtain ⟨n, xs, e2, q⟩ := h2
    rw [e2] at e
    exact ⟨n, xs, S', e, q⟩
  unfold m__law_draws
  walk_at "mir"
  unfold b__law_draws
  walk_at "mir"
  walk_at "side"
  refine for_rng (fun i G S => ∃ (m : Int) (xs : List Int) (g4 g5 g6 g7 : Option D), G = [some (.fl (ns.map D.int)), some (.int many), some (.ref S0.length), some (.int m), g4, g5, g6, g7] ∧ S = S0 ++ [.lst (xs.map D.int)] ∧ 0 ≤ m ∧ m < 65537 ∧ (∀ x ∈ xs, 0 ≤ x) ∧ xs.length ≤ 62 * i) ?_ ?_ ?_
  · exact ⟨7, [], _, _, _, _, rfl, rfl, by omega, by omega, by simp, by simp⟩
  · intro G S hP
    rw [seq_nx]
    obtain ⟨m, xs, g4, g5, g6, g7, hG, hS, h0, h1, hx, hl⟩ := hP
    rw [hG, hS]
    clear hG hS
    walk_at "mir"
    walk_at "side"
    refine for_rng (fun i G S => ∃ (m : Int) (xs : List Int) (g4 : Option D), G = [some (.fl (ns.map D.int)), some (.int many), some (.ref S0.length), some (.int m), g4, g5, g6, g7] ∧ S = S0 ++ [.lst (xs.map D.int)] ∧ 0 ≤ m ∧ m < 65537 ∧ (∀ x ∈ xs, 0 ≤ x) ∧ xs.length ≤ 62 * 63 + i) ?_ ?_ ?_
    · exact ⟨m, xs, g4, rfl, rfl, h0, h1, hx, by omega⟩
    · clear h0 h1 hx hl m xs g4
      intro G S hP
      rw [seq_nx]
      obtain ⟨m, xs, g4, hG, hS, h0, h1, hx, hl⟩ := hP
      rw [hG, hS]
      clear hG hS
      walk_at "mir"
      obtain ⟨ys, hy, hy2, hy3⟩ := cut_map xs none (some (many : Int))
      rw [hy]
      refine ⟨_, ys, rfl, by simp, fun x h => hx x (hy2 x h), by unfold SZ; omega, by simp, [.lst (xs.map D.int), .lst (ys.map D.int)], by simp⟩
    · clear h0 h1 hx hl m xs g4
      intro i G S hi hP
      obtain ⟨m, xs, g4, hG, hS, h0, h1, hx, hl⟩ := hP
      rw [hG, hS]
      clear hG hS
      refine ⟨_, rfl, ?_⟩
      walk_at "mir"
      walk_at "side"
      refine ⟨(m * 16807 + i + 1) % 65537, xs ++ [(m * 16807 + i + 1) % 65537 % 997], _, rfl, by rw [List.map_append]; rfl, by omega, by omega, ?_, by rw [List.length_append, List.length_singleton]; omega⟩
      intro x hx2
      rcases List.mem_append.mp hx2 with h | h
      · exact hx x h
      · rw [List.mem_singleton.mp h]; omega
  · intro i G S hi hP
    obtain ⟨m, xs, g4, g5, g6, g7, hG, hS, h0, h1, hx, hl⟩ := hP
    rw [hG, hS]
    clear hG hS
    have hi2 : i < ns.length := by omega
    refine ⟨_, rfl, ?_⟩
    walk_at "mir"
    rw [atI_pos (by omega) (by rw [List.length_map]; omega), Int.toNat_natCast, List.getElem?_map, List.getElem?_eq_getElem hi2, Option.map_some]
    generalize ns[i] = c
    walk_at "mir"
    have hc := abs_nn c
    generalize (if c < 0 then -c else c) = c1 at hc ⊢
    generalize hm1 : (m * 48271 + c1 % 1000003 + i) % 65537 = m1
    walk_at "side"
    constructor
    · intro hb
      exact in_loop S0 xs c1 (62 * i + 2) hc hx (by omega) (by unfold SZ; omega) fun ys r g7 hy hz => ⟨m1, ys, _, _, _, _, rfl, rfl, by omega, by omega, hy, by omega⟩
    · intro hb
      walk_at "side"
      have e : List.map D.int xs ++ [D.int (c1 % 997), D.int ((m1 * 69621 + 5) % 65521 % 997)] = (xs ++ [c1 % 997, (m1 * 69621 + 5) % 65521 % 997]).map D.int := by simp
      rw [e]
      refine in_loop S0 _ 0 (62 * i + 2) (by omega) ?_ (by rw [List.length_append]; show _ + 2 ≤ _; omega) (by unfold SZ; omega) fun ys r g7 hy hz => ⟨m1, ys, _, _, _, _, rfl, rfl, by omega, by omega, hy, by omega⟩
      intro x hx2
      rcases List.mem_append.mp hx2 with h | h
      · exact hx x h
      · simp only [List.mem_cons, List.not_mem_nil, or_false] at h
        rcases h with rfl | rfl <;> omega

theorem pick_w {S : Mir.ST} {iw n m : Nat} {ds : List D} (d : DrawSt S iw n) (hm : m ≠ iw) (hl : S[m]? = some (.lst ds)) (hp : 0 < ds.length) {Q : D → Mir.ST → Prop} {X : XQ} (k : ∀ (v : D) (S' : Mir.ST), v ∈ ds → DrawSt S' iw n → Fr iw S S' → Q v S') : wpR (m__law_pick [.ref iw, .ref m] S) Q X := by
  unfold m__law_pick
  walk_at "mir"
  unfold b__law_pick
  walk_at "mirs"
  refine next_w d (by omega) fun v S' h0 h1 hd hf => ?_
  have hl2 := hf.get hm hl
  walk_at "mirs"
  rw [atI_pos h0 h1]
  have h2 : v.toNat < ds.length := by omega
  rw [List.getElem?_eq_getElem h2]
  exact k _ _ (List.getElem_mem h2) hd hf

def sgn : List String := ["+", "-", "*", "/", "@", "&", "|", "^", "==", "<", "<<", ">>"]
def sgS (s : Nat) : Str := Str.ofString (sgn.getD s "")
def iN (n : Nat) : D := .int (n : Int)
theorem iN_d {n : Nat} : iN n = .int (n : Int) := rfl
structure In32 (a : Int) : Prop where
  lo : 0 ≤ a
  hi : a < 4294967296
def m32 (a : Int) : Int := a % 4294967296
theorem m32_in (a : Int) : In32 (m32 a) := ⟨Int.emod_nonneg _ (by decide), Int.emod_lt_of_pos _ (by decide)⟩
theorem and_all {a : Int} : Builtin.bitAnd a 4294967295 = m32 a := bitAnd_m32 a
/-- the twelve operators -/
def opr (s : Nat) (a b : Int) : Int :=
  if s = 0 then m32 (a + b) else if s = 1 then m32 (a - b) else if s = 2 then m32 (a * b) else if s = 3 then (if b = 0 then 0 else a / b) else if s = 4 then (if b = 0 then a else a % b)
  else if s = 5 then Builtin.bitAnd a b else if s = 6 then Builtin.bitOr a b else if s = 7 then Builtin.bitXor a b else if s = 8 then (if a = b then 1 else 0) else if s = 9 then (if a < b then 1 else 0)
  else if s = 10 then (if 31 < b then 0 else m32 (a * 2 ^ b.toNat)) else (if 31 < b then 0 else a / 2 ^ b.toNat)

end
local macro_rules | `(tactic| walk_at "mir") => `(tactic| simp -implicitDefEqProofs only [wp_ok, wp_sSeq, seq_nx, seq_rt, seq_ex, kx_seq, kx_mk, kRet_seq, kRet_mk, kRet_fe, kx_fe, fe_ex, seq_bk, seq_ct, wp_sNil, wp_sBreak, wp_sCont, wp_sRetN, wp_sExpr, kExpr_eq, wp_sRet, kRet_eq, wp_sSet, kSet_eq, wp_sSetT, wp_sIf, kIfS_d, kIfS_n, kIfS_t, kIfS_f, wp_sPar, kPar_eq, wp_sPar3, kPar3_eq, r_cix, r_sumT, wp_sAug, kAug_eq, kAug2_eq, wp_sPut, kPut1_eq, kPut2_eq, kPut3_ref, wp_sPutAug, wp_sSlc, kSc1_eq, kSc2_eq, kSc3_eq, kSc4_ref, r_tupR2, r_lstR2, set_app_lt, kPA1_eq, kPA3_eq, wp_sFld, kFld1_eq, wp_sFldAug, kFA0_eq, kFA1_eq, kFA2_eq, wp_sFor, wp_iSeq, kSeq_tup, kSeq_fl, wp_iRg1, kRg1_eq, wp_iRg2, kRg2_eq, wp_iRgC, kRgC_eq,
  wp_eV, kV_some, wp_eC, wp_e2, k2a_eq, k2b_eq, wp_e1, k1_eq, wp_eCall, wp_aNil, wp_aCons, kC1_eq, kC2_eq, wp_eTup, kTup_eq, wp_eLst, kLst_eq, wp_eFn, kFn_eq, wp_tb, kTb_eq, wp_tTru, kTru_bl, wp_tAnd, kAnd_d, kAnd_n, kAnd_t, kAnd_f, wp_tOr, kOr_d, kOr_n, kOr_t, kOr_f, wp_tNot, kNot_eq, wp_eIf, kIf_d, kIf_n, kIf_t, kIf_f, wp_eAnd, kAndV_d, kAndV_n, kAndV_t, kAndV_f, wp_eOr, kOrV_d, kOrV_n, kOrV_t, kOrV_f, wp_eNot, kNotV_bl, wp_eChain, kCh1_eq, kCh2_eq, kCh3_eq, wp_eSl, kSl1_eq, kSl2_eq, kSl3_eq, wp_oNone, wp_oSome, kO_eq, wp_eBm, kBm_eq, kBm2_eq, wp_eBm0, kBm0_eq, wp_eMeth, kMt2_eq, wp_eMake, kMk_eq, kMkI_eq, wp_eDict, wp_pairs_nil, wp_pairs_cons, kP1_eq, kP2_eq, kP3_eq, wp_eLc, wp_allocO, fe_nx, fe_rt,
  r_add, r_addS, r_addT, r_iadd, r_sub, r_mul, r_fdiv, r_mod, r_pow, r_shl, r_shr, r_and, r_or, r_xor, r_neg, r_lt, r_le, r_gt, r_ge, r_eqI, r_eqS, r_eqB, r_neI, r_neS, r_neB, r_isB, r_isNB, r_is0, r_isI, r_isT, r_isNot0, r_isNotI, r_isNotT, r_int, r_intB, r_abs, r_max2, r_min2, r_lenT, r_lenF, r_lenR, kLen_lst, kLen_dk, kOpt_some, r_ixT, r_ixF, r_ixR, kIx_lst, kIx_dkS, kIx_dkI, look_cons, inr_inj, inl_inj, ofS_inj, String.reduceEq, reduceIte, kPutO_dkS, kPutO_dkI, r_append, sl_ref, kPA2_ref, kPAo_dkS, kPAo_dkI, kPA4_ref, kPDo_dkS, kPDo_dkI,
  List.getElem?_cons_zero, List.getElem?_cons_succ, List.set_cons_zero, List.set_cons_succ, List.length_cons, List.length_nil, List.map_cons, List.map_nil, List.cons_append, List.nil_append, List.replicate_succ, List.replicate_zero, decide_eq_true_eq, decide_eq_false_iff_not, decide_true, decide_false, Bool.not_true, Bool.not_false, Nat.reduceAdd, tyD_ref, beq_self_eq_true, Int.zero_add, Int.mul_one, Int.toNat_natCast, Nat.zero_add, wp_mkFn, eq_self, c_lf, wp_sRaise, kRaise_eq, wp_sTry, wp_sTryN, wp_sSetM, kSetM_tup, kSetM_ref, kM_eq, wp_aAll_nil, wp_aAll_cons, kA_eq, wp_aNm, wp_aSub, kAs1_eq, kAs2_ref, wp_aFld, kAf_ref, r_kx, r_kin, wp_iZipT, kZip_eq, r_dict, wp_eNinR, kNinR_eq, iN_d, r_maxAT, r_minAT, r_maxAR, r_minAR, r_fld, kFldO_ins, lk_nil, lk_cons, kFld2_ref, kFA3_ref, kFlO_ins, kMt_ref, kMtO_ins, kMtM_some, putA_nil, putA_cons, mem_one, mem_two, mem_three, or_true, true_or, kLsO_lst, r_pop0, r_popAt0, r_insert, r_extend, r_tupR, r_tupT, r_tupF, r_listR, r_listT, r_listF, r_addR, kSeq_refO, set_get, set_get', set_same, List.take_zero, List.drop_zero, r_mulR, List.flatten_replicate_singleton, wipe_nil, wipe_cons, wp_tYes, kSetT_ref, kSetT_tup, kSetT_nm, setG_nil, setG_cons, atI_0, atI_1, atI_2, atI_3, atI_4, atI_5, atI_6, atI_7, List.length_set, List.set_set, List.getElem?_append_left, List.head?_cons, List.tail_cons, sz_le, sz_lt, Nat.reduceLeDiff, Nat.reduceLT, Nat.reduceSub, lim64_of, lim62_of, cMod_of, cDiv_of, cNn_of, cPow_of, Int.reduceLT, Int.reduceLE, Int.reduceNeg, Int.reduceToNat, Int.reduceAdd, r_inT, r_ninT, flat_int, flat_str, flat_bl, eqF_int, eqF_str, dec_or, List.all_cons, List.all_nil, List.any_cons, List.any_nil, Bool.and_self, Bool.and_true, Bool.or_false, Bool.false_or, Bool.true_or, Bool.or_true, r_isi, kIsi_some, tyN_non, tyN_bl, tyN_int, tyN_str, tyN_tup, tyN_fl, tyN_ref, tyO_lst, tyO_dk, subN_int, subN_bool, subN_str, subN_tuple, subN_list, subN_dict, Option.bind_some, String.reduceBEq, r_isS, r_isBl, r_isR, r_isF, r_isNotS, r_isNotBl, r_isNotR, r_isNotF, reduceCtorEq, kDict_dk, kDk_some, keysD_nil, keysD_s, keysD_i, Option.map_some, dmerge_def, List.foldl_cons, List.foldl_nil, dput_nil, dput_n, dput_h, List.forall_mem_cons, List.not_mem_nil, true_imp_iff, false_imp_iff, implies_true, ne_eq, not_false_eq_true, not_true_eq_false, get_app, get_app0, set_app, set_app0, get_appE, get_appE0, set_appE, set_appE0, List.length_map, List.length_append, List.append_assoc, Nat.add_assoc, Nat.reduceEqDiff, true_and, and_true])
local macro_rules | `(tactic| walk_at "mirs") => `(tactic| simp -implicitDefEqProofs only [wp_ok, wp_sSeq, seq_nx, seq_rt, seq_ex, kx_seq, kx_mk, kRet_seq, kRet_mk, kRet_fe, kx_fe, fe_ex, seq_bk, seq_ct, wp_sNil, wp_sBreak, wp_sCont, wp_sRetN, wp_sExpr, kExpr_eq, wp_sRet, kRet_eq, wp_sSet, kSet_eq, wp_sSetT, wp_sIf, kIfS_d, kIfS_n, kIfS_t, kIfS_f, wp_sPar, kPar_eq, wp_sPar3, kPar3_eq, r_cix, r_sumT, wp_sAug, kAug_eq, kAug2_eq, wp_sPut, kPut1_eq, kPut2_eq, kPut3_ref, wp_sPutAug, wp_sSlc, kSc1_eq, kSc2_eq, kSc3_eq, kSc4_ref, r_tupR2, r_lstR2, set_app_lt, kPA1_eq, kPA3_eq, wp_sFld, kFld1_eq, wp_sFldAug, kFA0_eq, kFA1_eq, kFA2_eq, wp_sFor, wp_iSeq, kSeq_tup, kSeq_fl, wp_iRg1, kRg1_eq, wp_iRg2, kRg2_eq, wp_iRgC, kRgC_eq,
  wp_eV, kV_some, wp_eC, wp_e2, k2a_eq, k2b_eq, wp_e1, k1_eq, wp_eCall, wp_aNil, wp_aCons, kC1_eq, kC2_eq, wp_eTup, kTup_eq, wp_eLst, kLst_eq, wp_eFn, kFn_eq, wp_tb, kTb_eq, wp_tTru, kTru_bl, wp_tAnd, kAnd_d, kAnd_n, kAnd_t, kAnd_f, wp_tOr, kOr_d, kOr_n, kOr_t, kOr_f, wp_tNot, kNot_eq, wp_eIf, kIf_d, kIf_n, kIf_t, kIf_f, wp_eAnd, kAndV_d, kAndV_n, kAndV_t, kAndV_f, wp_eOr, kOrV_d, kOrV_n, kOrV_t, kOrV_f, wp_eNot, kNotV_bl, wp_eChain, kCh1_eq, kCh2_eq, kCh3_eq, wp_eSl, kSl1_eq, kSl2_eq, kSl3_eq, wp_oNone, wp_oSome, kO_eq, wp_eBm, kBm_eq, kBm2_eq, wp_eBm0, kBm0_eq, wp_eMeth, kMt2_eq, wp_eMake, kMk_eq, kMkI_eq, wp_eDict, wp_pairs_nil, wp_pairs_cons, kP1_eq, kP2_eq, kP3_eq, wp_eLc, wp_allocO, fe_nx, fe_rt,
  r_add, r_addS, r_addT, r_iadd, r_sub, r_mul, r_fdiv, r_mod, r_pow, r_shl, r_shr, r_and, r_or, r_xor, r_neg, r_lt, r_le, r_gt, r_ge, r_eqI, r_eqS, r_eqB, r_neI, r_neS, r_neB, r_isB, r_isNB, r_is0, r_isI, r_isT, r_isNot0, r_isNotI, r_isNotT, r_int, r_intB, r_abs, r_max2, r_min2, r_lenT, r_lenF, r_lenR, kLen_lst, kLen_dk, kOpt_some, r_ixT, r_ixF, r_ixR, kIx_lst, kIx_dkS, kIx_dkI, look_cons, inr_inj, inl_inj, ofS_inj, String.reduceEq, reduceIte, kPutO_dkS, kPutO_dkI, r_append, sl_ref, kPA2_ref, kPAo_dkS, kPAo_dkI, kPA4_ref, kPDo_dkS, kPDo_dkI,
  List.getElem?_cons_zero, List.getElem?_cons_succ, List.set_cons_zero, List.set_cons_succ, List.length_cons, List.length_nil, List.map_cons, List.map_nil, List.cons_append, List.nil_append, List.replicate_succ, List.replicate_zero, decide_eq_true_eq, decide_eq_false_iff_not, decide_true, decide_false, Bool.not_true, Bool.not_false, Nat.reduceAdd, tyD_ref, beq_self_eq_true, Int.zero_add, Int.mul_one, Int.toNat_natCast, Nat.zero_add, wp_mkFn, eq_self, c_lf, wp_sRaise, kRaise_eq, wp_sTry, wp_sTryN, wp_sSetM, kSetM_tup, kSetM_ref, kM_eq, wp_aAll_nil, wp_aAll_cons, kA_eq, wp_aNm, wp_aSub, kAs1_eq, kAs2_ref, wp_aFld, kAf_ref, r_kx, r_kin, wp_iZipT, kZip_eq, r_dict, wp_eNinR, kNinR_eq, iN_d, r_maxAT, r_minAT, r_maxAR, r_minAR, r_fld, kFldO_ins, lk_nil, lk_cons, kFld2_ref, kFA3_ref, kFlO_ins, kMt_ref, kMtO_ins, kMtM_some, putA_nil, putA_cons, mem_one, mem_two, mem_three, or_true, true_or, kLsO_lst, r_pop0, r_popAt0, r_insert, r_extend, r_tupR, r_tupT, r_tupF, r_listR, r_listT, r_listF, r_addR, kSeq_refO, set_get, set_get', set_same, List.take_zero, List.drop_zero, r_mulR, List.flatten_replicate_singleton, wipe_nil, wipe_cons, wp_tYes, kSetT_ref, kSetT_tup, kSetT_nm, setG_nil, setG_cons, atI_0, atI_1, atI_2, atI_3, atI_4, atI_5, atI_6, atI_7, List.length_set, List.set_set, List.getElem?_append_left, List.head?_cons, List.tail_cons, sz_le, sz_lt, Nat.reduceLeDiff, Nat.reduceLT, Nat.reduceSub, lim64_of, lim62_of, cMod_of, cDiv_of, cNn_of, cPow_of, Int.reduceLT, Int.reduceLE, Int.reduceNeg, Int.reduceToNat, Int.reduceAdd, r_inT, r_ninT, flat_int, flat_str, flat_bl, eqF_int, eqF_str, dec_or, List.all_cons, List.all_nil, List.any_cons, List.any_nil, Bool.and_self, Bool.and_true, Bool.or_false, Bool.false_or, Bool.true_or, Bool.or_true, r_isi, kIsi_some, tyN_non, tyN_bl, tyN_int, tyN_str, tyN_tup, tyN_fl, tyN_ref, tyO_lst, tyO_dk, subN_int, subN_bool, subN_str, subN_tuple, subN_list, subN_dict, Option.bind_some, String.reduceBEq, r_isS, r_isBl, r_isR, r_isF, r_isNotS, r_isNotBl, r_isNotR, r_isNotF, reduceCtorEq, kDict_dk, kDk_some, keysD_nil, keysD_s, keysD_i, Option.map_some, dmerge_def, List.foldl_cons, List.foldl_nil, dput_nil, dput_n, dput_h, List.forall_mem_cons, List.not_mem_nil, true_imp_iff, false_imp_iff, implies_true, ne_eq, not_false_eq_true, not_true_eq_false, get_app, get_app0, set_app, set_app0, get_appE, get_appE0, set_appE, set_appE0, List.length_map, List.length_append, List.append_assoc, Nat.add_assoc, Nat.reduceEqDiff, true_and, and_true, *])
local macro_rules | `(tactic| walk_at "sd") => `(tactic| first | with_reducible rfl | decide | (have hSZ : SZ = 16777216 := rfl; first | exact cMod_of (by omega) | exact lim64_l (by omega) (by omega) | exact lim64_r (by omega) (by omega) | exact cNn_of (by omega) | exact cDiv_of (by omega) (by omega) | exact cPow_of (by omega) (by omega) (by omega) (by omega) | exact lim62_of (by omega) (by omega) | exact lim64_of (by omega) (by omega) | omega | ((try simp only [List.length_map, List.length_append, List.length_cons, List.length_nil] at *); (have hSZ : SZ = 16777216 := rfl); omega)))
local macro_rules | `(tactic| walk_at "side") => `(tactic| repeat (with_reducible refine And.intro (by walk_at "sd") ?_))

section
theorem DrawSt.put {S : Mir.ST} {iw n i : Nat} {o : O} (d : DrawSt S iw n) (h1 : i ≠ iw) (h2 : i ≠ n) : DrawSt (S.set i o) iw n := by
  obtain ⟨ne, a, xs, g1, g2, g3⟩ := d
  exact ⟨ne, a, xs, (set_get' h1).trans g1, (set_get' h2).trans g2, g3⟩
theorem DrawSt.lw {S : Mir.ST} {iw n : Nat} (d : DrawSt S iw n) : iw < S.length := by
  obtain ⟨_, _, _, g, _⟩ := d
  exact lt_of_get g
theorem DrawSt.ln {S : Mir.ST} {iw n : Nat} (d : DrawSt S iw n) : n < S.length := by
  obtain ⟨_, _, _, _, g, _⟩ := d
  exact lt_of_get g
theorem DrawSt.newl {S : Mir.ST} {iw n i : Nat} {o : O} (d : DrawSt S iw n) (h : S.length ≤ i) : DrawSt (S.set i o) iw n := d.put (by have := d.lw; omega) (by have := d.ln; omega)
/-- a comprehension whose items are drawn -/
theorem lc_draw {S : Mir.ST} {G : GE} {X : XQ} {t : Tg} {fe : ME} {own : List Nat} {r : Src} {Q : D → Mir.ST → Prop} {iw n : Nat} (P : D → Prop) (d : DrawSt S iw n) (hg : r.gd = none) (hl : r.ds.length < SZ)
    (hs : ∀ x S', x ∈ r.ds → DrawSt S' iw n → Fr iw S S' → ∃ G1, bindT t x (wipeG G own) S' = some G1 ∧ wpE fe G1 S' (fun v S2 => P v ∧ DrawSt S2 iw n ∧ Fr iw S' S2) fun _ _ _ => False)
    (hd : ∀ vs S', vs.length = r.ds.length → (∀ v ∈ vs, P v) → DrawSt S' iw n → Fr iw S S' → S'[S.length]? = some (.lst vs) → Q (.ref S.length) S') : kLc t tYesM fe own G Q X r S := by
  have ok : ∀ S, r.ok S := fun S => by unfold Src.ok; rw [hg]; trivial
  have f0 : Fr iw S (S ++ [O.lst []]) := .app _ _ _
  refine lc_inv (fun ds acc S' => DrawSt S' iw n ∧ Fr iw S S' ∧ S'[S.length]? = some (.lst acc) ∧ (∀ v ∈ acc, P v) ∧ acc.length + ds.length = r.ds.length ∧ ∀ x ∈ ds, x ∈ r.ds) ⟨d.app _, f0, get_app0, fun v h => absurd h List.not_mem_nil, by simp, fun _ h => h⟩ (fun _ _ S _ => ok S) ?_ ?_
  · intro acc S' h
    obtain ⟨h1, h2, h3, h4, h5, _⟩ := h
    exact hd acc S' (by simpa using h5) h4 h1 h2 h3
  · intro x ds acc S' h
    obtain ⟨h1, h2, h3, h4, h5, h6⟩ := h
    rw [List.length_cons] at h5
    obtain ⟨G1, g1, g2⟩ := hs x S' (h6 x (List.mem_cons_self ..)) h1 h2
    refine ⟨G1, g1, ?_⟩
    rw [wp_tYes]
    refine ⟨fun c => Bool.noConfusion c, fun _ => wpR_mono g2 fun v S2 q => ?_⟩
    obtain ⟨q1, q2, q3⟩ := q
    have nw : S.length ≠ iw := by have := d.lw; omega
    have h3' := q3.get nw h3
    refine ⟨h3', by omega, ?_, ?_, ?_, ?_, ?_, fun y hy => h6 y (List.mem_cons_of_mem _ hy)⟩
    · exact q2.put nw (by have := d.ln; omega)
    · have f2 := h2.trans q3
      exact ⟨by rw [List.length_set]; exact f2.le, fun i h1 h2 => by rw [set_get' (by omega)]; exact f2.eq i h1 h2⟩
    · rw [set_same (lt_of_get h3')]
    · intro y hy
      rcases List.mem_append.mp hy with c | c
      · exact h4 y c
      · rw [List.mem_singleton.mp c]; exact q1
    · rw [List.length_append, List.length_singleton]; omega
theorem neIw {S : Mir.ST} {iw n i : Nat} {ds : List D} (d : DrawSt S iw n) (h : S[i]? = some (.lst ds)) : i ≠ iw := by
  obtain ⟨_, _, _, g, _⟩ := d
  exact ne_of_get h g (by intro c; cases c)

/-! ### what is drawn -/
section
variable {S : Mir.ST} {iw n : Nat} {Q : D → Mir.ST → Prop} {X : XQ}
theorem ppick_w {m : Nat} {ds : List D} (d : DrawSt S iw n) (hl : S[m]? = some (.lst ds)) (hp : 0 < ds.length) (k : ∀ (v : D) (S' : Mir.ST), v ∈ ds → DrawSt S' iw n → Fr iw S S' → Q v S') : wpR (m__law_pick [.ref iw, .ref m] S) Q X := pick_w d (neIw d hl) hl hp k
/-- of a list that is just made -/
theorem npick_w {ds : List D} (d : DrawSt S iw n) (hp : 0 < ds.length) (k : ∀ (v : D) (S' : Mir.ST), v ∈ ds → DrawSt S' iw n → Fr iw S S' → Q v S') : wpR (m__law_pick [.ref iw, .ref S.length] (S ++ [.lst ds])) Q X :=
  ppick_w (d.app _) get_app0 hp fun v S' h1 h2 h3 => k v S' h1 h2 ((Fr.app _ _ _).trans h3)
theorem memI {v : D} {l : List Nat} (h : v ∈ l.map iN) : ∃ r : Nat, r ∈ l ∧ v = .int r := by
  obtain ⟨r, hr, rfl⟩ := List.mem_map.mp h
  exact ⟨r, hr, rfl⟩
/-- of a tuple -/
theorem pickT_w {ds : List D} (d : DrawSt S iw n) (hp : 0 < ds.length) (k : ∀ (v : D) (S' : Mir.ST), v ∈ ds → DrawSt S' iw n → Fr iw S S' → Q v S') : wpR (m__law_pick [.ref iw, .tup ds] S) Q X := by
  unfold m__law_pick
  walk_at "mir"
  unfold b__law_pick
  walk_at "mirs"
  refine next_w d (by omega) fun v S' h0 h1 hd hf => ?_
  walk_at "mirs"
  rw [atI_pos h0 h1]
  have h2 : v.toNat < ds.length := by omega
  rw [List.getElem?_eq_getElem h2]
  exact k _ _ (List.getElem_mem h2) hd hf
/-- a draw as a natural number -/
theorem nextN_w (d : DrawSt S iw n) {many : Nat} {m : Int} (e : m = many) (hm : 0 < many) (k : ∀ (v : Nat) (S' : Mir.ST), v < many → DrawSt S' iw n → Fr iw S S' → Q (.int v) S') : wpR (m__law_next [.ref iw, .int m] S) Q X := by
  subst e
  refine next_w d (by omega) fun v S' h0 h1 d' f' => ?_
  have := k v.toNat S' (by omega) d' f'
  rw [Int.toNat_of_nonneg h0] at this
  exact this
end

section
variable {S : Mir.ST} {iw n : Nat} {Q : D → Mir.ST → Prop} {X : XQ}
theorem off_w (d : DrawSt S iw n) {odds : Nat} (ho : 0 < odds) (k : ∀ (b : Bool) S', DrawSt S' iw n → Fr iw S S' → Q (.bl b) S') : wpR (m__law_off [.ref iw, .int odds] S) Q X := by
  have hd := d
  obtain ⟨ne, ⟨a, b⟩, xs, h1, h2, h3, h4, h5⟩ := d
  dsimp only at h1
  unfold m__law_off
  walk_at "mir"
  unfold b__law_off
  walk_at "mirs"
  cases b with
  | false =>
    walk_at "mir"
    exact k false S hd (.refl _ _)
  | true =>
    walk_at "mir"
    refine nextN_w hd rfl ho fun v S1 hv d1 f1 => ?_
    walk_at "mir"
    exact k _ S1 d1 f1
end

end
section
/-! ### plans, and what is wrong with them -/
structure Pln where
  mem : Int
  sets : Nat
  ways : Int
  keep : Str
  look : Int
  lkeep : Str
  hit : Int
  miss : Int
  lk : Int
  fault : Int
  gs : List (Str × Nat)
  ch : List (Str × Str × Int)
  sl : List (Str × Int)
def gD (g : Str × Nat) : D := .tup [.str g.1, iN g.2]
def chD (c : Str × Str × Int) : D := .tup [.str c.1, .str c.2.1, .int c.2.2]
def slD (s : Str × Int) : D := .tup [.str s.1, .int s.2]
def Pln.cacheD (p : Pln) : D := .tup [iN p.sets, .int p.ways, .str p.keep]
def Pln.tickD (p : Pln) : D := .tup [.int p.hit, .int p.miss, .int p.lk, .int p.fault]
def Pln.d (p : Pln) : D := .tup [.str "plan", .int p.mem, p.cacheD, .tup [.int p.look, .str p.lkeep], p.tickD, .tup (p.gs.map gD), .tup (p.ch.map chD), .tup (p.sl.map slD)]
structure Pln.ok (p : Pln) : Prop where
  g1 : 1 ≤ p.gs.length
  g5 : p.gs.length ≤ 5
  c4 : p.ch.length ≤ 10
  s6 : p.sl.length ≤ 10
def Pln.names (p : Pln) : List Str := p.gs.map Prod.fst
def dblOf (p : Pln) : Option Nat := (List.range p.gs.length).find? fun k => decide (p.names.getD k "" ∈ p.names.take k)
def Pln.bad (p : Pln) (z : Str) : Bool := !decide (z ∈ p.names)
def unkOf (p : Pln) : Option Str := match p.ch.find? fun c => p.bad c.1 || p.bad c.2.1 with
  | some c => some (if p.bad c.1 = true then c.1 else c.2.1)
  | none => (p.sl.find? fun s => p.bad s.1).map Prod.fst
def nameErr (p : Pln) : Option (Str × Str) := match dblOf p with
  | some k => some ("double", p.names.getD k "")
  | none => match unkOf p with
    | some z => some ("unknown", z)
    | none => match p.ch.find? fun c => decide (c.1 = c.2.1) with
      | some c => some ("self", c.1)
      | none => none
def roomErr (p : Pln) : Option (Str × Str) := match p.gs.find? fun g => !decide (2 ≤ g.2 ∧ g.2 ≤ 64) with
  | some g => some ("room", g.1)
  | none => match p.ch.find? fun c => !decide (1 ≤ c.2.2 ∧ c.2.2 ≤ 64) with
    | some c => some ("room", c.1)
    | none => none
/-- a loop that is left at the first item of a kind -/
theorem for_find {α : Type} {K : Kt} {t : Tg} {body : MS} {G : GE} {S : Mir.ST} {r : Src} (xs : List α) (g : α → D) (c : α → Bool) (I : GE → Mir.ST → Prop) (hr : r.ds = xs.map g) (hok : ∀ G S, I G S → r.ok S) (h0 : I G S)
    (hn : xs.find? c = none → ∀ G' S', I G' S' → K.nx G' S')
    (hb : ∀ a G' S', a ∈ xs → I G' S' → ∃ G1, bindT t (g a) G' S' = some G1 ∧ (c a = false → Mir.wpS body G1 S' { nx := I, ct := I, bk := K.nx, rt := K.rt, ex := K.ex }) ∧ (c a = true → xs.find? c = some a → Mir.wpS body G1 S' { nx := fun _ _ => False, ct := fun _ _ => False, bk := K.nx, rt := K.rt, ex := K.ex })) : kFor t body K G r S := by
  refine for_inv (fun ds G S' => ∃ done ys, ds = ys.map g ∧ xs = done ++ ys ∧ done.find? c = none ∧ I G S') ⟨[], xs, hr, rfl, rfl, h0⟩ (fun ds G S' h => ?_) (fun G S' h => ?_) fun d ds G S' h => ?_
  · obtain ⟨_, _, _, _, _, hI⟩ := h
    exact hok _ _ hI
  · obtain ⟨done, ys, e1, e2, e3, hI⟩ := h
    have : ys = [] := by cases ys with | nil => rfl | cons a b => simp at e1
    subst this
    rw [List.append_nil] at e2
    exact hn (by rw [e2]; exact e3) _ _ hI
  · obtain ⟨done, ys, e1, e2, e3, hI⟩ := h
    cases ys with
    | nil => simp at e1
    | cons a ys =>
      simp only [List.map_cons, List.cons.injEq] at e1
      obtain ⟨rfl, rfl⟩ := e1
      obtain ⟨G1, b1, b2, b3⟩ := hb a G S' (by rw [e2]; simp) hI
      refine ⟨G1, b1, ?_⟩
      have go : ∀ G2 S2, c a = false → I G2 S2 → ∃ done' ys', ys.map g = ys'.map g ∧ xs = done' ++ ys' ∧ done'.find? c = none ∧ I G2 S2 := fun G2 S2 hc hI2 => ⟨done ++ [a], ys, rfl, by rw [e2]; simp, by rw [List.find?_append, e3]; simp [hc], hI2⟩
      cases hc : c a with
      | false =>
        have q := b2 hc
        exact Mir.wpS_mono q (fun G2 S2 h2 => go G2 S2 hc h2) (fun _ _ h => h) (fun _ _ h => h) (fun G2 S2 h2 => go G2 S2 hc h2) (fun _ _ _ _ h => h)
      | true =>
        have q := b3 hc (by rw [e2, List.find?_append, e3]; simp [hc])
        exact Mir.wpS_mono q (fun _ _ h => h.elim) (fun _ _ h => h) (fun _ _ h => h) (fun _ _ h => h.elim) (fun _ _ _ _ h => h)
theorem any_str (l : List Str) (x : Str) : (l.map D.str).any (fun y => eqF y (.str x)) = decide (x ∈ l) := by
  induction l with
  | nil => rfl
  | cons y l ih =>
    rw [List.map_cons, List.any_cons, ih]
    have : eqF (.str y) (.str x) = decide (y = x) := rfl
    rw [this]
    by_cases c : y = x
    · subst c; simp
    · have c2 : x ≠ y := fun e => c e.symm
      simp [c, c2]
theorem flat_str (l : List Str) : (l.map D.str).all D.flat = true := by
  rw [List.all_map, List.all_eq_true]
  exact fun _ _ => rfl
section
variable {Q : D → Mir.ST → Prop} {X : XQ} {S : Mir.ST} {p : Pln}
theorem in_at {x : Str} {l : List Str} {m : Nat} (h : S[m]? = some (.lst (l.map D.str))) (q : Q (.bl (decide (x ∈ l))) S) : wpR (mIn (.str x) (.ref m) S) Q X := by
  refine r_inR ?_
  rw [h]
  refine ⟨by rw [flat_str]; rfl, ?_⟩
  rw [any_str]
  exact q
theorem notin_at {x : Str} {l : List Str} {m : Nat} (h : S[m]? = some (.lst (l.map D.str))) (q : Q (.bl (!decide (x ∈ l))) S) : wpR (mNotIn (.str x) (.ref m) S) Q X := by
  refine r_inG ?_
  rw [h]
  refine ⟨by rw [flat_str]; rfl, ?_⟩
  rw [any_str]
  exact q
theorem names_w (hp : p.ok) (k : Q (.ref S.length) (S ++ [.lst (p.names.map D.str)])) : wpR (m_names_of [p.d] S) Q X := by
  have g5 := hp.g5
  unfold m_names_of Pln.d
  walk_at "mir"
  unfold b_names_of
  walk_at "mir"
  refine lc_map p.gs gD (fun _ => true) (fun g => .str g.1) rfl (fun _ => True.intro) (by unfold SZ; omega) (fun g hg acc => ⟨_, rfl, ?_⟩) ?_
  · walk_at "mir"
  · rw [List.filter_eq_self.mpr (fun _ _ => rfl)]
    unfold Pln.names at k
    rw [List.map_map] at k
    exact k
theorem check_names_w (hp : p.ok) (k1 : nameErr p = none → ∀ T, Q .non (S ++ T)) (k2 : ∀ kd nm, nameErr p = some (kd, nm) → ∀ T, X "BadPlan" [("name", .str nm), ("kind", .str kd)] (S ++ T)) : wpR (m_check_names [p.d] S) Q X := by
  have hz : SZ = 16777216 := rfl
  have g5 := hp.g5
  have c4 := hp.c4
  have s6 := hp.s6
  have nl : p.names.length = p.gs.length := by unfold Pln.names; rw [List.length_map]
  unfold m_check_names
  walk_at "mir"
  unfold b_check_names
  walk_at "mir"
  refine names_w hp ?_
  walk_at "mir"
  walk_at "side"
  have h0 : (S ++ [O.lst (p.names.map D.str)])[S.length]? = some (.lst (p.names.map D.str)) := get_app0
  have kk1 : nameErr p = none → ∀ S', Ex (S ++ [O.lst (p.names.map D.str)]) S' → Q .non S' := fun h S' e => by
    obtain ⟨T, rfl⟩ := e
    rw [List.append_assoc]
    exact k1 h _
  have kk2 : ∀ kd nm, nameErr p = some (kd, nm) → ∀ S', Ex (S ++ [O.lst (p.names.map D.str)]) S' → X "BadPlan" [("name", .str nm), ("kind", .str kd)] S' := fun kd nm h S' e => by
    obtain ⟨T, rfl⟩ := e
    rw [List.append_assoc]
    exact k2 kd nm h _
  clear k1 k2
  generalize S.length = m at h0 ⊢
  generalize S ++ [O.lst (p.names.map D.str)] = S0 at h0 kk1 kk2 ⊢
  refine for_find (List.range p.names.length) (fun k : Nat => D.int (k : Int)) (fun k => decide (p.names.getD k "" ∈ p.names.take k)) (fun G S' => ∃ (g2 g3 g4 g5 g6 : Option D), G = [some p.d, some (.ref m), g2, g3, g4, g5, g6] ∧ Ex S0 S') rngD_map (fun _ _ _ => True.intro) ⟨_, _, _, _, _, rfl, .refl _⟩ ?_ ?_
  rotate_left
  · intro j G S1 hj hI
    obtain ⟨g2, g3, g4, g5, g6, hG, e1⟩ := hI
    rw [List.mem_range] at hj
    rw [hG]
    clear hG
    have h1 := e1.get h0
    have ea : atI (p.names.map D.str) (j : Int) = some (.str (p.names.getD j "")) := by
      rw [atI_pos (by omega) (by rw [List.length_map]; omega), Int.toNat_natCast, List.getElem?_map, List.getElem?_eq_getElem hj, List.getD_eq_getElem?_getD, List.getElem?_eq_getElem hj]
      rfl
    refine ⟨_, rfl, fun hc => ?_, fun hc hf => ?_⟩
    · walk_at "mirs"
      rw [cut_pos, ← List.map_take]
      refine in_at get_app0 ?_
      rw [hc]
      walk_at "mir"
      exact ⟨_, _, _, _, _, rfl, e1.app _⟩
    · have hd : dblOf p = some j := by unfold dblOf; rw [← nl]; exact hf
      have h2 := ((Ex.refl S1).app [O.lst (List.map D.str (List.take j p.names))]).get h1
      have hq := kk2 "double" (p.names.getD j "") (by unfold nameErr; rw [hd])
      walk_at "mirs"
      rw [cut_pos, ← List.map_take]
      refine in_at get_app0 ?_
      rw [hc]
      walk_at "mirs"
      exact hq _ (e1.app _)
  · intro hnone G S1 hI
    obtain ⟨g2, g3, g4, g5, g6, hG, e1⟩ := hI
    have hd : dblOf p = none := by unfold dblOf; rw [← nl]; exact hnone
    rw [hG]
    clear hG
    have h1 := e1.get h0
    unfold Pln.d
    walk_at "mirs"
    refine for_find p.ch chD (fun c => p.bad c.1 || p.bad c.2.1) (fun G S' => ∃ (g2 g3 g4 g5 g6 : Option D), G = [some p.d, some (.ref m), g2, g3, g4, g5, g6] ∧ S' = S1) rfl (fun _ _ _ => True.intro) ⟨_, _, _, _, _, rfl, rfl⟩ ?_ ?_
    rotate_left
    · intro c G S2 hc hI
      obtain ⟨g2, g3, g4, g5, g6, hG, hS⟩ := hI
      rw [hG, hS]
      clear hG hS
      refine ⟨_, rfl, fun hb => ?_, fun hb hf => ?_⟩
      · walk_at "mir"
        refine for_find [c.1, c.2.1] D.str p.bad (fun G S' => ∃ (g6 : Option D), G = [some p.d, some (.ref m), g2, some (.str c.1), some (.str c.2.1), some (.int c.2.2), g6] ∧ S' = S1) rfl (fun _ _ _ => True.intro) ⟨_, rfl, rfl⟩ ?_ ?_
        · intro _ G S3 hI
          obtain ⟨g6, hG, hS⟩ := hI
          rw [hG, hS]
          exact ⟨_, _, _, _, _, rfl, rfl⟩
        · intro z G S3 hz hI
          obtain ⟨g6, hG, hS⟩ := hI
          rw [hG, hS]
          refine ⟨_, rfl, fun hb2 => ?_, fun hb2 _ => ?_⟩
          · walk_at "mir"
            refine notin_at h1 ?_
            rw [show (!decide (z ∈ p.names)) = p.bad z from rfl, hb2]
            walk_at "mir"
            exact ⟨_, rfl⟩
          · exfalso
            rw [Bool.or_eq_false_iff] at hb
            simp only [List.mem_cons, List.not_mem_nil, or_false] at hz
            rcases hz with rfl | rfl
            · rw [hb.1] at hb2; cases hb2
            · rw [hb.2] at hb2; cases hb2
      · walk_at "mir"
        have hu : unkOf p = some (if p.bad c.1 = true then c.1 else c.2.1) := by unfold unkOf; rw [hf]
        have hq := kk2 "unknown" _ (by unfold nameErr; rw [hd, hu]) S1 e1
        have h2 : [c.1, c.2.1].find? p.bad = some (if p.bad c.1 = true then c.1 else c.2.1) := by
          cases b1 : p.bad c.1 with
          | true => simp [b1]
          | false =>
            rw [b1, Bool.false_or] at hb
            simp [b1, hb]
        refine for_find [c.1, c.2.1] D.str p.bad (fun G S' => ∃ (g6 : Option D), G = [some p.d, some (.ref m), g2, some (.str c.1), some (.str c.2.1), some (.int c.2.2), g6] ∧ S' = S1) rfl (fun _ _ _ => True.intro) ⟨_, rfl, rfl⟩ ?_ ?_
        · intro hn
          rw [h2] at hn
          cases hn
        · intro z G S3 hz hI
          obtain ⟨g6, hG, hS⟩ := hI
          rw [hG, hS]
          refine ⟨_, rfl, fun hb2 => ?_, fun hb2 hf2 => ?_⟩
          · walk_at "mir"
            refine notin_at h1 ?_
            rw [show (!decide (z ∈ p.names)) = p.bad z from rfl, hb2]
            walk_at "mir"
            exact ⟨_, rfl⟩
          · walk_at "mir"
            refine notin_at h1 ?_
            rw [show (!decide (z ∈ p.names)) = p.bad z from rfl, hb2]
            walk_at "mir"
            rw [h2] at hf2
            rw [Option.some.inj hf2] at hq
            exact hq
    · intro hch G S2 hI
      obtain ⟨g2, g3, g4, g5, g6, hG, hS⟩ := hI
      rw [hG, hS]
      clear hG hS
      unfold Pln.d
      walk_at "mirs"
      refine for_find p.sl slD (fun s => p.bad s.1) (fun G S' => ∃ (g2 g3 g4 g5 g6 : Option D), G = [some p.d, some (.ref m), g2, g3, g4, g5, g6] ∧ S' = S1) rfl (fun _ _ _ => True.intro) ⟨_, _, _, _, _, rfl, rfl⟩ ?_ ?_
      rotate_left
      · intro c G S2 hc hI
        obtain ⟨g2, g3, g4, g5, g6, hG, hS⟩ := hI
        rw [hG, hS]
        clear hG hS
        refine ⟨_, rfl, fun hb => ?_, fun hb hf => ?_⟩
        · walk_at "mir"
          refine notin_at h1 ?_
          rw [show (!decide (c.1 ∈ p.names)) = p.bad c.1 from rfl, hb]
          walk_at "mir"
          exact ⟨_, _, _, _, _, rfl⟩
        · walk_at "mir"
          refine notin_at h1 ?_
          rw [show (!decide (c.1 ∈ p.names)) = p.bad c.1 from rfl, hb]
          walk_at "mir"
          have hu : unkOf p = some c.1 := by unfold unkOf; rw [hch, hf]; rfl
          exact kk2 "unknown" _ (by unfold nameErr; rw [hd, hu]) S1 e1
      · intro hsl G S2 hI
        obtain ⟨g2, g3, g4, g5, g6, hG, hS⟩ := hI
        rw [hG, hS]
        clear hG hS
        have hu : unkOf p = none := by unfold unkOf; rw [hch, hsl]; rfl
        unfold Pln.d
        walk_at "mirs"
        refine for_find p.ch chD (fun c => decide (c.1 = c.2.1)) (fun G S' => ∃ (g2 g3 g4 g5 g6 : Option D), G = [some p.d, some (.ref m), g2, g3, g4, g5, g6] ∧ S' = S1) rfl (fun _ _ _ => True.intro) ⟨_, _, _, _, _, rfl, rfl⟩ ?_ ?_
        · intro hc2 G S2 hI
          obtain ⟨g2, g3, g4, g5, g6, hG, hS⟩ := hI
          rw [hG, hS]
          walk_at "mir"
          exact kk1 (by unfold nameErr; rw [hd, hu, hc2]) S1 e1
        · intro c G S2 hc hI
          obtain ⟨g2, g3, g4, g5, g6, hG, hS⟩ := hI
          rw [hG, hS]
          clear hG hS
          refine ⟨_, rfl, fun hb => ?_, fun hb hf => ?_⟩
          · walk_at "mir"
            exact ⟨fun e => absurd e (of_decide_eq_false hb), fun _ => ⟨_, _, _, _, _, rfl⟩⟩
          · walk_at "mir"
            refine ⟨fun _ => ?_, fun e => absurd (of_decide_eq_true hb) e⟩
            exact kk2 "self" _ (by unfold nameErr; rw [hd, hu, hf]) S1 e1
theorem check_rooms_w (hp : p.ok) (k1 : roomErr p = none → Q .non S) (k2 : ∀ kd nm, roomErr p = some (kd, nm) → X "BadPlan" [("name", .str nm), ("kind", .str kd)] S) : wpR (m_check_rooms [p.d] S) Q X := by
  unfold m_check_rooms Pln.d
  walk_at "mir"
  unfold b_check_rooms
  walk_at "mir"
  refine for_find p.gs gD (fun g => !decide (2 ≤ g.2 ∧ g.2 ≤ 64)) (fun G S' => ∃ (g1 g2 g3 g4 g5 : Option D), G = [some p.d, g1, g2, g3, g4, g5] ∧ S' = S) rfl (fun _ _ _ => True.intro) ⟨_, _, _, _, _, rfl, rfl⟩ ?_ ?_
  rotate_left
  · intro g G S2 hc hI
    obtain ⟨g1, g2, g3, g4, g5, hG, hS⟩ := hI
    rw [hG, hS]
    clear hG hS
    refine ⟨_, rfl, fun hb => ?_, fun hb hf => ?_⟩
    · have hb' : 2 ≤ g.2 ∧ g.2 ≤ 64 := by simpa using hb
      walk_at "mir"
      refine ⟨fun _ => ⟨fun _ => ⟨_, _, _, _, _, rfl⟩, fun c => absurd (by omega) c⟩, fun c => absurd (by omega) c⟩
    · have hq := k2 "room" g.1 (by unfold roomErr; rw [hf])
      have hb' : ¬ (2 ≤ g.2 ∧ g.2 ≤ 64) := fun z => by rw [decide_eq_true z] at hb; cases hb
      walk_at "mir"
      refine ⟨fun _ => ⟨fun _ => absurd ⟨by omega, by omega⟩ hb', fun _ => hq⟩, fun _ => hq⟩
  · intro hgs G S2 hI
    obtain ⟨g1, g2, g3, g4, g5, hG, hS⟩ := hI
    rw [hG, hS]
    clear hG hS
    unfold Pln.d
    walk_at "mir"
    refine for_find p.ch chD (fun c => !decide (1 ≤ c.2.2 ∧ c.2.2 ≤ 64)) (fun G S' => ∃ (g1 g2 g3 g4 g5 : Option D), G = [some p.d, g1, g2, g3, g4, g5] ∧ S' = S) rfl (fun _ _ _ => True.intro) ⟨_, _, _, _, _, rfl, rfl⟩ ?_ ?_
    · intro hch G S2 hI
      obtain ⟨g1, g2, g3, g4, g5, hG, hS⟩ := hI
      rw [hG, hS]
      walk_at "mir"
      exact k1 (by unfold roomErr; rw [hgs, hch])
    · intro g G S2 hc hI
      obtain ⟨g1, g2, g3, g4, g5, hG, hS⟩ := hI
      rw [hG, hS]
      clear hG hS
      refine ⟨_, rfl, fun hb => ?_, fun hb hf => ?_⟩
      · have hb' : 1 ≤ g.2.2 ∧ g.2.2 ≤ 64 := by simpa using hb
        walk_at "mir"
        refine ⟨fun _ => ⟨fun _ => ⟨_, _, _, _, _, rfl⟩, fun c => absurd (by omega) c⟩, fun c => absurd (by omega) c⟩
      · have hq := k2 "room" g.1 (by unfold roomErr; rw [hgs, hf])
        have hb' : ¬ (1 ≤ g.2.2 ∧ g.2.2 ≤ 64) := fun z => by rw [decide_eq_true z] at hb; cases hb
        walk_at "mir"
        refine ⟨fun _ => ⟨fun _ => absurd ⟨by omega, by omega⟩ hb', fun _ => hq⟩, fun _ => hq⟩
end

end
section
def cacheOk (p : Pln) : Bool := decide (p.sets % 4 = 0 ∧ 4 ≤ p.sets ∧ p.sets ≤ 64 ∧ 1 ≤ p.ways ∧ p.ways ≤ 4 ∧ 1 ≤ p.look ∧ p.look ≤ 16 ∧ ¬ (p.keep = "coloured" ∧ p.sets / 4 < p.gs.length) ∧
  (1 ≤ p.hit ∧ 1 ≤ p.miss ∧ 1 ≤ p.lk ∧ 1 ≤ p.fault) ∧ (p.hit ≤ 1000 ∧ p.miss ≤ 1000 ∧ p.lk ≤ 1000 ∧ p.fault ≤ 1000) ∧ p.hit ≤ p.miss)
def worstOf (p : Pln) : Int := max p.fault (1 + 2 * (p.lk + max p.hit p.miss)) + p.fault
section
variable {Q : D → Mir.ST → Prop} {X : XQ} {S : Mir.ST} {p : Pln}
theorem min4 {a b c d : Int} : wpR (bMinA [.tup [.int a, .int b, .int c, .int d]] S) Q X = Q (.int (minI a [b, c, d])) S := r_minAT (x := a) (ns := [b, c, d])
theorem max4 {a b c d : Int} : wpR (bMaxA [.tup [.int a, .int b, .int c, .int d]] S) Q X = Q (.int (maxI a [b, c, d])) S := r_maxAT (x := a) (ns := [b, c, d])
theorem min4_lt {a b c d : Int} : 0 < minI a [b, c, d] ↔ 1 ≤ a ∧ 1 ≤ b ∧ 1 ≤ c ∧ 1 ≤ d := by
  simp only [minI]
  split <;> split <;> split <;> omega
theorem max4_le {a b c d : Int} : maxI a [b, c, d] ≤ 1000 ↔ a ≤ 1000 ∧ b ≤ 1000 ∧ c ≤ 1000 ∧ d ≤ 1000 := by
  simp only [maxI]
  split <;> split <;> split <;> omega
theorem worst_w (k : Q (.int (worstOf p)) S) : wpR (m_worst [p.d] S) Q X := by
  unfold m_worst Pln.d Pln.tickD
  walk_at "mir"
  unfold b_worst
  walk_at "mir"
  exact k
theorem lworst_w (k : Q (.int (worstOf p)) S) : wpR (m__law_worst [p.tickD] S) Q X := by
  unfold m__law_worst Pln.tickD
  walk_at "mir"
  unfold b__law_worst
  walk_at "mir"
  exact k
theorem colours_w (k : Q (.int ((p.sets / 4 : Nat) : Int)) S) : wpR (m_colours_of [p.d] S) Q X := by
  unfold m_colours_of Pln.d Pln.cacheD
  walk_at "mir"
  unfold b_colours_of
  walk_at "mir"
  walk_at "side"
  exact k
theorem cache_w (k : Q (.bl (cacheOk p)) S) : wpR (m_is_cache_right [p.d] S) Q X := by
  have no : ¬ (cacheOk p = true) → Q (.bl false) S := fun h => by
    rw [Bool.not_eq_true] at h
    rw [h] at k
    exact k
  unfold m_is_cache_right
  have hd : p.d = .tup [.str "plan", .int p.mem, p.cacheD, .tup [.int p.look, .str p.lkeep], p.tickD, .tup (p.gs.map gD), .tup (p.ch.map chD), .tup (p.sl.map slD)] := rfl
  have hc : p.cacheD = .tup [iN p.sets, .int p.ways, .str p.keep] := rfl
  have ht : p.tickD = .tup [.int p.hit, .int p.miss, .int p.lk, .int p.fault] := rfl
  walk_at "mir"
  unfold b_is_cache_right
  rw [hd, hc, ht]
  clear hd hc ht
  -- the last test
  have tail : (p.sets % 4 = 0 ∧ 4 ≤ p.sets ∧ p.sets ≤ 64 ∧ 1 ≤ p.ways ∧ p.ways ≤ 4 ∧ 1 ≤ p.look ∧ p.look ≤ 16 ∧ ¬ (p.keep = "coloured" ∧ p.sets / 4 < p.gs.length)) →
      ((0 < minI p.hit [p.miss, p.lk, p.fault] → (maxI p.hit [p.miss, p.lk, p.fault] ≤ 1000 → Q (.bl (decide (p.hit ≤ p.miss))) S) ∧ (¬ maxI p.hit [p.miss, p.lk, p.fault] ≤ 1000 → Q (.bl false) S)) ∧ (¬ 0 < minI p.hit [p.miss, p.lk, p.fault] → Q (.bl false) S)) := by
    intro h
    refine ⟨fun h1 => ⟨fun h2 => ?_, fun h2 => no fun c => h2 ?_⟩, fun h1 => no fun c => h1 ?_⟩
    · have e : cacheOk p = decide (p.hit ≤ p.miss) := by
        unfold cacheOk
        rw [decide_eq_decide]
        rw [min4_lt] at h1
        rw [max4_le] at h2
        exact ⟨fun z => z.2.2.2.2.2.2.2.2.2.2, fun z => ⟨h.1, h.2.1, h.2.2.1, h.2.2.2.1, h.2.2.2.2.1, h.2.2.2.2.2.1, h.2.2.2.2.2.2.1, h.2.2.2.2.2.2.2, h1, h2, z⟩⟩
      rw [← e]
      exact k
    · rw [max4_le]
      unfold cacheOk at c
      exact (of_decide_eq_true c).2.2.2.2.2.2.2.2.2.1
    · rw [min4_lt]
      unfold cacheOk at c
      exact (of_decide_eq_true c).2.2.2.2.2.2.2.2.1
  have cc : ∀ c : cacheOk p = true, (p.sets % 4 = 0 ∧ 4 ≤ p.sets ∧ p.sets ≤ 64 ∧ 1 ≤ p.ways ∧ p.ways ≤ 4 ∧ 1 ≤ p.look ∧ p.look ≤ 16 ∧ ¬ (p.keep = "coloured" ∧ p.sets / 4 < p.gs.length)) := fun c => by
    unfold cacheOk at c
    have z := of_decide_eq_true c
    exact ⟨z.1, z.2.1, z.2.2.1, z.2.2.2.1, z.2.2.2.2.1, z.2.2.2.2.2.1, z.2.2.2.2.2.2.1, z.2.2.2.2.2.2.2.1⟩
  have hcol : ∀ K, K (.int ((p.sets / 4 : Nat) : Int)) S → wpR (m_colours_of [.tup [.str "plan", .int p.mem, .tup [.int p.sets, .int p.ways, .str p.keep], .tup [.int p.look, .str p.lkeep], .tup [.int p.hit, .int p.miss, .int p.lk, .int p.fault], .tup (p.gs.map gD), .tup (p.ch.map chD), .tup (p.sl.map slD)]] S) K X := fun K h => colours_w (p := p) h
  clear k
  walk_at "mir"
  refine ⟨fun h1 => no fun c => h1 (by have := (cc c).1; omega), fun h1 => ⟨fun h2 => ⟨fun h3 => no fun c => h3 (by have := (cc c).2.2.1; omega), fun h3 => ⟨fun h4 => ⟨fun h5 => no fun c => h5 (cc c).2.2.2.2.1, fun h5 => ⟨fun h6 => ⟨fun h7 => ⟨fun h8 => ?_, fun h8 => ?_⟩, fun h7 => no fun c => h7 (cc c).2.2.2.2.2.2.1⟩, fun h6 => no fun c => h6 (cc c).2.2.2.2.2.1⟩⟩, fun h4 => no fun c => h4 (cc c).2.2.2.1⟩⟩, fun h2 => no fun c => h2 (by have := (cc c).2.1; omega)⟩⟩
  · refine hcol _ ?_
    walk_at "mir"
    refine ⟨fun h9 => no fun c => (cc c).2.2.2.2.2.2.2 ⟨h8, by omega⟩, fun h9 => ?_⟩
    have t := tail ⟨by omega, by omega, by omega, h4, h5, h6, h7, fun z => h9 (by have := z.2; omega)⟩
    rw [min4]
    walk_at "mir"
    rw [max4]
    walk_at "mir"
    exact t
  · have t := tail ⟨by omega, by omega, by omega, h4, h5, h6, h7, fun z => h8 z.1⟩
    rw [min4]
    walk_at "mir"
    rw [max4]
    walk_at "mir"
    exact t
theorem lcache_w (k : ∀ T, Q (.bl (cacheOk p)) (S ++ T)) : wpR (m__law_is_cache [p.d] S) Q X := by
  have hz : SZ = 16777216 := rfl
  have no : ¬ (cacheOk p = true) → ∀ T, Q (.bl false) (S ++ T) := fun h T => by
    have k := k T
    rw [Bool.not_eq_true] at h
    rw [h] at k
    exact k
  have no0 : ¬ (cacheOk p = true) → Q (.bl false) S := fun h => by
    have := no h []
    rw [List.append_nil] at this
    exact this
  unfold m__law_is_cache
  have hd : p.d = .tup [.str "plan", .int p.mem, p.cacheD, .tup [.int p.look, .str p.lkeep], p.tickD, .tup (p.gs.map gD), .tup (p.ch.map chD), .tup (p.sl.map slD)] := rfl
  have hc : p.cacheD = .tup [iN p.sets, .int p.ways, .str p.keep] := rfl
  have ht : p.tickD = .tup [.int p.hit, .int p.miss, .int p.lk, .int p.fault] := rfl
  walk_at "mir"
  unfold b__law_is_cache
  rw [hd, hc, ht]
  clear hd hc ht
  have cc : ∀ c : cacheOk p = true, (p.sets % 4 = 0 ∧ 4 ≤ p.sets ∧ p.sets ≤ 64 ∧ 1 ≤ p.ways ∧ p.ways ≤ 4 ∧ 1 ≤ p.look ∧ p.look ≤ 16 ∧ ¬ (p.keep = "coloured" ∧ p.sets / 4 < p.gs.length)) := fun c => by
    unfold cacheOk at c
    have z := of_decide_eq_true c
    exact ⟨z.1, z.2.1, z.2.2.1, z.2.2.2.1, z.2.2.2.2.1, z.2.2.2.2.2.1, z.2.2.2.2.2.2.1, z.2.2.2.2.2.2.2.1⟩
  walk_at "mir"
  refine ⟨fun h1 => no0 fun c => h1 (by have := cc c; omega), fun h1 => ⟨fun h2 => no0 fun c => h2 (by have := (cc c).1; omega), fun h2 => ⟨fun h3 => no0 fun c => by have := (cc c).2.2.2.1; omega, fun h3 => ⟨fun h4 => no0 fun c => by have := (cc c).2.2.2.2.1; omega, fun h4 => ⟨fun h5 => no0 fun c => by have := (cc c).2.2.2.2.2.1; omega, fun h5 => ⟨fun h6 => no0 fun c => by have := (cc c).2.2.2.2.2.2.1; omega, fun h6 => ⟨fun h7 => ⟨fun h8 => no0 fun c => (cc c).2.2.2.2.2.2.2 ⟨h7, by omega⟩, fun h8 => ?a⟩, fun h7 => ?b⟩⟩⟩⟩⟩⟩⟩
  case' a => have hn : ¬ (p.keep = "coloured" ∧ p.sets / 4 < p.gs.length) := fun z => h8 (by have := z.2; omega)
  case' b => have hn : ¬ (p.keep = "coloured" ∧ p.sets / 4 < p.gs.length) := fun z => h7 z.1
  all_goals
    refine lc_map [p.hit, p.miss, p.lk, p.fault] D.int (fun t => decide (t < 1 ∨ 1000 < t)) D.int rfl (fun _ => True.intro) (by show 4 < SZ; unfold SZ; decide) (fun t _ acc => ⟨_, rfl, ?_⟩) ?_
    · walk_at "mir"
      exact ⟨fun z => (decide_eq_true (.inl z)).symm, fun z => by rw [decide_eq_decide]; exact ⟨.inr, fun y => y.resolve_left z⟩⟩
    · walk_at "mir"
      have hf : (∀ t ∈ [p.hit, p.miss, p.lk, p.fault], 1 ≤ t ∧ t ≤ 1000) ↔ (List.filter (fun t => decide (t < 1 ∨ 1000 < t)) [p.hit, p.miss, p.lk, p.fault]).map D.int = [] := by
        rw [List.map_eq_nil_iff, List.filter_eq_nil_iff]
        refine ⟨fun h t ht c => ?_, fun h t ht => ?_⟩
        · have := h t ht
          have := of_decide_eq_true c
          omega
        · have := h t ht
          rw [decide_eq_true_eq] at this
          omega
      generalize hL : (List.filter (fun t => decide (t < 1 ∨ 1000 < t)) [p.hit, p.miss, p.lk, p.fault]) = L at hf ⊢
      refine r_eqNil (j := 1) get_app0 (get_app (k := 1)) (nb_int L) (by decide) (fun e => ?_) (fun e => ?_)
      · have h9 := hf.mpr e
        simp only [List.mem_cons, List.not_mem_nil, or_false, forall_eq_or_imp, forall_eq] at h9
        have ec : cacheOk p = decide (p.hit ≤ p.miss) := by
          unfold cacheOk
          rw [decide_eq_decide]
          exact ⟨fun z => z.2.2.2.2.2.2.2.2.2.2, fun z => ⟨by omega, by omega, by omega, by omega, by omega, by omega, by omega, hn, ⟨h9.1.1, h9.2.1.1, h9.2.2.1.1, h9.2.2.2.1⟩, ⟨h9.1.2, h9.2.1.2, h9.2.2.1.2, h9.2.2.2.2⟩, z⟩⟩
        walk_at "mir"
        rw [← ec]
        exact k _
      · walk_at "mir"
        refine no (fun c => e (hf.mp ?_)) _
        unfold cacheOk at c
        have z := of_decide_eq_true c
        have z1 := z.2.2.2.2.2.2.2.2.1
        have z2 := z.2.2.2.2.2.2.2.2.2.1
        simp only [List.mem_cons, List.not_mem_nil, or_false, forall_eq_or_imp, forall_eq]
        exact ⟨⟨z1.1, z2.1⟩, ⟨z1.2.1, z2.2.1⟩, ⟨z1.2.2.1, z2.2.2.1⟩, ⟨z1.2.2.2, z2.2.2.2⟩⟩
end

end
section
/-! ### frames -/
theorem at_map {α : Type} {g : α → D} {xs : List α} {i : Nat} {a : α} (h : xs[i]? = some a) : atI (xs.map g) (i : Int) = some (g a) := by
  have hl := (List.getElem?_eq_some_iff.mp h).1
  rw [atI_pos (by omega) (by rw [List.length_map]; omega), Int.toNat_natCast, List.getElem?_map, h]
  rfl
def framesO : List (Str × Nat) → Nat → List (List Nat)
  | [], _ => []
  | (_, m) :: r, a => (List.range m).map (a + ·) :: framesO r (a + m)
def frC (col n k m : Nat) : List Nat := ((List.range (m * col)).filter fun f => decide (f % col % n = k)).take m
def frsOf (p : Pln) : List (List Nat) := if p.keep = "coloured" then (List.range p.gs.length).map fun k => frC (p.sets / 4) p.gs.length k (p.gs.getD k (Str.ofString "", 0)).2 else framesO p.gs 0
def tupN (ns : List Nat) : D := .tup (ns.map iN)
theorem rngD_up {a m : Nat} : rngD (a : Int) 1 m = ((List.range m).map (a + ·)).map iN := by
  unfold rngD
  rw [List.map_map]
  refine List.map_congr_left fun i _ => ?_
  show D.int _ = D.int _
  congr 1
  push_cast
  omega
structure GlOk (gl : List (Str × Nat)) : Prop where
  l : gl.length ≤ 100
  m : ∀ q ∈ gl, q.2 ≤ 1000
theorem frS_sum {gl : List (Str × Nat)} (h : GlOk gl) {done ys : List (Str × Nat)} (e : gl = done ++ ys) : (done.map Prod.snd).sum ≤ 100000 := by
  have h1 := h.l
  have h2 := h.m
  subst e
  have : ∀ l : List (Str × Nat), (∀ q ∈ l, q.2 ≤ 1000) → (l.map Prod.snd).sum ≤ 1000 * l.length := by
    intro l
    induction l with
    | nil => intro _; simp
    | cons x l ih =>
      intro h
      have := ih fun q hq => h q (List.mem_cons_of_mem _ hq)
      have := h x (List.mem_cons_self ..)
      simp only [List.map_cons, List.sum_cons, List.length_cons]
      omega
  have := this done fun q hq => h2 q (List.mem_append_left _ hq)
  rw [List.length_append] at h1
  omega
section
variable {S : Mir.ST} {p : Pln} {Q : D → Mir.ST → Prop} {X : XQ}
theorem framesO_w (h : GlOk p.gs) (q : ∀ S', Ex S S' → Q (.tup ((framesO p.gs 0).map tupN)) S') : wpR (m_frames_in_order [p.d] S) Q X := by
  unfold m_frames_in_order Pln.d
  walk_at "mir"
  unfold b_frames_in_order
  walk_at "mirs"
  refine for_map p.gs gD rfl (fun ys G S' => ∃ done acc g0 g3 g4, p.gs = done ++ ys ∧ G = [g0, some (.ref S.length), some (.int ((done.map Prod.snd).sum : Nat)), g3, g4] ∧ S' = S ++ [.lst (acc.map tupN)] ∧ acc ++ framesO ys (done.map Prod.snd).sum = framesO p.gs 0 ∧ acc.length = done.length) ⟨[], [], _, _, _, rfl, rfl, rfl, rfl, rfl⟩ (fun _ _ _ _ => True.intro) ?_ ?_
  · rintro G S' ⟨done, acc, g0, g3, g4, hd, rfl, rfl, e, el⟩
    walk_at "mir"
    have e2 : acc = framesO p.gs 0 := by rw [← e]; simp [framesO]
    rw [e2]
    exact q _ ⟨_, rfl⟩
  · rintro a ys G S' ⟨done, acc, g0, g3, g4, hd, rfl, rfl, e, el⟩
    have ha : a.2 ≤ 1000 := h.m a (by rw [hd]; simp)
    have hs := frS_sum h hd
    have hl := h.l
    have hl2 : done.length + (ys.length + 1) = p.gs.length := by rw [hd, List.length_append, List.length_cons]
    unfold gD
    walk_at "mirs"
    refine ⟨_, rfl, ?_⟩
    walk_at "mirs"
    refine ⟨rgB_of (by omega) (by omega) (by omega) (by omega) (by unfold SZ; omega), by unfold SZ; omega, done ++ [a], acc ++ [(List.range a.2).map ((done.map Prod.snd).sum + ·)], g0, some (.str a.1), some (.int a.2), by simp, ?_, ?_, ?_, by simp [el]⟩
    · simp
    · rw [show ((((done.map Prod.snd).sum : Nat) : Int) + (a.2 : Int) - (((done.map Prod.snd).sum : Nat) : Int)).toNat = a.2 by omega, rngD_up, List.map_append]
      rfl
    · rw [← hd, ← e, List.append_assoc]
      simp [framesO]
/-- frames by colours -/
theorem fr_block {col n k : Nat} (h1 : 0 < n) (h2 : n ≤ col) (hk : k < n) (m : Nat) : m ≤ ((List.range (m * col)).filter fun f => decide (f % col % n = k)).length := by
  induction m with
  | zero => exact Nat.zero_le _
  | succ m ih =>
    rw [show (m + 1) * col = m * col + col by rw [Nat.succ_mul], List.range_add, List.filter_append, List.length_append]
    have : 0 < (((List.range col).map (m * col + ·)).filter fun f => decide (f % col % n = k)).length := by
      refine List.length_pos_of_mem (a := m * col + k) ?_
      rw [List.mem_filter]
      refine ⟨List.mem_map.mpr ⟨k, List.mem_range.mpr (by omega), rfl⟩, ?_⟩
      rw [decide_eq_true_eq, Nat.mul_add_mod_self_right, Nat.mod_eq_of_lt (by omega : k < col), Nat.mod_eq_of_lt hk]
    omega
theorem fr_prefix {col n k m f : Nat} (hl : ((List.range f).filter fun f => decide (f % col % n = k)).length = m) (hf : f ≤ m * col) : (List.range f).filter (fun f => decide (f % col % n = k)) = frC col n k m := by
  unfold frC
  obtain ⟨d, hd⟩ : ∃ d, m * col = f + d := ⟨m * col - f, by omega⟩
  rw [hd, List.range_add, List.filter_append, List.take_left' hl]
theorem frC_len {col n k : Nat} (h1 : 0 < n) (h2 : n ≤ col) (hk : k < n) (m : Nat) : (frC col n k m).length = m := by
  unfold frC
  rw [List.length_take]
  have := fr_block h1 h2 hk m
  omega
theorem framesC_w (h : GlOk p.gs) (h0 : 0 < p.gs.length) (hc : p.gs.length ≤ p.sets / 4) (hm : p.sets ≤ 100) (q : ∀ S', Ex S S' → Q (.tup (((List.range p.gs.length).map fun k => frC (p.sets / 4) p.gs.length k (p.gs.getD k (Str.ofString "", 0)).2).map tupN)) S') : wpR (m_frames_by_colours [p.d] S) Q X := by
  have hl := h.l
  unfold m_frames_by_colours Pln.d
  walk_at "mir"
  unfold b_frames_by_colours
  walk_at "mirs"
  refine colours_w (p := p) ?_
  walk_at "mir"
  walk_at "side"
  have F : ∀ k, k < p.gs.length → (p.gs.getD k (Str.ofString "", 0)).2 ≤ 1000 := fun k hk => h.m _ (by rw [List.getD_eq_getElem?_getD, List.getElem?_eq_getElem hk]; exact List.getElem_mem hk)
  refine for_rng (fun i G S' => ∃ g4 g5 g6 T, G = [some (p.d), some (.int (p.gs.length : Nat)), some (.int (p.sets / 4 : Nat)), some (.ref S.length), g4, g5, g6] ∧ S' = S ++ .lst (((List.range i).map fun k => frC (p.sets / 4) p.gs.length k (p.gs.getD k (Str.ofString "", 0)).2).map tupN) :: T) ⟨none, none, none, [], rfl, rfl⟩ ?_ ?_
  · rintro G S' ⟨g4, g5, g6, T, rfl, rfl⟩
    walk_at "mir"
    exact q _ ⟨_, rfl⟩
  · rintro k G S' hk ⟨g4, g5, g6, T, rfl, rfl⟩
    have ek : atI (p.gs.map gD) (k : Int) = some (.tup [.str (p.gs.getD k (Str.ofString "", 0)).1, iN (p.gs.getD k (Str.ofString "", 0)).2]) := at_map (by rw [List.getD_eq_getElem?_getD, List.getElem?_eq_getElem hk]; rfl)
    have Fk := F k hk
    have fl := frC_len (col := p.sets / 4) (k := k) h0 hc hk (p.gs.getD k (Str.ofString "", 0)).2
    have fb := fr_block (col := p.sets / 4) (k := k) h0 hc hk (p.gs.getD k (Str.ofString "", 0)).2
    have hm0 : (((List.range k).map fun k => frC (p.sets / 4) p.gs.length k (p.gs.getD k (Str.ofString "", 0)).2).map tupN).length = k := by simp
    generalize hgk : p.gs.getD k (Str.ofString "", 0) = gk at ek Fk fl fb
    unfold Pln.d
    refine ⟨_, rfl, ?_⟩
    walk_at "mirs"
    rw [show ∀ A : O, S ++ A :: (T ++ [O.lst []]) = (S ++ A :: T) ++ [O.lst []] from fun A => by simp]
    generalize hA : (((List.range k).map fun k => frC (p.sets / 4) p.gs.length k (p.gs.getD k (Str.ofString "", 0)).2).map tupN) = A at hm0 ⊢
    have h1 : (S ++ O.lst A :: T)[S.length]? = some (.lst A) := get_app0
    have l1 := lt_of_get h1
    have e1 : ∀ B, (S ++ O.lst A :: T).set S.length (.lst B) = S ++ .lst B :: T := fun B => by simp
    have ln : (S ++ O.lst A :: T).length = S.length + (T.length + 1) := by simp
    rw [← ln]
    generalize hS1 : S ++ O.lst A :: T = S1 at h1 l1 e1 ⊢
    refine while_inv (n := gk.2 * (p.sets / 4)) (fun n G S' => ∃ f : Nat, G = [some (p.d), some (.int (p.gs.length : Nat)), some (.int (p.sets / 4 : Nat)), some (.ref S.length), some (.int (k : Nat)), some (.ref S1.length), some (.int f)] ∧ S' = S1 ++ [.lst (((List.range f).filter fun f => decide (f % (p.sets / 4) % p.gs.length = k)).map iN)] ∧ f + n = gk.2 * (p.sets / 4) ∧ ((List.range f).filter fun f => decide (f % (p.sets / 4) % p.gs.length = k)).length ≤ gk.2) ⟨0, rfl, rfl, by omega, by simp⟩ ?_
    rintro n G S' ⟨f, rfl, rfl, hf, hle⟩
    have pre := fun hl => fr_prefix (col := p.sets / 4) (n := p.gs.length) (k := k) (m := gk.2) (f := f) hl (by omega)
    have hs : (List.range (f + 1)).filter (fun f => decide (f % (p.sets / 4) % p.gs.length = k)) = (List.range f).filter (fun f => decide (f % (p.sets / 4) % p.gs.length = k)) ++ (if f % (p.sets / 4) % p.gs.length = k then [f] else []) := by
      rw [List.range_succ, List.filter_append]
      congr 1
      by_cases z : f % (p.sets / 4) % p.gs.length = k
      · rw [if_pos z, List.filter_cons, if_pos (by rw [decide_eq_true z])]; rfl
      · rw [if_neg z, List.filter_cons, if_neg (by rw [decide_eq_false z]; decide)]; rfl
    have hlt : ((List.range f).filter fun f => decide (f % (p.sets / 4) % p.gs.length = k)).length < gk.2 → 0 < n := fun z => by
      have : f ≠ gk.2 * (p.sets / 4) := fun y => by rw [← y] at fb; omega
      omega
    generalize (List.range f).filter (fun f => decide (f % (p.sets / 4) % p.gs.length = k)) = own at hle pre hs hlt ⊢
    unfold Pln.d
    walk_at "mirs"
    refine ⟨fun z => ?_, fun z => ?_⟩
    · have hn := hlt (by omega)
      have ec : ((f : Int) % ((p.sets / 4 : Nat) : Int) % ((p.gs.length : Nat) : Int) = (k : Int)) ↔ f % (p.sets / 4) % p.gs.length = k := by
        rw [← Int.natCast_emod, ← Int.natCast_emod]; omega
      refine ⟨cMod_of (by omega), cMod_of (by omega), fun y => ?_, fun y => ?_⟩
      · rw [if_pos (ec.mp y)] at hs
        refine ⟨by unfold SZ; omega, n - 1, by omega, f + 1, rfl, ?_, by omega, ?_⟩
        · rw [hs, List.map_append]; rfl
        · rw [hs, List.length_append, List.length_singleton]; omega
      · rw [if_neg fun z => y (ec.mpr z), List.append_nil] at hs
        refine ⟨n - 1, by omega, f + 1, rfl, ?_, by omega, ?_⟩
        · rw [hs]
        · rw [hs]; omega
    · have eo := pre (by omega)
      refine ⟨by unfold SZ; omega, some (.int k), some (.ref S1.length), some (.int f), T ++ [O.lst (own.map iN)], rfl, ?_⟩
      rw [List.range_succ, List.map_append, List.map_append, hA, eo, ← hgk]
      rfl
theorem frames_w (h : GlOk p.gs) (h0 : 0 < p.gs.length) (hc : p.keep = "coloured" → p.gs.length ≤ p.sets / 4) (hm : p.sets ≤ 100) (q : ∀ S', Ex S S' → Q (.tup ((frsOf p).map tupN)) S') : wpR (m_frames_of [p.d] S) Q X := by
  by_cases z : p.keep = "coloured"
  · have T := framesC_w (S := S) (X := X) (Q := Q) h h0 (hc z) hm (fun S' e => by have := q S' e; unfold frsOf at this; rw [if_pos z] at this; exact this)
    unfold m_frames_of
    unfold Pln.d Pln.cacheD at T ⊢
    rw [z] at T
    walk_at "mir"
    unfold b_frames_of
    walk_at "mirs"
    exact T
  · have T := framesO_w (S := S) (X := X) (Q := Q) h (fun S' e => by have := q S' e; unfold frsOf at this; rw [if_neg z] at this; exact this)
    unfold m_frames_of
    unfold Pln.d Pln.cacheD at T ⊢
    walk_at "mir"
    unfold b_frames_of
    walk_at "mirs"
    exact T
end

end
section
/-! ### the whole check -/
def lastN (l : List Nat) : Nat := l.getLastD 0
def memErr (p : Pln) : Option (Str × Str) := ((List.range (frsOf p).length).find? fun k => decide (p.mem ≤ (lastN ((frsOf p).getD k []) : Int))).map fun k => ("memory", p.names.getD k "")
def slotErr (p : Pln) : Option (Str × Str) := (p.sl.find? fun s => !decide (worstOf p ≤ s.2 ∧ s.2 ≤ 1000000)).map fun s => ("slot", s.1)
def chk (p : Pln) : Option (Str × Str) := match nameErr p with
  | some e => some e
  | none => match roomErr p with
    | some e => some e
    | none => if cacheOk p = true then (match memErr p with | some e => some e | none => slotErr p) else some ("cache", "plan")
theorem atI_last {ds : List D} {d : D} : atI (ds ++ [d]) (-1) = some d := by
  unfold atI ixN
  rw [if_neg (by decide)]
  simp only [List.length_append, List.length_singleton, Int.natCast_add, Int.cast_ofNat_Int]
  rw [if_pos (by omega)]
  show (ds ++ [d])[(-1 + ((ds.length : Int) + 1)).toNat]? = some d
  rw [show (-1 + ((ds.length : Int) + 1)).toNat = ds.length by omega]
  simp
theorem frs_len (p : Pln) : (frsOf p).length = p.gs.length := by
  unfold frsOf
  split
  · simp
  · have : ∀ (l : List (Str × Nat)) a, (framesO l a).length = l.length := fun l => by
      induction l with
      | nil => intro a; rfl
      | cons x l ih => intro a; show ((_ :: framesO l _).length) = _; rw [List.length_cons, ih, List.length_cons]
    exact this _ _
/-- what the checks ahead of the frames tell -/
structure Fine (p : Pln) : Prop where
  many : ∀ g ∈ p.gs, 2 ≤ g.2 ∧ g.2 ≤ 64
  col : p.keep = "coloured" → p.gs.length ≤ p.sets / 4
  sets : p.sets ≤ 64
theorem fine_of {p : Pln} (h1 : roomErr p = none) (h2 : cacheOk p = true) : Fine p := by
  unfold cacheOk at h2
  have z := of_decide_eq_true h2
  refine ⟨fun g hg => ?_, fun h => ?_, z.2.2.1⟩
  · unfold roomErr at h1
    cases e : p.gs.find? fun g => !decide (2 ≤ g.2 ∧ g.2 ≤ 64) with
    | some g => rw [e] at h1; cases h1
    | none =>
      have := List.find?_eq_none.mp e g hg
      simpa using this
  · have := z.2.2.2.2.2.2.2.1
    exact Nat.le_of_not_lt fun c => this ⟨h, c⟩
theorem fine_ne {p : Pln} (h : Fine p) : ∀ l ∈ frsOf p, l ≠ [] := by
  unfold frsOf
  split
  · rename_i hc
    intro l hl
    obtain ⟨k, hk, rfl⟩ := List.mem_map.mp hl
    rw [List.mem_range] at hk
    have hg : p.gs.getD k (Str.ofString "", 0) ∈ p.gs := by rw [List.getD_eq_getElem?_getD, List.getElem?_eq_getElem hk]; exact List.getElem_mem hk
    have := frC_len (col := p.sets / 4) (n := p.gs.length) (k := k) (by omega) (h.col hc) hk (p.gs.getD k (Str.ofString "", 0)).2
    have h2 := (h.many _ hg).1
    intro e
    rw [e, List.length_nil] at this
    omega
  · have : ∀ (l : List (Str × Nat)) a, (∀ g ∈ l, 2 ≤ g.2 ∧ g.2 ≤ 64) → ∀ x ∈ framesO l a, x ≠ [] := fun l => by
      induction l with
      | nil => intro a _ x hx; cases hx
      | cons y l ih =>
        intro a hl x hx
        obtain ⟨n, m⟩ := y
        rcases List.mem_cons.mp (show x ∈ (List.range m).map (a + ·) :: framesO l (a + m) from hx) with rfl | hx
        · have := (hl (n, m) List.mem_cons_self).1
          intro e
          have := congrArg List.length e
          simp at this
          omega
        · exact ih _ (fun g hg => hl g (List.mem_cons_of_mem _ hg)) x hx
    exact this _ _ h.many
section
variable {Q : D → Mir.ST → Prop} {X : XQ} {S : Mir.ST} {p : Pln}
theorem check_w (hp : p.ok) (k1 : chk p = none → ∀ S', Ex S S' → Q .non S') (k2 : ∀ kd nm, chk p = some (kd, nm) → ∀ S', Ex S S' → X "BadPlan" [("name", .str nm), ("kind", .str kd)] S') : wpR (m_check_plan [p.d] S) Q X := by
  have hz : SZ = 16777216 := rfl
  have g1 := hp.g1
  have g5 := hp.g5
  unfold m_check_plan
  walk_at "mir"
  unfold b_check_plan
  walk_at "mir"
  refine check_names_w hp (fun hn T => ?_) fun kd nm hn T => k2 kd nm (by unfold chk; rw [hn]) _ ⟨T, rfl⟩
  have e0 : Ex S (S ++ T) := ⟨T, rfl⟩
  generalize S ++ T = S1 at e0 ⊢
  walk_at "mir"
  refine check_rooms_w hp (fun hr => ?_) fun kd nm hr => k2 kd nm (by unfold chk; rw [hn, hr]) _ e0
  walk_at "mir"
  refine cache_w ?_
  cases hc : cacheOk p with
  | false =>
    have q := k2 "cache" "plan" (by unfold chk; rw [hn, hr, hc]; rfl) _ e0
    unfold Pln.d
    walk_at "mir"
    exact q
  | true =>
    have fi := fine_of hr hc
    walk_at "mir"
    refine frames_w ⟨by omega, fun q hq => by have := (fi.many q hq).2; omega⟩ (by omega) fi.col (by have := fi.sets; omega) fun S2 e2 => ?_
    have e3 := e0.trans e2
    clear e0 e2
    have fl := frs_len p
    have fn := fine_ne fi
    walk_at "mir"
    walk_at "side"
    have kn : (memErr p = none → slotErr p = none → Q .non S2) := fun h1 h2 => k1 (by unfold chk; rw [hn, hr, hc, h1, h2]; rfl) _ e3
    have km : ∀ kd nm, memErr p = some (kd, nm) → X "BadPlan" [("name", .str nm), ("kind", .str kd)] S2 := fun kd nm h1 => k2 kd nm (by unfold chk; rw [hn, hr, hc, h1]; rfl) _ e3
    have ks : ∀ kd nm, memErr p = none → slotErr p = some (kd, nm) → X "BadPlan" [("name", .str nm), ("kind", .str kd)] S2 := fun kd nm h1 h2 => k2 kd nm (by unfold chk; rw [hn, hr, hc, h1, h2]; rfl) _ e3
    clear k1 k2 hn hr hc e3
    refine for_find (List.range (frsOf p).length) (fun k : Nat => D.int (k : Int)) (fun k => decide (p.mem ≤ (lastN ((frsOf p).getD k []) : Int))) (fun G S' => ∃ (g2 g3 g4 : Option D), G = [some p.d, some (.tup ((frsOf p).map tupN)), g2, g3, g4] ∧ S' = S2) rngD_map (fun _ _ _ => True.intro) ⟨_, _, _, rfl, rfl⟩ ?_ ?_
    rotate_left
    · intro j G S' hj hI
      obtain ⟨g2, g3, g4, hG, hS⟩ := hI
      rw [List.mem_range] at hj
      rw [hG, hS]
      clear hG hS
      have hj2 : j < p.gs.length := by omega
      have ef : atI ((frsOf p).map tupN) (j : Int) = some (tupN ((frsOf p).getD j [])) := at_map (by rw [List.getD_eq_getElem?_getD, List.getElem?_eq_getElem hj]; rfl)
      have hne : (frsOf p).getD j [] ≠ [] := fn _ (by rw [List.getD_eq_getElem?_getD, List.getElem?_eq_getElem hj]; exact List.getElem_mem hj)
      obtain ⟨ini, z, hl⟩ : ∃ ini z, (frsOf p).getD j [] = ini ++ [z] := ⟨_, _, (List.dropLast_concat_getLast hne).symm⟩
      have eg : atI (p.gs.map gD) (j : Int) = some (gD (p.gs[j])) := at_map (List.getElem?_eq_getElem hj2)
      have en : p.names.getD j "" = (p.gs[j]).1 := by
        unfold Pln.names
        rw [List.getD_eq_getElem?_getD, List.getElem?_map, List.getElem?_eq_getElem hj2]
        rfl
      have el : lastN ((frsOf p).getD j []) = z := by rw [hl]; unfold lastN; simp
      have ef : atI ((frsOf p).map tupN) (j : Int) = some (.tup (ini.map iN ++ [z].map iN)) := ef.trans (by rw [hl]; show some (D.tup ((ini ++ [z]).map iN)) = _; rw [List.map_append])
      have ez : atI (ini.map iN ++ [D.int (z : Int)]) (-1) = some (.int (z : Int)) := atI_last
      refine ⟨_, rfl, fun hb => ?_, fun hb hf => ?_⟩
      · rw [el] at hb
        have hb' := of_decide_eq_false hb
        unfold Pln.d
        walk_at "mir"
        rw [ef]
        walk_at "mir"
        rw [ez]
        walk_at "mir"
        exact ⟨fun c => absurd c hb', fun _ => ⟨_, _, _, rfl⟩⟩
      · have hq := km "memory" (p.names.getD j "") (by unfold memErr; rw [hf]; rfl)
        rw [el] at hb
        have hb' := of_decide_eq_true hb
        rw [en] at hq
        unfold Pln.d
        walk_at "mir"
        rw [ef]
        walk_at "mir"
        rw [ez]
        walk_at "mir"
        refine ⟨fun _ => ?_, fun c => absurd hb' c⟩
        rw [eg]
        unfold gD
        walk_at "mir"
        exact hq
    · intro hm G S' hI
      obtain ⟨g2, g3, g4, hG, hS⟩ := hI
      rw [hG, hS]
      clear hG hS
      have hme : memErr p = none := by unfold memErr; rw [hm]; rfl
      unfold Pln.d
      walk_at "mir"
      refine for_find p.sl slD (fun s => !decide (worstOf p ≤ s.2 ∧ s.2 ≤ 1000000)) (fun G S' => ∃ (g2 g3 g4 : Option D), G = [some p.d, some (.tup ((frsOf p).map tupN)), g2, g3, g4] ∧ S' = S2) rfl (fun _ _ _ => True.intro) ⟨_, _, _, rfl, rfl⟩ ?_ ?_
      · intro hs G S' hI
        obtain ⟨g2, g3, g4, hG, hS⟩ := hI
        rw [hG, hS]
        walk_at "mir"
        exact kn hme (by unfold slotErr; rw [hs]; rfl)
      · intro s G S' hs hI
        obtain ⟨g2, g3, g4, hG, hS⟩ := hI
        rw [hG, hS]
        clear hG hS
        refine ⟨_, rfl, fun hb => ?_, fun hb hf => ?_⟩
        · have hb' : worstOf p ≤ s.2 ∧ s.2 ≤ 1000000 := by simpa using hb
          walk_at "mir"
          refine worst_w ?_
          walk_at "mir"
          exact ⟨fun _ => ⟨fun _ => ⟨_, _, _, rfl⟩, fun c => absurd hb'.2 c⟩, fun c => absurd hb'.1 c⟩
        · have hq := ks "slot" s.1 hme (by unfold slotErr; rw [hf]; rfl)
          have hb' : ¬ (worstOf p ≤ s.2 ∧ s.2 ≤ 1000000) := fun z => by rw [decide_eq_true z] at hb; cases hb
          walk_at "mir"
          refine worst_w ?_
          walk_at "mir"
          exact ⟨fun c1 => ⟨fun c2 => hb' ⟨c1, c2⟩, fun _ => hq⟩, fun _ => hq⟩
end

end
section
def errD : Option (Str × Str) → D
  | none => .non
  | some e => .tup [.str e.1, .str e.2]
section
variable {Q : D → Mir.ST → Prop} {X : XQ} {S : Mir.ST} {p : Pln}
theorem told_w (hp : p.ok) (k : ∀ S', Ex S S' → Q (errD (chk p)) S') : wpR (m__law_told [p.d] S) Q X := by
  unfold m__law_told
  walk_at "mir"
  unfold b__law_told
  walk_at "mir"
  refine check_w hp (fun hc S' e => ?_) (fun kd nm hc S' e => ?_)
  · have q := k S' e
    rw [hc] at q
    exact q
  · have q := k S' e
    rw [hc] at q
    rw [kTryX_in (List.mem_singleton.mpr rfl)]
    refine ⟨by simp, ?_⟩
    have e1 : (!decide (Str.ofString "BadPlan" = Str.ofString "BadPlan")) = false := by rw [decide_eq_true rfl]; rfl
    have e2 : List.lookup (Str.ofString "kind") [(Str.ofString "name", D.str nm), (Str.ofString "kind", D.str kd)] = some (.str kd) := rfl
    have e3 : List.lookup (Str.ofString "name") [(Str.ofString "name", D.str nm), (Str.ofString "kind", D.str kd)] = some (.str nm) := rfl
    unfold xIf
    rw [if_neg (by show ¬ (!decide (Str.ofString "BadPlan" = Str.ofString "BadPlan")) = true; rw [e1]; exact Bool.false_ne_true)]
    unfold xRetT
    dsimp only
    rw [e2, e3]
    exact q
/-! ### what is due, as the law reckons it -/
def metOf (p : Pln) : List Str := (p.ch.map fun c => [c.1, c.2.1]).flatten ++ p.sl.map Prod.fst
theorem met_len (ch : List (Str × Str × Int)) : ((ch.map fun c => [c.1, c.2.1]).flatten).length = 2 * ch.length := by
  induction ch with
  | nil => rfl
  | cons c ch ih => rw [List.map_cons, List.flatten_cons, List.length_append, ih, List.length_cons]; simp; omega
theorem met_find (p : Pln) : (metOf p).find? p.bad = unkOf p := by
  unfold metOf unkOf
  rw [List.find?_append, List.find?_map]
  generalize p.bad = b
  have key : ∀ ch : List (Str × Str × Int), ((ch.map fun c => [c.1, c.2.1]).flatten).find? b = (ch.find? fun c => b c.1 || b c.2.1).map fun c => if b c.1 = true then c.1 else c.2.1 := by
    intro ch
    induction ch with
    | nil => rfl
    | cons c ch ih =>
      rw [List.map_cons, List.flatten_cons, List.find?_append, ih]
      cases b1 : b c.1 with
      | true => simp [b1]
      | false =>
        cases b2 : b c.2.1 with
        | true => simp [b1, b2]
        | false => simp [b1, b2]
  rw [key]
  cases (p.ch.find? fun c => b c.1 || b c.2.1) with
  | some c => rfl
  | none => rfl
theorem lnames_due_w (hp : p.ok) (k : ∀ S', Ex S S' → Q (errD (nameErr p)) S') : wpR (m__law_names_due [p.d] S) Q X := by
  have hz : SZ = 16777216 := rfl
  have g5 := hp.g5
  have c4 := hp.c4
  have s6 := hp.s6
  have nl : p.names.length = p.gs.length := by unfold Pln.names; rw [List.length_map]
  unfold m__law_names_due
  walk_at "mir"
  unfold b__law_names_due
  unfold Pln.d
  walk_at "mir"
  refine lc_map p.gs gD (fun _ => true) (fun g => .str g.1) rfl (fun _ => True.intro) (by unfold SZ; omega) (fun g hg acc => ⟨_, rfl, ?_⟩) ?_
  · unfold gD
    walk_at "mir"
  · rw [List.filter_eq_self.mpr (fun _ _ => rfl), show p.gs.map (fun g => D.str g.1) = p.names.map D.str by unfold Pln.names; rw [List.map_map]; rfl]
    have h0 : (S ++ [O.lst (p.names.map D.str)])[S.length]? = some (.lst (p.names.map D.str)) := get_app0
    have kk : ∀ S', Ex (S ++ [O.lst (p.names.map D.str)]) S' → Q (errD (nameErr p)) S' := fun S' e => k S' ((Ex.refl S).app _ |>.trans e)
    clear k
    generalize S.length = m at h0 ⊢
    generalize S ++ [O.lst (p.names.map D.str)] = S0 at h0 kk ⊢
    walk_at "mirs"
    walk_at "side"
    refine for_find (List.range p.gs.length) (fun k : Nat => D.int (k : Int)) (fun k => decide (p.names.getD k "" ∈ p.names.take k)) (fun G S' => ∃ (g2 : Option D), G = [some p.d, some (.ref m), g2, none, none, none, none, none, none, none] ∧ Ex S0 S') rngD_map (fun _ _ _ => True.intro) ⟨_, rfl, .refl _⟩ ?_ ?_
    rotate_left
    · intro j G S1 hj hI
      obtain ⟨g2, hG, e1⟩ := hI
      rw [List.mem_range] at hj
      rw [hG]
      clear hG
      have h1 := e1.get h0
      have hj2 : j < p.names.length := by omega
      have ea : atI (p.names.map D.str) (j : Int) = some (.str (p.names.getD j "")) := by
        rw [atI_pos (by omega) (by rw [List.length_map]; omega), Int.toNat_natCast, List.getElem?_map, List.getElem?_eq_getElem hj2, List.getD_eq_getElem?_getD, List.getElem?_eq_getElem hj2]
        rfl
      have h2 := ((Ex.refl S1).app [O.lst (List.map D.str (List.take j p.names))]).get h1
      refine ⟨_, rfl, fun hc => ?_, fun hc hf => ?_⟩
      · walk_at "mirs"
        rw [cut_pos, ← List.map_take]
        refine in_at get_app0 ?_
        rw [hc]
        walk_at "mir"
        exact ⟨_, rfl, e1.app _⟩
      · have hd : dblOf p = some j := hf
        have hq := kk _ (e1.app [O.lst (List.map D.str (List.take j p.names))])
        unfold nameErr at hq
        rw [hd] at hq
        walk_at "mirs"
        rw [cut_pos, ← List.map_take]
        refine in_at get_app0 ?_
        rw [hc]
        walk_at "mirs"
        exact hq
    · intro hnone G S1 hI
      obtain ⟨g2, hG, e1⟩ := hI
      have hd : dblOf p = none := hnone
      rw [hG]
      clear hG
      have h1 := e1.get h0
      unfold Pln.d
      walk_at "mirs"
      refine for_map p.ch chD rfl (fun ys G S' => ∃ (done : List (Str × Str × Int)) (r : Nat) (g4 g5 g6 : Option D), p.ch = done ++ ys ∧ G = [some p.d, some (.ref m), g2, some (.ref r), g4, g5, g6, none, none, none] ∧ S'[r]? = some (.lst (((done.map fun c => [c.1, c.2.1]).flatten).map D.str)) ∧ Ex S1 S') ⟨[], S1.length, _, _, _, rfl, rfl, (show (S1 ++ [O.lst []])[S1.length]? = some (.lst []) from get_app0), (Ex.refl _).app _⟩ (fun _ _ _ _ => True.intro) ?_ ?_
      rotate_left
      · intro c ys G S2 hI
        obtain ⟨done, r, g4, g5, g6, hd2, hG, hr, e2⟩ := hI
        rw [hG]
        clear hG
        refine ⟨_, rfl, ?_⟩
        have hr2 := ((Ex.refl S2).app [O.lst [D.str c.1, D.str c.2.1]]).get hr
        walk_at "mirs"
        refine ⟨?_, done ++ [c], S2.length + 1, _, _, _, by simp, rfl, (get_app (k := 1)).trans (by simp), e2.app _⟩
        rw [met_len]
        have := congrArg List.length hd2
        rw [List.length_append, List.length_cons] at this
        omega
      · intro G S2 hI
        obtain ⟨done, r, g4, g5, g6, hd2, hG, hr, e2⟩ := hI
        rw [List.append_nil] at hd2
        rw [hG]
        clear hG
        rw [← hd2] at hr
        clear hd2 done
        have h2 := e2.get h1
        unfold Pln.d
        walk_at "mirs"
        refine lc_map p.sl slD (fun _ => true) (fun s => .str s.1) rfl (fun _ => True.intro) (by unfold SZ; omega) (fun s hs acc => ⟨_, rfl, ?_⟩) ?_
        · unfold slD
          walk_at "mir"
        rw [List.filter_eq_self.mpr (fun _ _ => rfl), show p.sl.map (fun s => D.str s.1) = (p.sl.map Prod.fst).map D.str by rw [List.map_map]; rfl]
        have hr3 := ((Ex.refl S2).app [O.lst ((p.sl.map Prod.fst).map D.str)]).get hr
        have h3 := ((Ex.refl S2).app [O.lst ((p.sl.map Prod.fst).map D.str)]).get h2
        have hs3 : (S2 ++ [O.lst ((p.sl.map Prod.fst).map D.str)])[S2.length]? = some (.lst ((p.sl.map Prod.fst).map D.str)) := get_app0
        have e3 := e1.trans (e2.app [O.lst ((p.sl.map Prod.fst).map D.str)])
        generalize S2.length = q at hs3 ⊢
        generalize S2 ++ [O.lst ((p.sl.map Prod.fst).map D.str)] = S3 at hr3 h3 hs3 e3 ⊢
        clear hr h2 e2
        walk_at "mirs"
        refine ⟨by rw [met_len]; omega, ?_⟩
        rw [← List.map_append, show (p.ch.map fun c => [c.1, c.2.1]).flatten ++ p.sl.map Prod.fst = metOf p from rfl]
        have h4 := ((Ex.refl S3).app [O.lst ((metOf p).map D.str)]).get h3
        have e4 := e3.app [O.lst ((metOf p).map D.str)]
        have hm4 : (S3 ++ [O.lst ((metOf p).map D.str)])[S3.length]? = some (.lst ((metOf p).map D.str)) := get_app0
        generalize S3 ++ [O.lst ((metOf p).map D.str)] = S4 at h4 e4 hm4 ⊢
        generalize S3.length = q4 at hm4 ⊢
        clear h3 hs3 e3 hr3
        refine for_find (metOf p) D.str p.bad (fun G S' => ∃ (g7 : Option D), G = [some p.d, some (.ref m), g2, some (.ref r), g4, g5, g6, g7, none, none] ∧ S' = S4) rfl (fun G S' hI => by obtain ⟨_, _, rfl⟩ := hI; exact hm4) ⟨_, rfl, rfl⟩ ?_ ?_
        rotate_left
        · intro z G S5 hz hI
          obtain ⟨g7, hG, hS⟩ := hI
          rw [hG, hS]
          clear hG hS
          refine ⟨_, rfl, fun hb => ?_, fun hb hf => ?_⟩
          · walk_at "mir"
            refine notin_at h4 ?_
            rw [show (!decide (z ∈ p.names)) = p.bad z from rfl, hb]
            walk_at "mir"
            exact ⟨_, rfl⟩
          · walk_at "mir"
            refine notin_at h4 ?_
            rw [show (!decide (z ∈ p.names)) = p.bad z from rfl, hb]
            walk_at "mir"
            have hq := kk _ e4
            unfold nameErr at hq
            rw [met_find] at hf
            rw [hd, hf] at hq
            exact hq
        · intro hmet G S5 hI
          obtain ⟨g7, hG, hS⟩ := hI
          rw [hG, hS]
          clear hG hS
          rw [met_find] at hmet
          unfold Pln.d
          walk_at "mirs"
          refine for_find p.ch chD (fun c => decide (c.1 = c.2.1)) (fun G S' => ∃ (g4 g5 g6 : Option D), G = [some p.d, some (.ref m), g2, some (.ref r), g4, g5, g6, g7, none, none] ∧ S' = S4) rfl (fun _ _ _ => True.intro) ⟨_, _, _, rfl, rfl⟩ ?_ ?_
          · intro hc2 G S2 hI
            obtain ⟨g4, g5, g6, hG, hS⟩ := hI
            rw [hG, hS]
            walk_at "mir"
            have hq := kk _ e4
            unfold nameErr at hq
            rw [hd, hmet, hc2] at hq
            exact hq
          · intro c G S2 hc hI
            obtain ⟨g4, g5, g6, hG, hS⟩ := hI
            rw [hG, hS]
            clear hG hS
            refine ⟨_, rfl, fun hb => ?_, fun hb hf => ?_⟩
            · walk_at "mir"
              exact ⟨fun e => absurd e (of_decide_eq_false hb), fun _ => ⟨_, _, _, rfl⟩⟩
            · walk_at "mir"
              refine ⟨fun _ => ?_, fun e => absurd (of_decide_eq_true hb) e⟩
              have hq := kk _ e4
              unfold nameErr at hq
              rw [hd, hmet, hf] at hq
              exact hq
end

end
section
section
variable {Q : D → Mir.ST → Prop} {X : XQ} {S : Mir.ST} {p : Pln}
theorem lrooms_due_w (hp : p.ok) (k : Q (errD (roomErr p)) S) : wpR (m__law_rooms_due [p.d] S) Q X := by
  unfold m__law_rooms_due
  walk_at "mir"
  unfold b__law_rooms_due Pln.d
  walk_at "mir"
  refine for_find p.gs gD (fun g => !decide (2 ≤ g.2 ∧ g.2 ≤ 64)) (fun G S' => ∃ (g1 g2 : Option D), G = [some p.d, g1, g2, none, none, none] ∧ S' = S) rfl (fun _ _ _ => True.intro) ⟨_, _, rfl, rfl⟩ ?_ ?_
  rotate_left
  · intro g G S2 hc hI
    obtain ⟨g1, g2, hG, hS⟩ := hI
    rw [hG, hS]
    clear hG hS
    refine ⟨_, rfl, fun hb => ?_, fun hb hf => ?_⟩
    · have hb' : 2 ≤ g.2 ∧ g.2 ≤ 64 := by simpa using hb
      walk_at "mir"
      refine ⟨fun c => absurd c (by omega), fun _ => ⟨fun c => absurd c (by omega), fun _ => ⟨_, _, rfl⟩⟩⟩
    · have hq := k
      unfold roomErr at hq
      rw [hf] at hq
      have hb' : ¬ (2 ≤ g.2 ∧ g.2 ≤ 64) := fun z => by rw [decide_eq_true z] at hb; cases hb
      walk_at "mir"
      refine ⟨fun _ => hq, fun c1 => ⟨fun _ => hq, fun c2 => hb' ⟨by omega, by omega⟩⟩⟩
  · intro hgs G S2 hI
    obtain ⟨g1, g2, hG, hS⟩ := hI
    rw [hG, hS]
    clear hG hS
    unfold Pln.d
    walk_at "mir"
    refine for_find p.ch chD (fun c => !decide (1 ≤ c.2.2 ∧ c.2.2 ≤ 64)) (fun G S' => ∃ (g3 g4 g5 : Option D), G = [some p.d, g1, g2, g3, g4, g5] ∧ S' = S) rfl (fun _ _ _ => True.intro) ⟨_, _, _, rfl, rfl⟩ ?_ ?_
    · intro hch G S2 hI
      obtain ⟨g3, g4, g5, hG, hS⟩ := hI
      rw [hG, hS]
      walk_at "mir"
      have hq := k
      unfold roomErr at hq
      rw [hgs, hch] at hq
      exact hq
    · intro g G S2 hc hI
      obtain ⟨g3, g4, g5, hG, hS⟩ := hI
      rw [hG, hS]
      clear hG hS
      refine ⟨_, rfl, fun hb => ?_, fun hb hf => ?_⟩
      · have hb' : 1 ≤ g.2.2 ∧ g.2.2 ≤ 64 := by simpa using hb
        walk_at "mir"
        refine ⟨fun c => absurd c (by omega), fun _ => ⟨fun c => absurd c (by omega), fun _ => ⟨_, _, _, rfl⟩⟩⟩
      · have hq := k
        unfold roomErr at hq
        rw [hgs, hf] at hq
        have hb' : ¬ (1 ≤ g.2.2 ∧ g.2.2 ≤ 64) := fun z => by rw [decide_eq_true z] at hb; cases hb
        walk_at "mir"
        refine ⟨fun _ => hq, fun c1 => ⟨fun _ => hq, fun c2 => hb' ⟨by omega, by omega⟩⟩⟩
end

end
section
theorem framesO_snoc (x : Str × Nat) : ∀ (l : List (Str × Nat)) (a : Nat), framesO (l ++ [x]) a = framesO l a ++ [(List.range x.2).map ((a + (l.map Prod.snd).sum) + ·)]
  | [], a => by obtain ⟨n, m⟩ := x; simp [framesO]
  | (n, m) :: l, a => by
    show (List.range m).map (a + ·) :: framesO (l ++ [x]) (a + m) = _
    rw [framesO_snoc x l (a + m)]
    simp [framesO, Nat.add_assoc]
section
variable {Q : D → Mir.ST → Prop} {X : XQ} {S : Mir.ST} {p : Pln}
theorem lframesO_w (h : GlOk p.gs) (z : ¬ p.keep = "coloured") (hm : p.sets ≤ 100) (q : ∀ S', Ex S S' → Q (.tup ((framesO p.gs 0).map tupN)) S') : wpR (m__law_frames [p.cacheD, .tup (p.gs.map gD)] S) Q X := by
  have hz : SZ = 16777216 := rfl
  have hl := h.l
  have hcd : p.cacheD = .tup [iN p.sets, .int p.ways, .str p.keep] := rfl
  rw [hcd]
  unfold m__law_frames
  walk_at "mir"
  unfold b__law_frames
  walk_at "mir"
  walk_at "side"
  refine for_rng (fun i G S' => ∃ (g5 g6 g7 : Option D) (T : Mir.ST), G = [some (.tup [.int (p.sets : Int), .int p.ways, .str p.keep]), some (.tup (p.gs.map gD)), some (.ref S.length), some (.int (((p.gs.take i).map Prod.snd).sum : Nat)), some (.int ((p.sets : Int) / 4)), g5, g6, g7] ∧ S' = S ++ .lst ((framesO (p.gs.take i) 0).map tupN) :: T) ⟨none, none, none, [], rfl, rfl⟩ ?_ ?_
  · intro G S' hI
    obtain ⟨g5, g6, g7, T, hG, hS⟩ := hI
    rw [hG, hS, List.take_length]
    walk_at "mir"
    exact q _ ⟨_, rfl⟩
  · intro i G S' hi hI
    obtain ⟨g5, g6, g7, T, hG, hS⟩ := hI
    rw [hG, hS]
    clear hG hS
    refine ⟨_, rfl, ?_⟩
    have hx := List.getElem?_eq_getElem hi
    have et : p.gs.take (i + 1) = p.gs.take i ++ [p.gs[i]] := by rw [List.take_succ, hx]; rfl
    have fs := framesO_snoc p.gs[i] (p.gs.take i) 0
    have hm2 := h.m p.gs[i] (List.getElem_mem hi)
    have hsum : ((p.gs.take i).map Prod.snd).sum ≤ 100000 := frS_sum h (done := p.gs.take i) (ys := p.gs.drop i) (List.take_append_drop i p.gs).symm
    have ek : atI (p.gs.map gD) (i : Int) = some (gD p.gs[i]) := at_map hx
    generalize p.gs[i] = x at et fs hm2 ek
    generalize hb : ((p.gs.take i).map Prod.snd).sum = b at fs hsum
    have hA : (S ++ O.lst ((framesO (p.gs.take i) 0).map tupN) :: T)[S.length]? = some (.lst ((framesO (p.gs.take i) 0).map tupN)) := get_app0
    have lA : ((framesO (p.gs.take i) 0).map tupN).length ≤ 100 := by
      have : ∀ (l : List (Str × Nat)) a, (framesO l a).length = l.length := fun l => by
        induction l with
        | nil => intro a; rfl
        | cons x l ih => intro a; show ((_ :: framesO l _).length) = _; rw [List.length_cons, ih, List.length_cons]
      rw [List.length_map, this, List.length_take]
      omega
    walk_at "mir"
    rw [et, List.map_append, List.sum_append, fs, hb]
    generalize hAe : (framesO (p.gs.take i) 0).map tupN = A at hA lA
    rw [show ∀ B : O, S ++ B :: (T ++ [O.lst []]) = (S ++ B :: T) ++ [O.lst []] from fun B => by simp]
    have l1 := lt_of_get hA
    have e1 : ∀ B, (S ++ O.lst A :: T).set S.length (.lst B) = S ++ .lst B :: T := fun B => by simp
    have ln : (S ++ O.lst A :: T).length = S.length + (T.length + 1) := by simp
    rw [← ln]
    generalize hS1 : S ++ O.lst A :: T = S1 at hA l1 e1 ⊢
    clear ln hS1
    refine while_inv (n := x.2) (fun n G S' => ∃ j : Nat, G = [some (.tup [.int (p.sets : Int), .int p.ways, .str p.keep]), some (.tup (p.gs.map gD)), some (.ref S.length), some (.int (b : Int)), some (.int ((p.sets : Int) / 4)), some (.int (i : Int)), some (.ref S1.length), some (.int ((b + j : Nat) : Int))] ∧ S' = S1 ++ [.lst (((List.range j).map (b + ·)).map iN)] ∧ j + n = x.2) ⟨0, rfl, rfl, by omega⟩ ?_
    intro n G S' hI
    obtain ⟨j, hG, hS, hj⟩ := hI
    rw [hG, hS]
    clear hG hS
    have hown : ((List.range (j + 1)).map (b + ·)).map iN = ((List.range j).map (b + ·)).map iN ++ [iN (b + j)] := by rw [List.range_succ, List.map_append, List.map_append]; rfl
    have lown : (((List.range j).map (b + ·)).map iN).length = j := by simp
    generalize hO : ((List.range j).map (b + ·)).map iN = own at hown lown
    have h2 : (S1 ++ [O.lst own])[S1.length]? = some (.lst own) := get_app0
    have h3 : (S1 ++ [O.lst own])[S.length]? = some (.lst A) := by rw [List.getElem?_append_left l1]; exact hA
    walk_at "mir"
    rw [ek, show gD x = .tup [.str x.1, .int (x.2 : Int)] from rfl]
    walk_at "mir"
    refine ⟨fun c => ?_, fun c => ?_⟩
    · rw [lown] at c
      refine ⟨fun _ => ⟨by rw [lown]; omega, n - 1, by omega, j + 1, ?_, ?_, by omega⟩, fun c => absurd c z⟩
      · rw [show ((b + j : Nat) : Int) + 1 = ((b + (j + 1) : Nat) : Int) by omega]
      · rw [hown]
        rfl
    · rw [lown] at c
      refine ⟨fun c => absurd c z, fun _ => ?_⟩
      rw [h3]
      have hjx : j = x.2 := by omega
      refine ⟨rfl, by omega, some (.int (i : Int)), some (.ref S1.length), some (.int ((b + j : Nat) : Int)), T ++ [O.lst own], ?_, ?_⟩
      · rw [hjx]
        simp
      · rw [List.set_append_left _ _ l1, e1, List.map_append, hAe, List.append_assoc]
        have ez : [D.tup own] = List.map tupN [(List.range x.2).map (b + ·)] := by rw [← hO, hjx]; rfl
        rw [ez]
        rfl
end
section
variable {Q : D → Mir.ST → Prop} {X : XQ} {S : Mir.ST} {p : Pln}
theorem lframesC_w (h : GlOk p.gs) (h0 : 0 < p.gs.length) (z : p.keep = "coloured") (hc : p.gs.length ≤ p.sets / 4) (hm : p.sets ≤ 100) (q : ∀ S', Ex S S' → Q (.tup (((List.range p.gs.length).map fun k => frC (p.sets / 4) p.gs.length k (p.gs.getD k (Str.ofString "", 0)).2).map tupN)) S') : wpR (m__law_frames [p.cacheD, .tup (p.gs.map gD)] S) Q X := by
  have hz : SZ = 16777216 := rfl
  have hl := h.l
  have hcd : p.cacheD = .tup [iN p.sets, .int p.ways, .str "coloured"] := by unfold Pln.cacheD; rw [z]
  rw [hcd]
  clear hcd
  unfold m__law_frames
  walk_at "mir"
  unfold b__law_frames
  walk_at "mir"
  walk_at "side"
  have F : ∀ k, k < p.gs.length → (p.gs.getD k (Str.ofString "", 0)).2 ≤ 1000 := fun k hk => h.m _ (by rw [List.getD_eq_getElem?_getD, List.getElem?_eq_getElem hk]; exact List.getElem_mem hk)
  rw [show (p.sets : Int) / 4 = ((p.sets / 4 : Nat) : Int) by omega]
  generalize p.sets / 4 = col at hc q ⊢
  refine for_rng (fun i G S' => ∃ g5 g6 g7 T, G = [some (.tup [.int (p.sets : Int), .int p.ways, .str "coloured"]), some (.tup (p.gs.map gD)), some (.ref S.length), some (.int 0), some (.int (col : Nat)), g5, g6, g7] ∧ S' = S ++ .lst (((List.range i).map fun k => frC col p.gs.length k (p.gs.getD k (Str.ofString "", 0)).2).map tupN) :: T) ⟨none, none, none, [], rfl, rfl⟩ ?_ ?_
  · rintro G S' ⟨g5, g6, g7, T, rfl, rfl⟩
    walk_at "mir"
    exact q _ ⟨_, rfl⟩
  · rintro k G S' hk ⟨g5, g6, g7, T, rfl, rfl⟩
    have ek : atI (p.gs.map gD) (k : Int) = some (.tup [.str (p.gs.getD k (Str.ofString "", 0)).1, iN (p.gs.getD k (Str.ofString "", 0)).2]) := at_map (by rw [List.getD_eq_getElem?_getD, List.getElem?_eq_getElem hk]; rfl)
    have Fk := F k hk
    have fl := frC_len (col := col) (k := k) h0 hc hk (p.gs.getD k (Str.ofString "", 0)).2
    have fb := fr_block (col := col) (k := k) h0 hc hk (p.gs.getD k (Str.ofString "", 0)).2
    have hm0 : (((List.range k).map fun k => frC col p.gs.length k (p.gs.getD k (Str.ofString "", 0)).2).map tupN).length = k := by simp
    generalize hgk : p.gs.getD k (Str.ofString "", 0) = gk at ek Fk fl fb
    refine ⟨_, rfl, ?_⟩
    walk_at "mirs"
    rw [show ∀ A : O, S ++ A :: (T ++ [O.lst []]) = (S ++ A :: T) ++ [O.lst []] from fun A => by simp]
    generalize hA : (((List.range k).map fun k => frC col p.gs.length k (p.gs.getD k (Str.ofString "", 0)).2).map tupN) = A at hm0 ⊢
    have h1 : (S ++ O.lst A :: T)[S.length]? = some (.lst A) := get_app0
    have l1 := lt_of_get h1
    have e1 : ∀ B, (S ++ O.lst A :: T).set S.length (.lst B) = S ++ .lst B :: T := fun B => by simp
    have ln : (S ++ O.lst A :: T).length = S.length + (T.length + 1) := by simp
    rw [← ln]
    generalize hS1 : S ++ O.lst A :: T = S1 at h1 l1 e1 ⊢
    refine while_inv (n := gk.2 * col) (fun n G S' => ∃ f : Nat, G = [some (.tup [.int (p.sets : Int), .int p.ways, .str "coloured"]), some (.tup (p.gs.map gD)), some (.ref S.length), some (.int 0), some (.int (col : Nat)), some (.int (k : Nat)), some (.ref S1.length), some (.int f)] ∧ S' = S1 ++ [.lst (((List.range f).filter fun f => decide (f % col % p.gs.length = k)).map iN)] ∧ f + n = gk.2 * col ∧ ((List.range f).filter fun f => decide (f % col % p.gs.length = k)).length ≤ gk.2) ⟨0, rfl, rfl, by omega, Nat.zero_le _⟩ ?_
    rintro n G S' ⟨f, rfl, rfl, hf, hle⟩
    have pre := fun hl => fr_prefix (col := col) (n := p.gs.length) (k := k) (m := gk.2) (f := f) hl (by omega)
    have hs : (List.range (f + 1)).filter (fun f => decide (f % col % p.gs.length = k)) = (List.range f).filter (fun f => decide (f % col % p.gs.length = k)) ++ (if f % col % p.gs.length = k then [f] else []) := by
      rw [List.range_succ, List.filter_append]
      congr 1
      by_cases z : f % col % p.gs.length = k
      · rw [if_pos z, List.filter_cons, if_pos (by rw [decide_eq_true z])]; rfl
      · rw [if_neg z, List.filter_cons, if_neg (by rw [decide_eq_false z]; decide)]; rfl
    have hlt : ((List.range f).filter fun f => decide (f % col % p.gs.length = k)).length < gk.2 → 0 < n := fun z => by
      have : f ≠ gk.2 * col := fun y => by rw [← y] at fb; omega
      omega
    generalize (List.range f).filter (fun f => decide (f % col % p.gs.length = k)) = own at hle pre hs hlt ⊢
    walk_at "mirs"
    refine ⟨fun z => ?_, fun z => ?_⟩
    · have hn := hlt (by omega)
      have ec : ((f : Int) % ((col : Nat) : Int) % ((p.gs.length : Nat) : Int) = (k : Int)) ↔ f % col % p.gs.length = k := by
        rw [← Int.natCast_emod, ← Int.natCast_emod]; omega
      refine ⟨cMod_of (by omega), cMod_of (by omega), fun y => ?_, fun y => ?_⟩
      · rw [if_pos (ec.mp y)] at hs
        refine ⟨by omega, n - 1, by omega, f + 1, rfl, ?_, by omega, ?_⟩
        · rw [hs, List.map_append]; rfl
        · rw [hs, List.length_append, List.length_singleton]; omega
      · rw [if_neg fun z => y (ec.mpr z), List.append_nil] at hs
        refine ⟨n - 1, by omega, f + 1, rfl, ?_, by omega, ?_⟩
        · rw [hs]
        · rw [hs]; omega
    · have eo := pre (by omega)
      refine ⟨by omega, some (.int k), some (.ref S1.length), some (.int f), T ++ [O.lst (own.map iN)], rfl, ?_⟩
      rw [List.range_succ, List.map_append, List.map_append, hA, eo, ← hgk]
      rfl
end

end
section
section
variable {Q : D → Mir.ST → Prop} {X : XQ} {S : Mir.ST} {p : Pln}
theorem lframes_w (h : GlOk p.gs) (h0 : 0 < p.gs.length) (hc : p.keep = "coloured" → p.gs.length ≤ p.sets / 4) (hm : p.sets ≤ 100) (q : ∀ S', Ex S S' → Q (.tup ((frsOf p).map tupN)) S') : wpR (m__law_frames [p.cacheD, .tup (p.gs.map gD)] S) Q X := by
  by_cases z : p.keep = "coloured"
  · exact lframesC_w h h0 z (hc z) hm (fun S' e => by have := q S' e; unfold frsOf at this; rw [if_pos z] at this; exact this)
  · exact lframesO_w h z hm (fun S' e => by have := q S' e; unfold frsOf at this; rw [if_neg z] at this; exact this)
theorem asc_last {l : List Nat} (h : l.Pairwise (· < ·)) (hne : l ≠ []) : lastN l ∈ l ∧ ∀ y ∈ l, y ≤ lastN l := by
  obtain ⟨ini, z, rfl⟩ : ∃ ini z, l = ini ++ [z] := ⟨_, _, (List.dropLast_concat_getLast hne).symm⟩
  have e : lastN (ini ++ [z]) = z := by unfold lastN; simp
  rw [e]
  refine ⟨by simp, fun y hy => ?_⟩
  rcases List.mem_append.mp hy with hy | hy
  · exact Nat.le_of_lt ((List.pairwise_append.mp h).2.2 y hy z (List.mem_singleton.mpr rfl))
  · rw [List.mem_singleton.mp hy]; exact Nat.le_refl _
theorem max_asc {l : List Nat} (h : l.Pairwise (· < ·)) (hne : l ≠ []) (k : Q (.int (lastN l : Int)) S) : wpR (bMaxA [.tup (l.map iN)] S) Q X := by
  obtain ⟨h1, h2⟩ := asc_last h hne
  cases l with
  | nil => exact absurd rfl hne
  | cons x r =>
    have e : (x :: r).map iN = ((x : Int) :: r.map (fun n : Nat => (n : Int))).map D.int := by rw [List.map_cons, List.map_cons, List.map_map]; rfl
    rw [e, r_maxAT]
    have em : maxI (x : Int) (r.map fun n : Nat => (n : Int)) = (lastN (x :: r) : Int) := by
      obtain ⟨g1, g2⟩ := maxI_ge (r.map fun n : Nat => (n : Int)) (x : Int)
      refine Int.le_antisymm ?_ ?_
      · rcases maxI_mem (r.map fun n : Nat => (n : Int)) (x : Int) with c | c
        · rw [c]
          have := h2 x List.mem_cons_self
          omega
        · obtain ⟨y, hy, e⟩ := List.mem_map.mp c
          rw [← e]
          have := h2 y (List.mem_cons_of_mem _ hy)
          omega
      · rcases List.mem_cons.mp h1 with c | c
        · rw [c]; exact g1
        · exact g2 _ (List.mem_map.mpr ⟨_, c, rfl⟩)
    rw [em]
    exact k
theorem frs_asc (p : Pln) : ∀ l ∈ frsOf p, l.Pairwise (· < ·) := by
  unfold frsOf
  split
  · intro l hl
    obtain ⟨k, _, rfl⟩ := List.mem_map.mp hl
    unfold frC
    exact ((List.pairwise_lt_range).filter _).sublist (List.take_sublist _ _)
  · have : ∀ (l : List (Str × Nat)) a, ∀ x ∈ framesO l a, x.Pairwise (· < ·) := fun l => by
      induction l with
      | nil => intro a x hx; cases hx
      | cons y l ih =>
        intro a x hx
        obtain ⟨n, m⟩ := y
        rcases List.mem_cons.mp (show x ∈ (List.range m).map (a + ·) :: framesO l (a + m) from hx) with rfl | hx
        · rw [List.pairwise_map]
          exact (List.pairwise_lt_range).imp fun h => by omega
        · exact ih _ x hx
    exact this _ _
theorem due_w (hp : p.ok) (k : ∀ S', Ex S S' → Q (errD (chk p)) S') : wpR (m__law_due [p.d] S) Q X := by
  have hz : SZ = 16777216 := rfl
  have g1 := hp.g1
  have g5 := hp.g5
  unfold m__law_due
  walk_at "mir"
  unfold b__law_due
  walk_at "mir"
  refine lnames_due_w hp fun S1 e1 => ?_
  cases hn : nameErr p with
  | some e =>
    unfold errD
    walk_at "mir"
    refine lnames_due_w hp fun S2 e2 => ?_
    have hq := k S2 (e1.trans e2)
    unfold chk at hq
    rw [hn] at hq ⊢
    exact hq
  | none =>
    unfold errD
    walk_at "mir"
    refine lrooms_due_w hp ?_
    cases hr : roomErr p with
    | some e =>
      unfold errD
      walk_at "mir"
      refine lrooms_due_w hp ?_
      have hq := k S1 e1
      unfold chk at hq
      rw [hn, hr] at hq
      rw [hr]
      exact hq
    | none =>
      unfold errD
      walk_at "mir"
      refine lcache_w fun T => ?_
      have e2 := e1.app T
      generalize S1 ++ T = S2 at e2 ⊢
      cases hc : cacheOk p with
      | false =>
        have hq := k S2 e2
        unfold chk at hq
        rw [hn, hr, hc] at hq
        unfold Pln.d
        walk_at "mir"
        exact hq
      | true =>
        have fi := fine_of hr hc
        unfold Pln.d
        walk_at "mir"
        refine lframes_w (p := p) ⟨by omega, fun q hq => by have := (fi.many q hq).2; omega⟩ (by omega) fi.col (by have := fi.sets; omega) fun S3 e3 => ?_
        have e4 := e2.trans e3
        have fl := frs_len p
        have fn := fine_ne fi
        walk_at "mir"
        walk_at "side"
        have asc := frs_asc p
        have kq := k S3 e4
        unfold chk at kq
        rw [hn, hr, hc] at kq
        dsimp only at kq
        rw [if_pos rfl] at kq
        clear hn hr hc k e1 e2 e3 e4
        refine for_find (List.range (frsOf p).length) (fun k : Nat => D.int (k : Int)) (fun k => decide (p.mem ≤ (lastN ((frsOf p).getD k []) : Int))) (fun G S' => ∃ (g2 : Option D), G = [some p.d, some (.tup ((frsOf p).map tupN)), g2, none, none] ∧ S' = S3) rngD_map (fun _ _ _ => True.intro) ⟨_, rfl, rfl⟩ ?_ ?_
        rotate_left
        · intro j G S' hj hI
          obtain ⟨g2, hG, hS⟩ := hI
          rw [List.mem_range] at hj
          rw [hG, hS]
          clear hG hS
          have hj2 : j < p.gs.length := by omega
          have hlm : (frsOf p).getD j [] ∈ frsOf p := by rw [List.getD_eq_getElem?_getD, List.getElem?_eq_getElem hj]; exact List.getElem_mem hj
          have ef : atI ((frsOf p).map tupN) (j : Int) = some (.tup (((frsOf p).getD j []).map iN)) := at_map (by rw [List.getD_eq_getElem?_getD, List.getElem?_eq_getElem hj]; rfl)
          have eg : atI (p.gs.map gD) (j : Int) = some (gD (p.gs[j])) := at_map (List.getElem?_eq_getElem hj2)
          have en : p.names.getD j "" = (p.gs[j]).1 := by
            unfold Pln.names
            rw [List.getD_eq_getElem?_getD, List.getElem?_map, List.getElem?_eq_getElem hj2]
            rfl
          have mx := fun Q X => max_asc (Q := Q) (X := X) (S := S3) (asc _ hlm) (fn _ hlm)
          refine ⟨_, rfl, fun hb => ?_, fun hb hf => ?_⟩
          · have hb' := of_decide_eq_false hb
            unfold Pln.d
            walk_at "mir"
            rw [ef]
            walk_at "mir"
            refine mx _ _ ?_
            walk_at "mir"
            exact ⟨fun c => absurd c hb', fun _ => ⟨_, rfl⟩⟩
          · have hb' := of_decide_eq_true hb
            unfold memErr at kq
            rw [hf] at kq
            unfold Pln.d
            walk_at "mir"
            rw [ef]
            walk_at "mir"
            refine mx _ _ ?_
            walk_at "mir"
            refine ⟨fun _ => ?_, fun c => c hb'⟩
            rw [eg, show gD p.gs[j] = .tup [.str (p.gs[j]).1, .int ((p.gs[j]).2 : Int)] from rfl]
            walk_at "mir"
            dsimp only [Option.map_some] at kq
            rw [en] at kq
            exact kq
        · intro hm G S' hI
          obtain ⟨g2, hG, hS⟩ := hI
          rw [hG, hS]
          clear hG hS
          unfold memErr at kq
          rw [hm] at kq
          dsimp only [Option.map_none] at kq
          unfold Pln.d
          walk_at "mir"
          refine for_find p.sl slD (fun s => !decide (worstOf p ≤ s.2 ∧ s.2 ≤ 1000000)) (fun G S' => ∃ (g3 g4 : Option D), G = [some p.d, some (.tup ((frsOf p).map tupN)), g2, g3, g4] ∧ S' = S3) rfl (fun _ _ _ => True.intro) ⟨_, _, rfl, rfl⟩ ?_ ?_
          · intro hs G S' hI
            obtain ⟨g3, g4, hG, hS⟩ := hI
            rw [hG, hS]
            walk_at "mir"
            unfold slotErr at kq
            rw [hs] at kq
            exact kq
          · intro s G S' hs hI
            obtain ⟨g3, g4, hG, hS⟩ := hI
            rw [hG, hS]
            clear hG hS
            refine ⟨_, rfl, fun hb => ?_, fun hb hf => ?_⟩
            · have hb' : worstOf p ≤ s.2 ∧ s.2 ≤ 1000000 := by simpa using hb
              unfold Pln.d
              walk_at "mir"
              refine lworst_w ?_
              walk_at "mir"
              exact ⟨fun c => absurd c (by omega), fun _ => ⟨fun c => absurd c (by omega), fun _ => ⟨_, _, rfl⟩⟩⟩
            · have hb' : ¬ (worstOf p ≤ s.2 ∧ s.2 ≤ 1000000) := fun z => by rw [decide_eq_true z] at hb; cases hb
              unfold slotErr at kq
              rw [hf] at kq
              unfold Pln.d
              walk_at "mir"
              refine lworst_w ?_
              walk_at "mir"
              exact ⟨fun _ => kq, fun c1 => ⟨fun _ => kq, fun c2 => hb' ⟨by omega, by omega⟩⟩⟩
end

end
section
def Sh : Nat → D → Prop
  | 0, _ => False
  | n + 1, d => match d with
    | .tup ds => (∀ d ∈ ds, Sh n d) ∧ ds.length ≤ SZ
    | .non => True | .int _ => True | .bl _ => True | .str _ => True
    | _ => False
theorem alike_refl : ∀ (n : Nat) (d : D), Sh n d → ∀ S : Mir.ST, wpR (m__law_alike n [d, d] S) (fun r S' => r = .bl true ∧ ∃ T, S' = S ++ T) (fun _ _ _ => False)
  | 0, d, h, S => h.elim
  | n + 1, d, h, S => by
    have e0 : ∃ T, S = S ++ T := ⟨[], (List.append_nil S).symm⟩
    rw [m__law_alike]
    cases d with
    | non => walk_at "mirs"
    | int i => walk_at "mirs"
    | bl b => walk_at "mirs"
    | str x => walk_at "mirs"
    | fl ds => exact h.elim
    | ref m => exact h.elim
    | opq v => exact h.elim
    | tup ds =>
      obtain ⟨h1, h2⟩ := h
      walk_at "mir"
      walk_at "side"
      refine lc_empty (fun _ => True.intro) (fun i d T hd => ?_) (fun T => ?_)
      · have hi : i < ds.length := by
          have := (List.getElem?_eq_some_iff.mp hd).1
          rwa [rngD_len] at this
        have hd2 : (rngD 0 1 ds.length)[i]? = some d := hd
        rw [rngD_get hi] at hd2
        cases hd2
        refine ⟨_, rfl, ?_⟩
        walk_at "mir"
        rw [atI_pos (by omega) (by omega), Int.toNat_natCast, List.getElem?_eq_getElem hi]
        walk_at "mir"
        rw [atI_pos (by omega) (by omega), Int.toNat_natCast, List.getElem?_eq_getElem hi]
        walk_at "mir"
        refine wpR_mono (alike_refl n ds[i] (h1 _ (List.getElem_mem hi)) (S ++ .lst [] :: T)) ?_
        rintro r S' ⟨hr, T2, hS'⟩
        rw [hr, hS']
        walk_at "mir"
        exact ⟨_, rfl⟩
      · walk_at "mir"
        refine w_eqL (n := 1) (ds := []) (es := []) get_app0 ?_ (fun d hd => absurd hd List.not_mem_nil) (fun d hd => absurd hd List.not_mem_nil) (by decide) (fun _ => ?_) (fun c => absurd rfl c)
        · rw [get_app, List.getElem?_cons_succ, get_app0]; rfl
        · walk_at "mir"
          exact ⟨_, rfl⟩
theorem alike_w {n : Nat} {d : D} (h : Sh n d) {S : Mir.ST} {Q : D → Mir.ST → Prop} {X : XQ} (k : ∀ T, Q (.bl true) (S ++ T)) : wpR (m__law_alike n [d, d] S) Q X := by
  refine wpR_mono (wpR_none (alike_refl n d h S)) ?_
  rintro r S' ⟨hr, T, hS⟩
  rw [hr, hS]
  exact k T
theorem sh_tup {n : Nat} {ds : List D} (h : ∀ d ∈ ds, Sh n d) (hl : ds.length ≤ SZ) : Sh (n + 1) (.tup ds) := ⟨h, hl⟩

end
section
/-! ### plans out of the draws -/
section
variable {Q : D → Mir.ST → Prop} {X : XQ} {S : Mir.ST} {iw n : Nat}
theorem a_guest_w {gs : List (Str × Nat)} {m : Nat} (d : DrawSt S iw n) (hm : S[m]? = some (.lst (gs.map gD))) (h0 : 0 < gs.length) (k : ∀ z S', DrawSt S' iw n → Fr iw S S' → Q (.str z) S') : wpR (m__law_a_guest [.ref iw, .ref m] S) Q X := by
  unfold m__law_a_guest
  walk_at "mir"
  unfold b__law_a_guest
  walk_at "mir"
  refine off_w d (odds := 60) (by decide) fun b S1 d1 f1 => ?_
  have hm1 := f1.get (neIw d hm) hm
  cases b with
  | true =>
    walk_at "mir"
    exact k _ S1 d1 f1
  | false =>
    walk_at "mir"
    refine ppick_w d1 hm1 (by rw [List.length_map]; exact h0) fun v S2 hv d2 f2 => ?_
    obtain ⟨g, hg, rfl⟩ := List.mem_map.mp hv
    unfold gD
    walk_at "mir"
    exact k _ S2 d2 (f1.trans f2)
theorem lcache_draw {many : Nat} (d : DrawSt S iw n) (hmn : many ≤ 5) (k : ∀ (sets : Nat) (ways : Int) (keep : Str) S', sets ≤ 68 → DrawSt S' iw n → Fr iw S S' → Q (.tup [.int sets, .int ways, .str keep]) S') : wpR (m__law_cache [.ref iw, .int many] S) Q X := by
  unfold m__law_cache
  walk_at "mir"
  unfold b__law_cache
  walk_at "mir"
  refine off_w d (odds := 14) (by decide) fun b S1 d1 f1 => ?_
  have pk : ∀ (ds : List D) (S1 : Mir.ST) (Q : D → Mir.ST → Prop) (X : XQ), DrawSt S1 iw n → 0 < ds.length → (∀ v ∈ ds, ∃ a : Nat, a ≤ 68 ∧ v = .int a) → (∀ (a : Nat) S2, a ≤ 68 → DrawSt S2 iw n → Fr iw S1 S2 → Q (.int a) S2) → wpR (m__law_pick [.ref iw, .ref S1.length] (S1 ++ [.lst ds])) Q X := by
    intro ds S1 Q X d1 h1 h2 h3
    refine npick_w d1 h1 fun v S2 hv d2 f2 => ?_
    obtain ⟨a, ha, rfl⟩ := h2 v hv
    exact h3 a S2 ha d2 f2
  have k2 : ∀ (a : Nat) (S2 : Mir.ST) (w : Int) (kp : Str), a ≤ 68 → DrawSt S2 iw n → Fr iw S S2 → Q (.tup [.int a, .int w, .str kp]) S2 := fun a S2 w kp ha h1 h2 => k a w kp S2 ha h1 h2
  cases b
  case' false =>
    walk_at "mir"
    refine pk _ _ _ _ d1 (by simp) (fun v hv => by
      simp only [List.mem_cons, List.not_mem_nil, or_false] at hv
      rcases hv with rfl | rfl | rfl | rfl | rfl | rfl | rfl
      · exact ⟨4, by decide, rfl⟩
      · exact ⟨8, by decide, rfl⟩
      · exact ⟨16, by decide, rfl⟩
      · exact ⟨64, by decide, rfl⟩
      · exact ⟨12, by decide, rfl⟩
      · exact ⟨20, by decide, rfl⟩
      · exact ⟨32, by decide, rfl⟩) fun a S2 ha d2 f2 => ?_
  case' true =>
    walk_at "mir"
    refine pk _ _ _ _ d1 (by simp) (fun v hv => by
      simp only [List.mem_cons, List.not_mem_nil, or_false] at hv
      rcases hv with rfl | rfl | rfl | rfl | rfl
      · exact ⟨0, by decide, rfl⟩
      · exact ⟨2, by decide, rfl⟩
      · exact ⟨6, by decide, rfl⟩
      · exact ⟨68, by decide, rfl⟩
      · exact ⟨13, by decide, rfl⟩) fun a S2 ha d2 f2 => ?_
  all_goals
    have F := f1.trans f2
    clear f1 f2 d1 pk k
    walk_at "mir"
    refine off_w d2 (odds := 14) (by decide) fun b2 S3 d3 f3 => ?_
    have F := F.trans f3
    clear f3 d2
    cases b2
    case' false =>
      walk_at "mir"
      refine nextN_w d3 (many := 4) rfl (by decide) fun w S4 hw d4 f4 => ?_
    case' true =>
      walk_at "mir"
      refine npick_w d3 (by simp) fun v S4 hw d4 f4 => ?_
      have hv : ∃ i : Int, v = .int i := by
        simp only [List.mem_cons, List.not_mem_nil, or_false] at hw
        rcases hw with rfl | rfl
        · exact ⟨0, rfl⟩
        · exact ⟨5, rfl⟩
      obtain ⟨w, rfl⟩ := hv
      clear hw
    all_goals
      have F := F.trans f4
      clear f4 d3
      walk_at "mir"
      refine npick_w d4 (by simp) fun v S5 hv d5 f5 => ?_
      have hv : ∃ z : Str, v = .str z := by
        simp only [List.mem_cons, List.not_mem_nil, or_false] at hv
        rcases hv with rfl | rfl | rfl
        · exact ⟨_, rfl⟩
        · exact ⟨_, rfl⟩
        · exact ⟨_, rfl⟩
      obtain ⟨kp, rfl⟩ := hv
      have F := F.trans f5
      clear f5 d4
      walk_at "mir"
      refine ⟨fun _ => ⟨fun _ => ?_, fun _ => k2 a S5 _ kp ha d5 F⟩, fun _ => k2 a S5 _ kp ha d5 F⟩
      refine off_w d5 (odds := 2) (by decide) fun b3 S6 d6 f6 => ?_
      have F := F.trans f6
      clear f6 d5
      cases b3 with
      | true =>
        walk_at "mir"
        exact k2 a S6 _ kp ha d6 F
      | false =>
        walk_at "mir"
        refine nextN_w d6 (many := 3) rfl (by decide) fun c S7 hc d7 f7 => ?_
        walk_at "mir"
        rw [show (4 : Int) * ((many : Int) + (c : Int)) = ((4 * (many + c) : Nat) : Int) by omega]
        exact k2 _ S7 _ kp (by omega) d7 (F.trans f7)
theorem intp_w {ds : List D} (d : DrawSt S iw n) (h1 : 0 < ds.length) (h2 : ∀ v ∈ ds, ∃ i : Int, v = .int i) (k : ∀ (i : Int) S', DrawSt S' iw n → Fr iw S S' → Q (.int i) S') : wpR (m__law_pick [.ref iw, .ref S.length] (S ++ [.lst ds])) Q X :=
  npick_w d h1 fun v S2 hv d2 f2 => by
    obtain ⟨i, rfl⟩ := h2 v hv
    exact k i S2 d2 f2
theorem lticks_draw (d : DrawSt S iw n) (k : ∀ (a b c e : Int) S', DrawSt S' iw n → Fr iw S S' → Q (.tup [.int a, .int b, .int c, .int e]) S') : wpR (m__law_ticks [.ref iw] S) Q X := by
  unfold m__law_ticks
  walk_at "mir"
  unfold b__law_ticks
  walk_at "mir"
  refine nextN_w d (many := 5) rfl (by decide) fun h S1 hh d1 f1 => ?_
  walk_at "mir"
  refine intp_w d1 (by simp) (fun v hv => by
    simp only [List.mem_cons, List.not_mem_nil, or_false] at hv
    rcases hv with rfl | rfl | rfl | rfl | rfl <;> exact ⟨_, rfl⟩) fun b S2 d2 f2 => ?_
  walk_at "mir"
  refine intp_w d2 (by simp) (fun v hv => by
    simp only [List.mem_cons, List.not_mem_nil, or_false] at hv
    rcases hv with rfl | rfl | rfl | rfl <;> exact ⟨_, rfl⟩) fun c S3 d3 f3 => ?_
  walk_at "mir"
  refine intp_w d3 (by simp) (fun v hv => by
    simp only [List.mem_cons, List.not_mem_nil, or_false] at hv
    rcases hv with rfl | rfl | rfl | rfl | rfl <;> exact ⟨_, rfl⟩) fun e S4 d4 f4 => ?_
  have F := ((f1.trans f2).trans f3).trans f4
  clear f1 f2 f3 f4 d d1 d2 d3
  walk_at "mir"
  generalize (1 + (h : Int)) = x1 at *
  generalize x1 + b = x2 at *
  have d5 := d4.app [O.lst [D.int x1, D.int x2, D.int c, D.int e]]
  have F5 := F.trans (Fr.app iw S4 [O.lst [D.int x1, D.int x2, D.int c, D.int e]])
  have g5 : (S4 ++ [O.lst [D.int x1, D.int x2, D.int c, D.int e]])[S4.length]? = some (.lst [D.int x1, D.int x2, D.int c, D.int e]) := get_app0
  generalize hm : S4.length = m at *
  generalize S4 ++ [O.lst [D.int x1, D.int x2, D.int c, D.int e]] = S5 at *
  clear hm F d4
  refine off_w d5 (odds := 8) (by decide) fun b2 S6 d6 f6 => ?_
  have g6 := f6.get (neIw d5 g5) g5
  have F6 := F5.trans f6
  clear g5 F5 f6 d5
  cases b2 with
  | false =>
    walk_at "mirs"
  | true =>
    walk_at "mir"
    refine nextN_w d6 (many := 4) rfl (by decide) fun a S7 ha d7 f7 => ?_
    have g7 := f7.get (neIw d6 g6) g6
    have F7 := F6.trans f7
    clear g6 F6 f7 d6
    walk_at "mirs"
    have hcut : ∃ u v w z : List D, u = Mir.cutD [D.int x1, D.int x2, D.int c, D.int e] none (some (a : Int)) ∧ v = Mir.cutD [D.int x1, D.int x2, D.int c, D.int e] (some ((a : Int) + 1)) none ∧ u.length ≤ 4 ∧ v.length ≤ 4 ∧ ∀ i : Int, ∃ y1 y2 y3 y4 : Int, u ++ D.int i :: v = [D.int y1, D.int y2, D.int y3, D.int y4] := by
      rw [show ((a : Int) + 1) = ((a + 1 : Nat) : Int) by omega, cutN_to, cutN_from]
      refine ⟨_, _, [], [], rfl, rfl, ?_⟩
      match a, ha with
      | 0, _ => exact ⟨by simp, by simp, fun i => ⟨i, x2, c, e, rfl⟩⟩
      | 1, _ => exact ⟨by simp, by simp, fun i => ⟨x1, i, c, e, rfl⟩⟩
      | 2, _ => exact ⟨by simp, by simp, fun i => ⟨x1, x2, i, e, rfl⟩⟩
      | 3, _ => exact ⟨by simp, by simp, fun i => ⟨x1, x2, c, i, rfl⟩⟩
      | n + 4, h => exact absurd h (by omega)
    obtain ⟨u, v, _, _, hu, hv, lu, lv, hy⟩ := hcut
    rw [← hu]
    have e8 : S7 ++ [O.lst u, O.lst [D.int 0, D.int 1001, D.int 1]] = (S7 ++ [O.lst u]) ++ [O.lst [D.int 0, D.int 1001, D.int 1]] := by simp
    have l8 : S7.length + 1 = (S7 ++ [O.lst u]).length := by simp
    rw [e8, l8]
    have d8 := d7.app [O.lst u]
    have F8 := F7.trans (Fr.app iw S7 [O.lst u])
    have g8 : (S7 ++ [O.lst u])[S7.length]? = some (.lst u) := get_app0
    have h8 := (Fr.app iw S7 [O.lst u]).get (neIw d7 g7) g7
    clear e8 l8 F7 g7
    generalize S7.length = mu at *
    generalize S7 ++ [O.lst u] = S8 at *
    clear d7 S7
    refine intp_w d8 (by simp) (fun v hv => by
      simp only [List.mem_cons, List.not_mem_nil, or_false] at hv
      rcases hv with rfl | rfl | rfl <;> exact ⟨_, rfl⟩) fun i S9 d9 f9 => ?_
    have g9 := f9.get (neIw d8 g8) g8
    have h9 := f9.get (neIw d8 h8) h8
    have F9 := F8.trans f9
    obtain ⟨y1, y2, y3, y4, hy⟩ := hy i
    have hz : SZ = 16777216 := rfl
    have q := k y1 y2 y3 y4
    clear k f9 F8 g8 h8 d8 hu
    have lt1 := lt_of_get g9
    have lt2 := lt_of_get h9
    have e1 : u ++ (D.int i :: Mir.cutD [D.int x1, D.int x2, D.int c, D.int e] (some ((a : Int) + 1)) none) = [D.int y1, D.int y2, D.int y3, D.int y4] := by rw [← hv]; exact hy
    rw [hv] at lv
    clear hv hy
    have ln : u.length + 1 + (Mir.cutD [D.int x1, D.int x2, D.int c, D.int e] (some ((a : Int) + 1)) none).length ≤ SZ := by omega
    have ln2 : u.length + 1 ≤ SZ := by omega
    walk_at "mirs"
    exact ⟨by omega, by omega, q _ (d9.app _) (F9.trans (.app _ _ _))⟩
end

end
section
section
variable {Q : D → Mir.ST → Prop} {X : XQ} {S : Mir.ST} {iw n : Nat}
theorem lchannel_draw {gs : List (Str × Nat)} {m : Nat} (d : DrawSt S iw n) (hm : S[m]? = some (.lst (gs.map gD))) (h0 : 0 < gs.length) (h5 : gs.length ≤ 5) (ho : ∀ g ∈ gs, PyData.strOk g.1 = true) (k : ∀ (c : Str × Str × Int) S', DrawSt S' iw n → Fr iw S S' → Q (chD c) S') : wpR (m__law_channel [.ref iw, .ref m] S) Q X := by
  have hz : SZ = 16777216 := rfl
  unfold m__law_channel
  walk_at "mir"
  unfold b__law_channel
  walk_at "mir"
  refine a_guest_w d hm h0 fun one S1 d1 f1 => ?_
  have hm1 := f1.get (neIw d hm) hm
  walk_at "mirs"
  have ok : ∀ acc, (Src.mk (List.map gD gs) (some m)).ok (S1 ++ [.lst acc]) := fun acc => (Fr.app iw S1 [O.lst acc]).get (neIw d1 hm1) hm1
  refine lc_map gs gD (fun g => !decide (g.1 = one)) gD rfl ok (by omega) (fun g hg acc => ⟨_, rfl, ?_⟩) ?_
  · unfold gD
    walk_at "mir"
  have d2 := d1.app [.lst ((gs.filter fun g => !decide (g.1 = one)).map gD)]
  have F2 := f1.trans (Fr.app iw S1 [.lst ((gs.filter fun g => !decide (g.1 = one)).map gD)])
  have hm2 := (Fr.app iw S1 [.lst ((gs.filter fun g => !decide (g.1 = one)).map gD)]).get (neIw d1 hm1) hm1
  have g2 : (S1 ++ [O.lst ((gs.filter fun g => !decide (g.1 = one)).map gD)])[S1.length]? = some (.lst ((gs.filter fun g => !decide (g.1 = one)).map gD)) := get_app0
  have go := List.length_filter_le (fun g => !decide (g.1 = one)) gs
  generalize S1 ++ [O.lst ((gs.filter fun g => !decide (g.1 = one)).map gD)] = S2 at *
  generalize S1.length = mo at *
  have hos : ∀ g ∈ gs.filter (fun g => !decide (g.1 = one)), PyData.strOk g.1 = true := fun g hg => ho g (List.mem_filter.mp hg).1
  generalize gs.filter (fun g => !decide (g.1 = one)) = os at *
  clear ok hm1 d1 f1 hm d
  walk_at "mir"
  have nb : ∀ v ∈ os.map gD, Nb 2 v := fun v hv => by
    obtain ⟨g, hg, rfl⟩ := List.mem_map.mp hv
    intro d hd
    simp only [List.mem_cons, List.not_mem_nil, or_false] at hd
    rcases hd with rfl | rfl
    · exact hos g hg
    · trivial
  have d3 := d2.app [O.lst []]
  have F3 := F2.trans (Fr.app iw S2 [O.lst []])
  have hm3 := (Fr.app iw S2 [O.lst []]).get (neIw d2 hm2) hm2
  have g3 := (Fr.app iw S2 [O.lst []]).get (neIw d2 g2) g2
  have e3 : (S2 ++ [O.lst []])[S2.length]? = some (.lst []) := get_app0
  generalize S2 ++ [O.lst []] = S3 at *
  generalize S2.length = me at *
  clear d2 F2 hm2 g2
  refine r_neNil g3 e3 nb (by decide) (fun e => ?g1) fun hne => ?g2
  case' g1 => 
    walk_at "mir"
    refine a_guest_w d3 hm3 h0 fun o S9 d9 f9 => ?_
    have F9 := F3.trans f9
    clear e hos nb
  case' g2 =>
    walk_at "mir"
    refine off_w d3 (odds := 30) (by decide) fun b S4 d4 f4 => ?_
    have hm4 := f4.get (neIw d3 hm3) hm3
    have g4 := f4.get (neIw d3 g3) g3
    cases b
    case' false =>
      walk_at "mir"
      refine a_guest_w d4 g4 (by
        cases os with
        | nil => exact absurd rfl hne
        | cons a b => exact Nat.succ_pos _) fun o S9 d9 f9 => ?_
      have F9 := F3.trans (f4.trans f9)
      clear hne hos nb
    case' true =>
      walk_at "mir"
      refine a_guest_w d4 hm4 h0 fun o S9 d9 f9 => ?_
      have F9 := F3.trans (f4.trans f9)
      clear hne hos nb
  all_goals
    walk_at "mir"
    refine off_w d9 (odds := 12) (by decide) fun b S4 d4 f4 => ?_
    have F4 := F9.trans f4
    cases b with
    | false =>
      walk_at "mir"
      refine intp_w d4 (by simp) (fun v hv => by
        simp only [List.mem_cons, List.not_mem_nil, or_false] at hv
        rcases hv with rfl | rfl | rfl | rfl <;> exact ⟨_, rfl⟩) fun i S5 d5 f5 => ?_
      have q := k (one, o, i) S5 d5 (F4.trans f5)
      unfold chD at q
      walk_at "mir"
      exact q
    | true =>
      walk_at "mir"
      refine intp_w d4 (by simp) (fun v hv => by
        simp only [List.mem_cons, List.not_mem_nil, or_false] at hv
        rcases hv with rfl | rfl | rfl <;> exact ⟨_, rfl⟩) fun i S5 d5 f5 => ?_
      have q := k (one, o, i) S5 d5 (F4.trans f5)
      unfold chD at q
      walk_at "mir"
      exact q
end

end
section
section
variable {Q : D → Mir.ST → Prop} {X : XQ} {S : Mir.ST} {p : Pln}
theorem lframesOR_w {mg : Nat} (hg : S[mg]? = some (.lst (p.gs.map gD))) (h : GlOk p.gs) (z : ¬ p.keep = "coloured") (hm : p.sets ≤ 100) (q : ∀ S', Ex S S' → Q (.tup ((framesO p.gs 0).map tupN)) S') : wpR (m__law_frames [p.cacheD, .ref mg] S) Q X := by
  have hz : SZ = 16777216 := rfl
  have hl := h.l
  have hcd : p.cacheD = .tup [iN p.sets, .int p.ways, .str p.keep] := rfl
  rw [hcd]
  have lg := lt_of_get hg
  have hgT : ∀ T, (S ++ T)[mg]? = some (.lst (p.gs.map gD)) := fun T => by rw [List.getElem?_append_left lg]; exact hg
  unfold m__law_frames
  walk_at "mir"
  unfold b__law_frames
  walk_at "mir"
  rw [hgT]
  walk_at "mir"
  walk_at "side"
  refine for_rng (n := p.gs.length) (fun i G S' => ∃ (g5 g6 g7 : Option D) (T : Mir.ST), G = [some (.tup [.int (p.sets : Int), .int p.ways, .str p.keep]), some (.ref mg), some (.ref S.length), some (.int (((p.gs.take i).map Prod.snd).sum : Nat)), some (.int ((p.sets : Int) / 4)), g5, g6, g7] ∧ S' = S ++ .lst ((framesO (p.gs.take i) 0).map tupN) :: T) ⟨none, none, none, [], rfl, rfl⟩ ?_ ?_
  · intro G S' hI
    obtain ⟨g5, g6, g7, T, hG, hS⟩ := hI
    rw [hG, hS, List.take_length]
    walk_at "mir"
    exact q _ ⟨_, rfl⟩
  · intro i G S' hi hI
    obtain ⟨g5, g6, g7, T, hG, hS⟩ := hI
    rw [hG, hS]
    clear hG hS
    refine ⟨_, rfl, ?_⟩
    have hx := List.getElem?_eq_getElem hi
    have et : p.gs.take (i + 1) = p.gs.take i ++ [p.gs[i]] := by rw [List.take_succ, hx]; rfl
    have fs := framesO_snoc p.gs[i] (p.gs.take i) 0
    have hm2 := h.m p.gs[i] (List.getElem_mem hi)
    have hsum : ((p.gs.take i).map Prod.snd).sum ≤ 100000 := frS_sum h (done := p.gs.take i) (ys := p.gs.drop i) (List.take_append_drop i p.gs).symm
    have ek : atI (p.gs.map gD) (i : Int) = some (gD p.gs[i]) := at_map hx
    generalize p.gs[i] = x at et fs hm2 ek
    generalize hb : ((p.gs.take i).map Prod.snd).sum = b at fs hsum
    have hA : (S ++ O.lst ((framesO (p.gs.take i) 0).map tupN) :: T)[S.length]? = some (.lst ((framesO (p.gs.take i) 0).map tupN)) := get_app0
    have lA : ((framesO (p.gs.take i) 0).map tupN).length ≤ 100 := by
      have : ∀ (l : List (Str × Nat)) a, (framesO l a).length = l.length := fun l => by
        induction l with
        | nil => intro a; rfl
        | cons x l ih => intro a; show ((_ :: framesO l _).length) = _; rw [List.length_cons, ih, List.length_cons]
      rw [List.length_map, this, List.length_take]
      omega
    walk_at "mir"
    rw [et, List.map_append, List.sum_append, fs, hb]
    generalize hAe : (framesO (p.gs.take i) 0).map tupN = A at hA lA
    rw [show ∀ B : O, S ++ B :: (T ++ [O.lst []]) = (S ++ B :: T) ++ [O.lst []] from fun B => by simp]
    have l1 := lt_of_get hA
    have e1 : ∀ B, (S ++ O.lst A :: T).set S.length (.lst B) = S ++ .lst B :: T := fun B => by simp
    have ln : (S ++ O.lst A :: T).length = S.length + (T.length + 1) := by simp
    rw [← ln]
    have hg1 : ∀ U, (S ++ O.lst A :: T ++ U)[mg]? = some (.lst (p.gs.map gD)) := fun U => by rw [List.append_assoc]; exact hgT _
    generalize hS1 : S ++ O.lst A :: T = S1 at hA l1 e1 hg1 ⊢
    clear ln hS1
    refine while_inv (n := x.2) (fun n G S' => ∃ j : Nat, G = [some (.tup [.int (p.sets : Int), .int p.ways, .str p.keep]), some (.ref mg), some (.ref S.length), some (.int (b : Int)), some (.int ((p.sets : Int) / 4)), some (.int (i : Int)), some (.ref S1.length), some (.int ((b + j : Nat) : Int))] ∧ S' = S1 ++ [.lst (((List.range j).map (b + ·)).map iN)] ∧ j + n = x.2) ⟨0, rfl, rfl, by omega⟩ ?_
    intro n G S' hI
    obtain ⟨j, hG, hS, hj⟩ := hI
    rw [hG, hS]
    clear hG hS
    have hown : ((List.range (j + 1)).map (b + ·)).map iN = ((List.range j).map (b + ·)).map iN ++ [iN (b + j)] := by rw [List.range_succ, List.map_append, List.map_append]; rfl
    have lown : (((List.range j).map (b + ·)).map iN).length = j := by simp
    generalize hO : ((List.range j).map (b + ·)).map iN = own at hown lown
    have h2 : (S1 ++ [O.lst own])[S1.length]? = some (.lst own) := get_app0
    have h3 : (S1 ++ [O.lst own])[S.length]? = some (.lst A) := by rw [List.getElem?_append_left l1]; exact hA
    walk_at "mir"
    rw [hg1]
    walk_at "mir"
    rw [ek, show gD x = .tup [.str x.1, .int (x.2 : Int)] from rfl]
    walk_at "mir"
    refine ⟨fun c => ?_, fun c => ?_⟩
    · rw [lown] at c
      refine ⟨fun _ => ⟨by rw [lown]; omega, n - 1, by omega, j + 1, ?_, ?_, by omega⟩, fun c => absurd c z⟩
      · rw [show ((b + j : Nat) : Int) + 1 = ((b + (j + 1) : Nat) : Int) by omega]
      · rw [hown]
        rfl
    · rw [lown] at c
      refine ⟨fun c => absurd c z, fun _ => ?_⟩
      rw [h3]
      have hjx : j = x.2 := by omega
      refine ⟨rfl, by omega, some (.int (i : Int)), some (.ref S1.length), some (.int ((b + j : Nat) : Int)), T ++ [O.lst own], ?_, ?_⟩
      · rw [hjx]
        simp
      · rw [List.set_append_left _ _ l1, e1, List.map_append, hAe, List.append_assoc]
        have ez : [D.tup own] = List.map tupN [(List.range x.2).map (b + ·)] := by rw [← hO, hjx]; rfl
        rw [ez]
        rfl
end
section
variable {Q : D → Mir.ST → Prop} {X : XQ} {S : Mir.ST} {p : Pln}
theorem lframesCR_w {mg : Nat} (hg : S[mg]? = some (.lst (p.gs.map gD))) (h : GlOk p.gs) (h0 : 0 < p.gs.length) (z : p.keep = "coloured") (hc : p.gs.length ≤ p.sets / 4) (hm : p.sets ≤ 100) (q : ∀ S', Ex S S' → Q (.tup (((List.range p.gs.length).map fun k => frC (p.sets / 4) p.gs.length k (p.gs.getD k (Str.ofString "", 0)).2).map tupN)) S') : wpR (m__law_frames [p.cacheD, .ref mg] S) Q X := by
  have hz : SZ = 16777216 := rfl
  have hl := h.l
  have hcd : p.cacheD = .tup [iN p.sets, .int p.ways, .str "coloured"] := by unfold Pln.cacheD; rw [z]
  rw [hcd]
  clear hcd
  have lg := lt_of_get hg
  have hgT : ∀ T, (S ++ T)[mg]? = some (.lst (p.gs.map gD)) := fun T => by rw [List.getElem?_append_left lg]; exact hg
  unfold m__law_frames
  walk_at "mir"
  unfold b__law_frames
  walk_at "mir"
  rw [hgT]
  walk_at "mir"
  walk_at "side"
  have F : ∀ k, k < p.gs.length → (p.gs.getD k (Str.ofString "", 0)).2 ≤ 1000 := fun k hk => h.m _ (by rw [List.getD_eq_getElem?_getD, List.getElem?_eq_getElem hk]; exact List.getElem_mem hk)
  rw [show (p.sets : Int) / 4 = ((p.sets / 4 : Nat) : Int) by omega]
  generalize p.sets / 4 = col at hc q ⊢
  refine for_rng (n := p.gs.length) (fun i G S' => ∃ g5 g6 g7 T, G = [some (.tup [.int (p.sets : Int), .int p.ways, .str "coloured"]), some (.ref mg), some (.ref S.length), some (.int 0), some (.int (col : Nat)), g5, g6, g7] ∧ S' = S ++ .lst (((List.range i).map fun k => frC col p.gs.length k (p.gs.getD k (Str.ofString "", 0)).2).map tupN) :: T) ⟨none, none, none, [], rfl, rfl⟩ ?_ ?_
  · rintro G S' ⟨g5, g6, g7, T, rfl, rfl⟩
    walk_at "mir"
    exact q _ ⟨_, rfl⟩
  · rintro k G S' hk ⟨g5, g6, g7, T, rfl, rfl⟩
    have ek : atI (p.gs.map gD) (k : Int) = some (.tup [.str (p.gs.getD k (Str.ofString "", 0)).1, iN (p.gs.getD k (Str.ofString "", 0)).2]) := at_map (by rw [List.getD_eq_getElem?_getD, List.getElem?_eq_getElem hk]; rfl)
    have Fk := F k hk
    have fl := frC_len (col := col) (k := k) h0 hc hk (p.gs.getD k (Str.ofString "", 0)).2
    have fb := fr_block (col := col) (k := k) h0 hc hk (p.gs.getD k (Str.ofString "", 0)).2
    have hm0 : (((List.range k).map fun k => frC col p.gs.length k (p.gs.getD k (Str.ofString "", 0)).2).map tupN).length = k := by simp
    generalize hgk : p.gs.getD k (Str.ofString "", 0) = gk at ek Fk fl fb
    refine ⟨_, rfl, ?_⟩
    walk_at "mirs"
    rw [show ∀ A : O, S ++ A :: (T ++ [O.lst []]) = (S ++ A :: T) ++ [O.lst []] from fun A => by simp]
    generalize hA : (((List.range k).map fun k => frC col p.gs.length k (p.gs.getD k (Str.ofString "", 0)).2).map tupN) = A at hm0 ⊢
    have h1 : (S ++ O.lst A :: T)[S.length]? = some (.lst A) := get_app0
    have l1 := lt_of_get h1
    have e1 : ∀ B, (S ++ O.lst A :: T).set S.length (.lst B) = S ++ .lst B :: T := fun B => by simp
    have ln : (S ++ O.lst A :: T).length = S.length + (T.length + 1) := by simp
    rw [← ln]
    have hg1 : ∀ U, (S ++ O.lst A :: T ++ U)[mg]? = some (.lst (p.gs.map gD)) := fun U => by rw [List.append_assoc]; exact hgT _
    generalize hS1 : S ++ O.lst A :: T = S1 at h1 l1 e1 hg1 ⊢
    refine while_inv (n := gk.2 * col) (fun n G S' => ∃ f : Nat, G = [some (.tup [.int (p.sets : Int), .int p.ways, .str "coloured"]), some (.ref mg), some (.ref S.length), some (.int 0), some (.int (col : Nat)), some (.int (k : Nat)), some (.ref S1.length), some (.int f)] ∧ S' = S1 ++ [.lst (((List.range f).filter fun f => decide (f % col % p.gs.length = k)).map iN)] ∧ f + n = gk.2 * col ∧ ((List.range f).filter fun f => decide (f % col % p.gs.length = k)).length ≤ gk.2) ⟨0, rfl, rfl, by omega, Nat.zero_le _⟩ ?_
    rintro n G S' ⟨f, rfl, rfl, hf, hle⟩
    have pre := fun hl => fr_prefix (col := col) (n := p.gs.length) (k := k) (m := gk.2) (f := f) hl (by omega)
    have hs : (List.range (f + 1)).filter (fun f => decide (f % col % p.gs.length = k)) = (List.range f).filter (fun f => decide (f % col % p.gs.length = k)) ++ (if f % col % p.gs.length = k then [f] else []) := by
      rw [List.range_succ, List.filter_append]
      congr 1
      by_cases z : f % col % p.gs.length = k
      · rw [if_pos z, List.filter_cons, if_pos (by rw [decide_eq_true z])]; rfl
      · rw [if_neg z, List.filter_cons, if_neg (by rw [decide_eq_false z]; decide)]; rfl
    have hlt : ((List.range f).filter fun f => decide (f % col % p.gs.length = k)).length < gk.2 → 0 < n := fun z => by
      have : f ≠ gk.2 * col := fun y => by rw [← y] at fb; omega
      omega
    generalize (List.range f).filter (fun f => decide (f % col % p.gs.length = k)) = own at hle pre hs hlt ⊢
    walk_at "mirs"
    refine ⟨fun z => ?_, fun z => ?_⟩
    · have hn := hlt (by omega)
      have ec : ((f : Int) % ((col : Nat) : Int) % ((p.gs.length : Nat) : Int) = (k : Int)) ↔ f % col % p.gs.length = k := by
        rw [← Int.natCast_emod, ← Int.natCast_emod]; omega
      refine ⟨cMod_of (by omega), cMod_of (by omega), fun y => ?_, fun y => ?_⟩
      · rw [if_pos (ec.mp y)] at hs
        refine ⟨by omega, n - 1, by omega, f + 1, rfl, ?_, by omega, ?_⟩
        · rw [hs, List.map_append]; rfl
        · rw [hs, List.length_append, List.length_singleton]; omega
      · rw [if_neg fun z => y (ec.mpr z), List.append_nil] at hs
        refine ⟨n - 1, by omega, f + 1, rfl, ?_, by omega, ?_⟩
        · rw [hs]
        · rw [hs]; omega
    · have eo := pre (by omega)
      refine ⟨by omega, some (.int k), some (.ref S1.length), some (.int f), T ++ [O.lst (own.map iN)], rfl, ?_⟩
      rw [List.range_succ, List.map_append, List.map_append, hA, eo, ← hgk]
      rfl
end

end
section
section
variable {Q : D → Mir.ST → Prop} {X : XQ} {S : Mir.ST} {iw n : Nat} {p : Pln}
theorem lframesR_w {mg : Nat} (hg : S[mg]? = some (.lst (p.gs.map gD))) (h : GlOk p.gs) (h0 : 0 < p.gs.length) (hc : p.keep = "coloured" → p.gs.length ≤ p.sets / 4) (hm : p.sets ≤ 100) (q : ∀ S', Ex S S' → Q (.tup ((frsOf p).map tupN)) S') : wpR (m__law_frames [p.cacheD, .ref mg] S) Q X := by
  unfold frsOf at q
  by_cases z : p.keep = "coloured"
  · rw [if_pos z] at q
    exact lframesCR_w hg h h0 z (hc z) hm q
  · rw [if_neg z] at q
    exact lframesOR_w hg h z hm q
def nmAt (i : Nat) : Str := ["a", "b", "c1", "d_", "e"].getD i "b"
structure GsD (gs : List (Str × Nat)) : Prop where
  o : ∀ g ∈ gs, PyData.strOk g.1 = true
  m : ∀ g ∈ gs, g.2 ≤ 66
end

end
section
section
variable {Q : D → Mir.ST → Prop} {X : XQ} {S S0 : Mir.ST} {iw n : Nat} {p : Pln}
theorem framesO_le : ∀ (l : List (Str × Nat)) (a : Nat), (∀ q ∈ l, q.2 ≤ 1000) → ∀ x ∈ framesO l a, x.length ≤ 1000
  | [], a, _, x, hx => absurd hx List.not_mem_nil
  | (n, m) :: l, a, h, x, hx => by
    have e : framesO ((n, m) :: l) a = (List.range m).map (a + ·) :: framesO l (a + m) := rfl
    rw [e] at hx
    rcases List.mem_cons.mp hx with c | c
    · rw [c, List.length_map, List.length_range]
      exact h (n, m) (List.mem_cons_self ..)
    · exact framesO_le l (a + m) (fun q hq => h q (List.mem_cons_of_mem _ hq)) x c
theorem frs_le (h : GlOk p.gs) : ∀ l ∈ frsOf p, l.length ≤ 1000 := by
  intro l hl
  unfold frsOf at hl
  split at hl
  · obtain ⟨k, hk, rfl⟩ := List.mem_map.mp hl
    have hk := List.mem_range.mp hk
    have := h.m (p.gs.getD k (Str.ofString "", 0)) (by rw [List.getD_eq_getElem?_getD, List.getElem?_eq_getElem hk]; exact List.getElem_mem hk)
    unfold frC
    rw [List.length_take]
    omega
  · exact framesO_le _ _ h.m l hl
theorem max_own (l : List Nat) : ∃ m : Int, ∀ (S : Mir.ST) (Q : D → Mir.ST → Prop) (X : XQ), Q (.int m) S → wpR (bMaxA [.tup (l.map iN ++ [.int 0])] S) Q X := by
  cases l with
  | nil => exact ⟨_, fun S Q X h => by
      show wpR (bMaxA [.tup (((0 : Int) :: []).map D.int)] S) Q X
      rw [r_maxAT]; exact h⟩
  | cons a r => exact ⟨maxI (a : Int) (r.map (fun n : Nat => (n : Int)) ++ [0]), fun S Q X h => by
      have e : (List.map iN (a :: r) ++ [D.int 0]) = (((a : Int) :: (r.map (fun n : Nat => (n : Int)) ++ [0])).map D.int) := by
        simp only [List.map_cons, List.map_append, List.map_map, List.cons_append, List.map_nil]
        rfl
      rw [e, r_maxAT]; exact h⟩
noncomputable def mxO (l : List Nat) : Int := Classical.choose (max_own l)
theorem mxO_w {l : List Nat} {S : Mir.ST} {Q : D → Mir.ST → Prop} {X : XQ} (h : Q (.int (mxO l)) S) : wpR (bMaxA [.tup (l.map iN ++ [.int 0])] S) Q X := Classical.choose_spec (max_own l) S Q X h
/-- the last part of a plan -/
theorem ptail_w {g3 g4 g10 : Option D} {mg mc ms : Nat} {gs : List (Str × Nat)} {sets : Nat} {ways lk t1 t2 t3 t4 : Int} {kp lkp : Str} {ch : List (Str × Str × Int)} {sl : List (Str × Int)} (d : DrawSt S iw n) (f : Fr iw S0 S) (h0 : 0 < gs.length) (h5 : gs.length ≤ 5) (hgs : GsD gs) (hsets : sets ≤ 68) (hch : ch.length ≤ 4) (hsl : sl.length ≤ 6)
    (hg : S[mg]? = some (.lst (gs.map gD))) (hc : S[mc]? = some (.lst (ch.map chD))) (hs : S[ms]? = some (.lst (sl.map slD)))
    (k : ∀ (p : Pln) S', p.ok → DrawSt S' iw n → Fr iw S0 S' → Q p.d S') : Hold (Mir.wpS
 (sSeq (sSet 11 (eOr (e2 mNe (e2 mIx (eV 5) (eC (.int 2))) (eC (.str "coloured"))) (e2 mGe (e2 mFDiv (e2 mIx (eV 5) (eC (.int 0))) (eC (.int 4))) (eV 1))))
 (sSeq (sSet 12 (eIf (tTru (eV 11)) (e2 mAdd (eCall bMaxA (aCons (eLc (iSeq (eFn 2 m__law_frames (aCons (eV 5) (aCons (eV 2) aNil)))) (.nm 13) tYesM (eCall bMaxA (aCons (e2 mAdd (eV 13) (eTup (aCons (eC (.int 0)) aNil))) aNil)) [13]) aNil)) (eC (.int 1))) (eC (.int 50))))
 (sSeq (sSet 12 (eIf (Mir.tNot (tTru (eFn 2 m__law_off (aCons (eV 0) (aCons (eC (.int 8)) aNil))))) (e2 mAdd (eV 12) (eFn 2 m__law_pick (aCons (eV 0) (aCons (eLst (aCons (eC (.int 0)) (aCons (eC (.int 0)) (aCons (eC (.int 1)) (aCons (eC (.int 9)) aNil))))) aNil)))) (eCall bMax2 (aCons (eC (.int 0)) (aCons (e2 mSub (e2 mSub (eV 12) (eC (.int 1))) (eFn 2 m__law_next (aCons (eV 0) (aCons (eC (.int 9)) aNil)))) aNil)))))
 (sRet (eTup (aCons (eC (.str "plan")) (aCons (eV 12) (aCons (eV 5) (aCons (eV 6) (aCons (eV 7) (aCons (eCall bTuple (aCons (eV 2) aNil)) (aCons (eCall bTuple (aCons (eV 8) aNil)) (aCons (eCall bTuple (aCons (eV 9) aNil)) aNil)))))))))))))
 [some (D.ref iw), some (D.int (gs.length : Nat)), some (D.ref mg), g3, g4, some (D.tup [D.int (sets : Nat), D.int ways, D.str kp]), some (D.tup [D.int lk, D.str lkp]), some (D.tup [D.int t1, D.int t2, D.int t3, D.int t4]), some (D.ref mc), some (D.ref ms), g10, none, none, none] S (kFnEnd Q X)) := by
  have hz : SZ = 16777216 := rfl
  rw [hold_eq]
  have gl : GlOk gs := ⟨by omega, fun q hq => by have := hgs.m q hq; omega⟩
  have fr : ∀ (hc : kp = "coloured" → gs.length ≤ sets / 4) (Q' : D → Mir.ST → Prop) (X' : XQ), (∀ (T : Mir.ST) (ls : List (List Nat)), (∀ l ∈ ls, l.length ≤ 1000) → ls ≠ [] → ls.length ≤ 100 → Q' (.tup (ls.map tupN)) (S ++ T)) → wpR (m__law_frames [D.tup [D.int (sets : Nat), D.int ways, D.str kp], D.ref mg] S) Q' X' := fun hc Q' X' h => by
    refine lframesR_w (p := { mem := 0, sets := sets, ways := ways, keep := kp, look := lk, lkeep := lkp, hit := t1, miss := t2, lk := t3, fault := t4, gs := gs, ch := [], sl := [] }) hg gl h0 hc (by show sets ≤ 100; omega) fun S' e => ?_
    obtain ⟨T, rfl⟩ := e
    have ln := frs_len { mem := 0, sets := sets, ways := ways, keep := kp, look := lk, lkeep := lkp, hit := t1, miss := t2, lk := t3, fault := t4, gs := gs, ch := [], sl := [] }
    refine h T _ (frs_le gl) (fun e => ?_) ?_
    · rw [e] at ln
      have : 0 = gs.length := ln
      omega
    · rw [ln]
      show gs.length ≤ 100
      omega
  have g1 := hg
  have g2 := hc
  have g3 := hs
  clear hg hc hs
  walk_at "mir"
  refine ⟨fun c1 => ?_, fun c1 => ?_⟩
  rotate_left
  refine And.intro (fun c2 => ?_) (fun c2 => ?_)
  rotate_left
  focus
    have d2 := d
    have F2 := f
    generalize (50 : Int) = mem
  rotate_left
  focus
    refine fr (fun e => absurd e c1) _ _ fun T ls h1 h2 h3 => ?_
    walk_at "mir"
    refine lc_map ls tupN (fun _ => true) (fun l => .int (mxO l)) rfl (fun _ => True.intro) (by omega) (fun l hl acc => ⟨_, rfl, ?_⟩) ?_
    · have hl2 := h1 l hl
      unfold tupN
      walk_at "mir"
      exact ⟨by omega, mxO_w ⟨rfl, rfl⟩⟩
    rw [List.filter_eq_self.mpr (fun _ _ => rfl)]
    have hls : ∃ x ns, ls.map (fun l => D.int (mxO l)) = (x :: ns).map D.int := by
      cases ls with
      | nil => exact absurd rfl h2
      | cons a r => exact ⟨mxO a, r.map mxO, by simp only [List.map_cons, List.map_map]; rfl⟩
    refine hls.elim fun x hx => hx.elim fun ns hns => ?_
    rw [hns]
    have d2 := (d.app T).app [O.lst ((x :: ns).map D.int)]
    have F2 := (f.trans (Fr.app iw S T)).trans (Fr.app iw _ [O.lst ((x :: ns).map D.int)])
    have e2 : (S ++ T ++ [O.lst ((x :: ns).map D.int)])[(S ++ T).length]? = some (.lst ((x :: ns).map D.int)) := get_app0
    have g1 := ((Fr.app iw S T).trans (Fr.app iw _ [O.lst ((x :: ns).map D.int)])).get (neIw d g1) g1
    have g2 := ((Fr.app iw S T).trans (Fr.app iw _ [O.lst ((x :: ns).map D.int)])).get (neIw d g2) g2
    have g3 := ((Fr.app iw S T).trans (Fr.app iw _ [O.lst ((x :: ns).map D.int)])).get (neIw d g3) g3
    rw [kC1_eq, wp_aNil, kC2_eq, k1_eq, r_maxAR]
    refine r_max1R e2 ?_
    generalize S ++ T ++ [O.lst ((x :: ns).map D.int)] = S2 at *
    walk_at "mir"
    generalize maxI x ns + 1 = mem
    clear e2 hns hx hls
  rotate_left
  focus
    refine fr (fun _ => by omega) _ _ fun T ls h1 h2 h3 => ?_
    walk_at "mir"
    refine lc_map ls tupN (fun _ => true) (fun l => .int (mxO l)) rfl (fun _ => True.intro) (by omega) (fun l hl acc => ⟨_, rfl, ?_⟩) ?_
    · have hl2 := h1 l hl
      unfold tupN
      walk_at "mir"
      exact ⟨by omega, mxO_w ⟨rfl, rfl⟩⟩
    rw [List.filter_eq_self.mpr (fun _ _ => rfl)]
    have hls : ∃ x ns, ls.map (fun l => D.int (mxO l)) = (x :: ns).map D.int := by
      cases ls with
      | nil => exact absurd rfl h2
      | cons a r => exact ⟨mxO a, r.map mxO, by simp only [List.map_cons, List.map_map]; rfl⟩
    refine hls.elim fun x hx => hx.elim fun ns hns => ?_
    rw [hns]
    have d2 := (d.app T).app [O.lst ((x :: ns).map D.int)]
    have F2 := (f.trans (Fr.app iw S T)).trans (Fr.app iw _ [O.lst ((x :: ns).map D.int)])
    have e2 : (S ++ T ++ [O.lst ((x :: ns).map D.int)])[(S ++ T).length]? = some (.lst ((x :: ns).map D.int)) := get_app0
    have g1 := ((Fr.app iw S T).trans (Fr.app iw _ [O.lst ((x :: ns).map D.int)])).get (neIw d g1) g1
    have g2 := ((Fr.app iw S T).trans (Fr.app iw _ [O.lst ((x :: ns).map D.int)])).get (neIw d g2) g2
    have g3 := ((Fr.app iw S T).trans (Fr.app iw _ [O.lst ((x :: ns).map D.int)])).get (neIw d g3) g3
    rw [kC1_eq, wp_aNil, kC2_eq, k1_eq, r_maxAR]
    refine r_max1R e2 ?_
    generalize S ++ T ++ [O.lst ((x :: ns).map D.int)] = S2 at *
    walk_at "mir"
    generalize maxI x ns + 1 = mem
    clear e2 hns hx hls
  all_goals
    have q := fun (mem : Int) => k { mem := mem, sets := sets, ways := ways, keep := kp, look := lk, lkeep := lkp, hit := t1, miss := t2, lk := t3, fault := t4, gs := gs, ch := ch, sl := sl }
    have pk : ∀ mem : Int, Pln.ok { mem := mem, sets := sets, ways := ways, keep := kp, look := lk, lkeep := lkp, hit := t1, miss := t2, lk := t3, fault := t4, gs := gs, ch := ch, sl := sl } := fun mem => ⟨h0, h5, by show ch.length ≤ 10; omega, by show sl.length ≤ 10; omega⟩
    replace q := fun (mem : Int) S' => q mem S' (pk mem)
    have l1 : (gs.map gD).length ≤ SZ := by rw [List.length_map]; omega
    have l2 : (ch.map chD).length ≤ SZ := by rw [List.length_map]; omega
    have l3 : (sl.map slD).length ≤ SZ := by rw [List.length_map]; omega
    clear k pk fr gl
    refine off_w d2 (odds := 8) (by decide) fun b S3 d3 f3 => ?_
    have g1' := f3.get (neIw d2 g1) g1
    have g2' := f3.get (neIw d2 g2) g2
    have g3' := f3.get (neIw d2 g3) g3
    have F3 := F2.trans f3
    clear f3
    cases b with
    | false =>
      walk_at "mir"
      refine intp_w d3 (by simp) (fun v hv => by
        simp only [List.mem_cons, List.not_mem_nil, or_false] at hv
        rcases hv with rfl | rfl | rfl | rfl <;> exact ⟨_, rfl⟩) fun i S4 d4 f4 => ?_
      have e1 := f4.get (neIw d3 g1') g1'
      have e2 := f4.get (neIw d3 g2') g2'
      have e3 := f4.get (neIw d3 g3') g3'
      have qq := q (mem + i) S4 d4 (F3.trans f4)
      clear q
      walk_at "mir"
      rw [e1, kLsO_lst, e2, kLsO_lst, e3, kLsO_lst]
      exact qq
    | true =>
      walk_at "mir"
      refine nextN_w d3 (many := 9) rfl (by decide) fun i S4 _ d4 f4 => ?_
      have e1 := f4.get (neIw d3 g1') g1'
      have e2 := f4.get (neIw d3 g2') g2'
      have e3 := f4.get (neIw d3 g3') g3'
      walk_at "mir"
      have qq := q (max 0 (mem - 1 - (i : Int))) S4 d4 (F3.trans f4)
      generalize max 0 (mem - 1 - (i : Int)) = mm at qq ⊢
      clear q
      rw [e1, kLsO_lst, e2, kLsO_lst, e3, kLsO_lst]
      exact qq
end

end
section
section
variable {Q : D → Mir.ST → Prop} {X : XQ} {S : Mir.ST} {iw n : Nat} {p : Pln}
set_option maxHeartbeats 2000000 in
theorem lplan_w (d : DrawSt S iw n) (k : ∀ (p : Pln) S', p.ok → DrawSt S' iw n → Fr iw S S' → Q p.d S') : wpR (m__law_plan [.ref iw] S) Q X := by
  have hz : SZ = 16777216 := rfl
  unfold m__law_plan
  walk_at "mir"
  unfold b__law_plan
  walk_at "mir"
  refine nextN_w d (many := 5) rfl (by decide) fun a S1 ha d1 f1 => ?_
  walk_at "mir"
  rw [show (1 + (a : Int)).toNat = a + 1 by omega, show (1 + (a : Int)) = ((a + 1 : Nat) : Int) by omega]
  generalize hmany : a + 1 = many
  have m1 : 1 ≤ many := by omega
  have m5 : many ≤ 5 := by omega
  clear hmany ha
  walk_at "side"
  refine for_rng (n := many) (fun i G S' => ∃ gs : List (Str × Nat), ∃ g3 g4 : Option D, G = [some (.ref iw), some (.int many), some (.ref S1.length), g3, g4, none, none, none, none, none, none, none, none, none] ∧ gs.length = i ∧ GsD gs ∧ DrawSt S' iw n ∧ Fr iw S S' ∧ S'[S1.length]? = some (.lst (gs.map gD))) ⟨[], none, none, rfl, rfl, ⟨fun _ h => absurd h List.not_mem_nil, fun _ h => absurd h List.not_mem_nil⟩, d1.app [.lst []], f1.trans (.app _ _ [.lst []]), get_app0 (T := [O.lst []])⟩ ?_ ?_
  · rintro G S2 ⟨gs, g3, g4, rfl, gl, gok, d2, f2, g2⟩
    have nI := neIw d2 g2
    have nN : S1.length ≠ n := by have := d1.ln; omega
    have h0 : 0 < gs.length := by omega
    have h5 : gs.length ≤ 5 := by omega
    generalize S1.length = mg at *
    clear d d1 f1
    walk_at "mir"
    refine lcache_draw d2 (many := many) m5 fun sets ways kp S3 hsets d3 f3 => ?_
    have g3' := f3.get nI g2
    have F3 := f2.trans f3
    clear g2 f2 f3 d2
    walk_at "mir"
    refine off_w d3 (odds := 14) (by decide) fun b S4 d4 f4 => ?_
    cases b
    case' false =>
      walk_at "mir"
      refine nextN_w d4 (many := 16) rfl (by decide) fun lk S5 _ d5 f5 => ?_
      walk_at "mir"
      generalize (1 + (lk : Int)) = lk at *
    case' true =>
      walk_at "mir"
      refine intp_w d4 (by simp) (fun v hv => by
        simp only [List.mem_cons, List.not_mem_nil, or_false] at hv
        rcases hv with rfl | rfl <;> exact ⟨_, rfl⟩) fun lk S5 d5 f5 => ?_
      walk_at "mir"
    all_goals
      have F5 := F3.trans (f4.trans f5)
      have g5 := (f4.trans f5).get nI g3'
      clear F3 f4 f5 g3' d3 d4
      refine npick_w d5 (by simp) fun v S6 hv d6 f6 => ?_
      have hv : ∃ z : Str, v = .str z := by
        simp only [List.mem_cons, List.not_mem_nil, or_false] at hv
        rcases hv with rfl | rfl <;> exact ⟨_, rfl⟩
      obtain ⟨lkp, rfl⟩ := hv
      walk_at "mir"
      refine lticks_draw d6 fun t1 t2 t3 t4 S7 d7 f7 => ?_
      have F7 := F5.trans (f6.trans f7)
      have g7 := (f6.trans f7).get nI g5
      clear F5 f6 f7 g5 d5 d6
      have hw : ∃ (a : Int × Bool), S7[iw]? = some (.dk [(.inr "draws", .ref n), (.inr "at", .int a.1), (.inr "wrong", .bl a.2)]) := by
        obtain ⟨_, a, _, h, _⟩ := d7
        exact ⟨a, h⟩
      obtain ⟨⟨aw, bw⟩, hw⟩ := hw
      have hb : bw = true ∨ bw = false := by cases bw <;> simp
      walk_at "mirs"
      refine And.intro (fun c1 => ?_) (fun c1 => ?_)
      rotate_left
      cases bw
      focus
        walk_at "mir"
        have d8 := d7
        have F8 := F7
        have g8 := g7
      rotate_left
      focus
        walk_at "mir"
        refine nextN_w d7 (many := 5) rfl (by decide) fun cnt S8 hcnt d8 f8 => ?_
        have F8 := F7.trans f8
        have g8 := f8.get nI g7
      rotate_left
      focus
        refine nextN_w d7 (many := 5) rfl (by decide) fun cnt S8 hcnt d8 f8 => ?_
        have F8 := F7.trans f8
        have g8 := f8.get nI g7
      all_goals
        try walk_at "mir"
        walk_at "side"
        generalize hds : rngD 0 1 _ = ds
        replace hds : ds.length ≤ 4 := by
          rw [← hds, rngD_len]
          first | omega | decide
        clear hw hb c1 d7 F7 g7
        refine lc_draw (fun v => ∃ c, v = chD c) d8 rfl (by show ds.length < SZ; omega) (fun x S' hx d' f' => ⟨_, rfl, ?_⟩) fun vs S9 hvl hv d9 f9 h9 => ?_
        · walk_at "mir"
          exact lchannel_draw d' (f'.get nI g8) h0 h5 gok.o fun c S2' d2' f2' => ⟨⟨c, rfl⟩, d2', f2'⟩
        have g9 := f9.get nI g8
        have F9 := F8.trans f9
        have hvc : ∃ ch : List (Str × Str × Int), vs = ch.map chD := by
          clear h9 hvl
          induction vs with
          | nil => exact ⟨[], rfl⟩
          | cons v vs ih =>
            obtain ⟨c, rfl⟩ := hv v (List.mem_cons_self ..)
            obtain ⟨ch, rfl⟩ := ih fun u hu => hv u (List.mem_cons_of_mem _ hu)
            exact ⟨c :: ch, rfl⟩
        obtain ⟨ch, rfl⟩ := hvc
        replace hvl : ch.length ≤ 4 := by
          rw [List.length_map] at hvl
          rw [hvl]; exact hds
        have nI9 := neIw d9 h9
        have lt9 := lt_of_get h9
        generalize (List.length _) = mc at h9 nI9 lt9 ⊢
        clear F8 f9 d8 g8 hv hds
        skip
        walk_at "mir"
        have d10 := d9.app [O.lst []]
        have F10 := F9.trans (Fr.app iw S9 [O.lst []])
        have g10 := (Fr.app iw S9 [O.lst []]).get nI g9
        have h10 := (Fr.app iw S9 [O.lst []]).get nI9 h9
        have s10 : (S9 ++ [O.lst []])[S9.length]? = some (.lst (([] : List (Str × Int)).map slD)) := get_app0 (T := [O.lst []])
        have nS : S9.length ≠ iw := by have := d9.lw; omega
        have nSn : S9.length ≠ n := by have := d9.ln; omega
        have lgm := lt_of_get g9
        have nSg : mg ≠ S9.length := by omega
        have nSc : mc ≠ S9.length := by omega
        have nSS : S.length ≤ S9.length := F9.le
        generalize S9.length = ms at *
        generalize S9 ++ [O.lst []] = S10 at *
        clear d9 F9 g9 h9 lt9
        refine nextN_w d10 (many := 6) rfl (by decide) fun cnt S11 hcnt d11 f11 => ?_
        have F11 := F10.trans f11
        have g11 := f11.get nI g10
        have h11 := f11.get nI9 h10
        have s11 := f11.get nS s10
        clear f11 F10 d10 g10 h10 s10
        walk_at "mir"
        rw [show (1 + (cnt : Int)).toNat = cnt + 1 by omega, show (1 + (cnt : Int)) = ((cnt + 1 : Nat) : Int) by omega]
        generalize hm6 : cnt + 1 = m6
        have m6l : m6 ≤ 6 := by omega
        clear hm6 hcnt
        walk_at "side"
        refine for_rng (n := m6) (fun i G S' => ∃ sl : List (Str × Int), ∃ g3 g10 : Option D, G = [some (.ref iw), some (.int many), some (.ref mg), g3, g4, some (D.tup [D.int (sets : Nat), D.int ways, D.str kp]), some (D.tup [D.int lk, D.str lkp]), some (D.tup [D.int t1, D.int t2, D.int t3, D.int t4]), some (.ref mc), some (.ref ms), g10, none, none, none] ∧ sl.length = i ∧ DrawSt S' iw n ∧ Fr iw S S' ∧ S'[mg]? = some (.lst (gs.map gD)) ∧ S'[mc]? = some (.lst (ch.map chD)) ∧ S'[ms]? = some (.lst (sl.map slD))) ⟨[], _, _, rfl, rfl, d11, F11, g11, h11, s11⟩ ?_ ?_
        · rintro G S12 ⟨sl, g3, g10, rfl, hsl, d12, F12, g12, h12, s12⟩
          have := ptail_w (Q := Q) (X := X) (g3 := g3) (g4 := g4) (g10 := g10) (mg := mg) (mc := mc) (ms := ms) (gs := gs) (sets := sets) (ways := ways) (lk := lk) (t1 := t1) (t2 := t2) (t3 := t3) (t4 := t4) (kp := kp) (lkp := lkp) (ch := ch) (sl := sl) d12 F12 h0 h5 gok hsets hvl (by omega) g12 h12 s12 k
          rw [hold_eq, gl] at this
          exact this
        · rintro i G S12 hi ⟨sl, g3, g10, rfl, hsl, d12, F12, g12, h12, s12⟩
          refine ⟨_, rfl, ?_⟩
          walk_at "mir"
          refine nextN_w d12 (many := 8) rfl (by decide) fun tu S13 _ d13 f13 => ?_
          walk_at "mir"
          have lw : ∀ (S' : Mir.ST) (Q' : D → Mir.ST → Prop) (X' : XQ), (∀ W : Int, Q' (.int W) S') → wpR (m__law_worst [D.tup [D.int t1, D.int t2, D.int t3, D.int t4]] S') Q' X' := fun S' Q' X' h => lworst_w (p := { mem := 0, sets := sets, ways := ways, keep := kp, look := lk, lkeep := lkp, hit := t1, miss := t2, lk := t3, fault := t4, gs := gs, ch := ch, sl := sl }) (h _)
          have F13 := F12.trans f13
          have g13 := f13.get nI g12
          have h13 := f13.get nI9 h12
          have s13 := f13.get nS s12
          clear f13 F12 d12 g12 h12 s12 F11 d11 g11 h11 s11
          refine And.intro (fun c3 => ?_) (fun c3 => ?_)
          focus
            refine lw _ _ _ fun W => ?_
            walk_at "mir"
            refine intp_w d13 (by simp) (fun v hv => by
              simp only [List.mem_cons, List.not_mem_nil, or_false] at hv
              rcases hv with rfl | rfl | rfl | rfl <;> exact ⟨_, rfl⟩) fun v S14 d14 f14 => ?_
            have F14 := F13.trans f14
            have g14 := f14.get nI g13
            have h14 := f14.get nI9 h13
            have s14 := f14.get nS s13
            walk_at "mir"
            generalize W + v = len at *
            clear f14
          rotate_left
          focus
            have d14 := d13
            have F14 := F13
            have g14 := g13
            have h14 := h13
            have s14 := s13
            generalize hle : (1000000 : Int) = len at *
            clear hle
          all_goals
            clear F13 g13 h13 s13 d13 c3
            rw [s14]
            refine ⟨rfl, ?_⟩
            refine a_guest_w d14 g14 h0 fun z S15 d15 f15 => ?_
            have F15 := F14.trans f15
            have g15 := f15.get nI g14
            have h15 := f15.get nI9 h14
            have s15 := f15.get nS s14
            clear F14 g14 h14 s14 f15 d14
            walk_at "mir"
            refine off_w d15 (odds := 12) (by decide) fun b S16 d16 f16 => ?_
            have F16 := F15.trans f16
            have g16 := f16.get nI g15
            have h16 := f16.get nI9 h15
            have s16 := f16.get nS s15
            clear F15 g15 h15 s15 f16 d15
            cases b
            focus
              walk_at "mir"
              have d17 := d16
              have F17 := F16
              have g17 := g16
              have h17 := h16
              have s17 := s16
            rotate_left
            focus
              walk_at "mir"
              refine lw _ _ _ fun W => ?_
              walk_at "mir"
              refine intp_w d16 (by simp) (fun v hv => by
                simp only [List.mem_cons, List.not_mem_nil, or_false] at hv
                rcases hv with rfl | rfl <;> exact ⟨_, rfl⟩) fun len S17 d17 f17 => ?_
              have F17 := F16.trans f17
              have g17 := f17.get nI g16
              have h17 := f17.get nI9 h16
              have s17 := f17.get nS s16
              walk_at "mir"
            all_goals
              rw [s17]
              walk_at "mir"
              refine ⟨by omega, sl ++ [(z, len)], _, _, rfl, by rw [List.length_append]; simp [hsl], d17.put nS nSn, ?_, ?_, ?_, ?_⟩
              · exact ⟨by rw [List.length_set]; exact F17.le, fun j h1 h2 => by rw [set_get' (by omega)]; exact F17.eq j h1 h2⟩
              · rw [set_get' (Ne.symm nSg)]; exact g17
              · rw [set_get' (Ne.symm nSc)]; exact h17
              · rw [set_same (lt_of_get s17), List.map_append]; rfl
  · rintro i G S2 hi ⟨gs, g3, g4, rfl, gl, gok, d2, f2, g2⟩
    refine ⟨_, rfl, ?_⟩
    have g2lt := lt_of_get g2
    have nI := neIw d2 g2
    have nN : S1.length ≠ n := by have := d1.ln; omega
    walk_at "mir"
    have ap : ∀ (nm : Str) (m : Nat) S5, PyData.strOk nm = true → m ≤ 66 → DrawSt S5 iw n → Fr iw S S5 → S5[S1.length]? = some (.lst (gs.map gD)) → ∃ gs', ∃ g3 g4 : Option D, [some (D.ref iw), some (D.int many), some (D.ref S1.length), some (D.int (i : Int)), some (D.str nm), none, none, none, none, none, none, none, none, none] = [some (.ref iw), some (.int many), some (.ref S1.length), g3, g4, none, none, none, none, none, none, none, none, none] ∧ gs'.length = i + 1 ∧ GsD gs' ∧ DrawSt (S5.set S1.length (.lst (gs.map gD ++ [.tup [.str nm, .int m]]))) iw n ∧ Fr iw S (S5.set S1.length (.lst (gs.map gD ++ [.tup [.str nm, .int m]]))) ∧ (S5.set S1.length (.lst (gs.map gD ++ [.tup [.str nm, .int m]])))[S1.length]? = some (.lst (gs'.map gD)) := fun nm m S5 hn hm d5 f5 g5 => by
      refine ⟨gs ++ [(nm, m)], _, _, rfl, by rw [List.length_append]; simp [gl], ⟨fun g hg => ?_, fun g hg => ?_⟩, d5.put nI nN, ?_, ?_⟩
      · rcases List.mem_append.mp hg with c | c
        · exact gok.o g c
        · rw [List.mem_singleton.mp c]; exact hn
      · rcases List.mem_append.mp hg with c | c
        · exact gok.m g c
        · rw [List.mem_singleton.mp c]; exact hm
      · have l1 := f1.le
        exact ⟨by rw [List.length_set]; exact f5.le, fun j h1 h2 => by rw [set_get' (by omega)]; exact f5.eq j h1 h2⟩
      · rw [set_same (lt_of_get g5), List.map_append]; rfl
    have glz : gs.length < SZ := by omega
    refine off_w d2 (odds := 45) (by decide) fun b S3 d3 f3 => ?_
    have g3' := f3.get nI g2
    have F3 := f2.trans f3
    cases b
    case' false =>
      walk_at "mir"
      have hnm : ∃ nm, PyData.strOk nm = true ∧ atI [D.str (Str.ofString "a"), D.str (Str.ofString "b"), D.str (Str.ofString "c1"), D.str (Str.ofString "d_"), D.str (Str.ofString "e")] (i : Int) = some (.str nm) := by
        match i, (show i < 5 by omega) with
        | 0, _ => exact ⟨_, by decide +kernel, rfl⟩
        | 1, _ => exact ⟨_, by decide +kernel, rfl⟩
        | 2, _ => exact ⟨_, by decide +kernel, rfl⟩
        | 3, _ => exact ⟨_, by decide +kernel, rfl⟩
        | 4, _ => exact ⟨_, by decide +kernel, rfl⟩
        | j + 5, h => exact absurd h (by omega)
      obtain ⟨nm, hnm, enm⟩ := hnm
      rw [enm]
      have d4 := d3.app [O.lst [D.str (Str.ofString "a"), D.str (Str.ofString "b"), D.str (Str.ofString "c1"), D.str (Str.ofString "d_"), D.str (Str.ofString "e")]]
      have F4 := F3.trans (Fr.app iw S3 [O.lst [D.str (Str.ofString "a"), D.str (Str.ofString "b"), D.str (Str.ofString "c1"), D.str (Str.ofString "d_"), D.str (Str.ofString "e")]])
      have g4' := (Fr.app iw S3 [O.lst [D.str (Str.ofString "a"), D.str (Str.ofString "b"), D.str (Str.ofString "c1"), D.str (Str.ofString "d_"), D.str (Str.ofString "e")]]).get nI g3'
      generalize S3 ++ [O.lst [D.str (Str.ofString "a"), D.str (Str.ofString "b"), D.str (Str.ofString "c1"), D.str (Str.ofString "d_"), D.str (Str.ofString "e")]] = S4 at *
      replace ap := ap nm
      clear enm
    case' true =>
      have d4 := d3
      have F4 := F3
      have g4' := g3'
      have hnm : PyData.strOk (Str.ofString "b") = true := by decide +kernel
      replace ap := ap (Str.ofString "b")
    all_goals
      clear d3 F3 g3' f3 d2 f2 g2
      walk_at "mir"
      rw [g4']
      refine ⟨rfl, ?_⟩
      refine off_w d4 (odds := 15) (by decide) fun b S5 d5 f5 => ?_
      have g5 := f5.get nI g4'
      have F5 := F4.trans f5
      clear d4 F4 g4' f5
      cases b
      case' false =>
        walk_at "mir"
        refine nextN_w d5 (many := 5) rfl (by decide) fun m S6 hm d6 f6 => ?_
        walk_at "mir"
        rw [show (2 + (m : Int)) = ((2 + m : Nat) : Int) by omega]
        have hm : 2 + m ≤ 66 := by omega
        generalize 2 + m = m at hm
      case' true =>
        walk_at "mir"
        refine npick_w d5 (by simp) fun v S6 hv d6 f6 => ?_
        have hv : ∃ m : Nat, m ≤ 66 ∧ v = .int m := by
          simp only [List.mem_cons, List.not_mem_nil, or_false] at hv
          rcases hv with rfl | rfl | rfl | rfl | rfl
          · exact ⟨1, by decide, rfl⟩
          · exact ⟨0, by decide, rfl⟩
          · exact ⟨65, by decide, rfl⟩
          · exact ⟨64, by decide, rfl⟩
          · exact ⟨66, by decide, rfl⟩
        obtain ⟨m, hm, rfl⟩ := hv
        walk_at "mir"
      all_goals
        have g6 := f6.get nI g5
        have F6 := F5.trans f6
        have q := ap m S6 hnm hm d6 F6 g6
        clear ap
        rw [g6]
        walk_at "mir"
        exact ⟨glz, q⟩
end

end
section
/-! ### the law -/
theorem chk_fine {p : Pln} (h : chk p = none) : Fine p := by
  unfold chk at h
  cases e1 : nameErr p with
  | some z => rw [e1] at h; cases h
  | none =>
    rw [e1] at h
    cases e2 : roomErr p with
    | some z => rw [e2] at h; cases h
    | none =>
      rw [e2] at h
      cases e3 : cacheOk p with
      | false => rw [e3] at h; cases h
      | true => exact fine_of e2 e3
theorem sh_err (e : Option (Str × Str)) : Sh 40 (errD e) := by
  cases e with
  | none => trivial
  | some e =>
    obtain ⟨a, b⟩ := e
    refine sh_tup (fun d hd => ?_) (by unfold SZ; simp)
    simp only [List.mem_cons, List.not_mem_nil, or_false] at hd
    rcases hd with rfl | rfl <;> trivial
theorem DrawSt.wrong {S : Mir.ST} {iw n : Nat} (d : DrawSt S iw n) : ∃ a b, S[iw]? = some (.dk [(.inr "draws", .ref n), (.inr "at", .int a), (.inr "wrong", .bl b)]) ∧ ∀ b', DrawSt (S.set iw (.dk [(.inr "draws", .ref n), (.inr "at", .int a), (.inr "wrong", .bl b')])) iw n := by
  obtain ⟨ne, ⟨a, b⟩, xs, h1, h2, h3, h4, h5⟩ := d
  exact ⟨a, b, h1, fun b' => ⟨ne, (a, b'), xs, set_same (lt_of_get h1), by rw [set_get' ne]; exact h2, h3, h4, h5⟩⟩
theorem sh_frs {p : Pln} (f : Fine p) (g : p.ok) : Sh 40 (.tup ((frsOf p).map tupN)) := by
  have g5 := g.g5
  have hz : SZ = 16777216 := rfl
  have gl : GlOk p.gs := ⟨by omega, fun q hq => by have := f.many q hq; omega⟩
  refine sh_tup (fun d hd => ?_) (by rw [List.length_map, frs_len]; omega)
  obtain ⟨l, hl, rfl⟩ := List.mem_map.mp hd
  have := frs_le gl l hl
  refine sh_tup (fun d hd => ?_) (by rw [List.length_map]; omega)
  obtain ⟨x, hx, rfl⟩ := List.mem_map.mp hd
  trivial
theorem law_true (ns : List Int) (hns : ns.length ≤ 63) : ∃ S', m_law [.fl (ns.map D.int)] [] = .ok (.bl true) S' := by
  suffices h : wpR (m_law [.fl (ns.map D.int)] []) (fun r S' => r = .bl true) (fun _ _ _ => False) by
    obtain ⟨r, S', e, q⟩ := wpR_eq h
    subst q
    exact ⟨S', e⟩
  unfold m_law
  walk_at "mir"
  unfold b_law
  walk_at "mir"
  obtain ⟨n, xs, S1, e1, h1, hx, hl, hn, T, hT⟩ := draws_ok ns hns 700 (by decide) [.dk []]
  refine wpR_of ⟨_, _, e1, ?_⟩
  rw [hT] at h1 ⊢
  walk_at "mir"
  have d0 : DrawSt (O.dk [(Sum.inr (Str.ofString "draws"), D.ref n), (Sum.inr (Str.ofString "at"), D.int 0), (Sum.inr (Str.ofString "wrong"), D.bl false)] :: T) 0 n := by
    obtain ⟨m, rfl⟩ : ∃ m, n = m + 1 := ⟨n - 1, by have : 1 ≤ n := hn; omega⟩
    exact ⟨by omega, (0, false), xs, rfl, h1, Int.le_refl _, hx, hl⟩
  generalize O.dk [(Sum.inr (Str.ofString "draws"), D.ref n), (Sum.inr (Str.ofString "at"), D.int 0), (Sum.inr (Str.ofString "wrong"), D.bl false)] :: T = S2 at d0 ⊢
  clear h1 hT e1 hx hl hn xs T S1
  walk_at "side"
  refine for_rng (n := 8) (fun i G S' => ∃ g2 g3 g4 : Option D, G = [some (.fl (ns.map D.int)), some (.ref 0), g2, g3, g4] ∧ DrawSt S' 0 n) ⟨_, _, _, rfl, d0⟩ ?_ ?_
  · rintro G S' ⟨g2, g3, g4, rfl, d⟩
    walk_at "mir"
  · rintro i G S' hi ⟨g2, g3, g4, rfl, d⟩
    refine ⟨_, rfl, ?_⟩
    obtain ⟨a, b, h1, h2⟩ := d.wrong
    walk_at "mir"
    rw [h1]
    walk_at "mir"
    replace h2 := h2 (decide ((1 : Int) < (i : Int)))
    clear d
    refine lplan_w h2 fun p S3 hp d3 _ => ?_
    clear h1 h2
    walk_at "mir"
    refine due_w hp fun S4 e4 => ?_
    have d4 : DrawSt S4 0 n := e4.use (P := fun S => DrawSt S 0 n) fun T => d3.app T
    walk_at "mir"
    refine told_w hp fun S5 e5 => ?_
    have d5 : DrawSt S5 0 n := e5.use (P := fun S => DrawSt S 0 n) fun T => d4.app T
    walk_at "mir"
    refine alike_w (sh_err _) fun T => ?_
    have d6 := d5.app T
    generalize S5 ++ T = S6 at d6 ⊢
    clear d3 d4 d5 e4 e5
    cases hc : chk p with
    | some e =>
      rw [show errD (some e) = .tup [.str e.1, .str e.2] from rfl]
      walk_at "mir"
      exact ⟨_, _, _, rfl, d6⟩
    | none =>
      have fi := chk_fine hc
      have g5 := hp.g5
      have gl : GlOk p.gs := ⟨by omega, fun q hq => by have := fi.many q hq; omega⟩
      have hs : p.sets ≤ 100 := by have := fi.sets; omega
      rw [show errD none = .non from rfl]
      have ed : p.d = .tup [.str "plan", .int p.mem, p.cacheD, .tup [.int p.look, .str p.lkeep], p.tickD, .tup (p.gs.map gD), .tup (p.ch.map chD), .tup (p.sl.map slD)] := rfl
      walk_at "mir"
      refine frames_w gl hp.g1 fi.col hs fun S7 e7 => ?_
      have d7 : DrawSt S7 0 n := e7.use (P := fun S => DrawSt S 0 n) fun T => d6.app T
      rw [ed]
      walk_at "mir"
      refine lframes_w gl hp.g1 fi.col hs fun S8 e8 => ?_
      have d8 : DrawSt S8 0 n := e8.use (P := fun S => DrawSt S 0 n) fun T => d7.app T
      clear d6 d7 e7 e8
      walk_at "mir"
      refine alike_w (sh_frs fi hp) fun T => ?_
      have d9 := d8.app T
      generalize S8 ++ T = S9 at d9 ⊢
      walk_at "mir"
      refine worst_w ?_
      walk_at "mir"
      refine lworst_w ?_
      walk_at "mir"
      refine alike_w (by trivial) fun T => ?_
      walk_at "mir"
      exact ⟨_, _, _, rfl, d9.app T⟩

end
end Pf
namespace Pf
open PySem L2 PyProof.Rows Mir
set_option maxHeartbeats 0 in
theorem all_mk {l : PySem.W.OpenLaw} {w : World} {K : PySem.W.Frag} {h : Heap} {mg : Str → Option Value} {fa C_BadPlan C_WhisperError f_BadPlan___init__ f_law f__law_draws f__law_plan f__law_cache f__law_pick f__law_next f__law_off f__law_ticks f__law_channel f__law_a_guest f__law_worst f__law_frames f__law_due f__law_names_due f__law_rooms_due f__law_is_cache f__law_alike f__law_told f_check_plan f_check_names f_names_of f_check_rooms f_frames_of f_frames_in_order f_frames_by_colours f_colours_of f_is_cache_right f_worst : Addr} (X : K.In h) (G : h.Ns mainGlobals mg) (hfa : mg "law" = some (.ref fa))
    {nmE_BadPlan qE_BadPlan : Str} {NE_BadPlan : Addr} {bsE_BadPlan subE_BadPlan : List Value} {snE_BadPlan : List Str} {abE_BadPlan : Bool} {colE_BadPlan : Option Bool} {ddE_BadPlan : Option Addr} {k0E_BadPlan k1E_BadPlan k2E_BadPlan k3E_BadPlan k5E_BadPlan : Option Value} {od_BadPlan___init__ an_BadPlan___init__ : Option Addr} {sl_BadPlan___init__ : Array (Option Value)} {oc_BadPlan___init__ kV_BadPlan___init__ dc_BadPlan___init__ pm_BadPlan___init__ cd_BadPlan___init__ ct_BadPlan___init__ : Value} {tk_LINES_A_FRAME : Tok} {od_law an_law : Option Addr} {sl_law : Array (Option Value)} {oc_law kV_law dc_law pm_law cd_law ct_law : Value} {od__law_draws an__law_draws : Option Addr} {sl__law_draws : Array (Option Value)} {oc__law_draws kV__law_draws dc__law_draws pm__law_draws cd__law_draws ct__law_draws : Value} {od__law_plan an__law_plan : Option Addr} {sl__law_plan : Array (Option Value)} {oc__law_plan kV__law_plan dc__law_plan pm__law_plan cd__law_plan ct__law_plan : Value} {od__law_cache an__law_cache : Option Addr} {sl__law_cache : Array (Option Value)} {oc__law_cache kV__law_cache dc__law_cache pm__law_cache cd__law_cache ct__law_cache : Value} {od__law_pick an__law_pick : Option Addr} {sl__law_pick : Array (Option Value)} {oc__law_pick kV__law_pick dc__law_pick pm__law_pick cd__law_pick ct__law_pick : Value} {od__law_next an__law_next : Option Addr} {sl__law_next : Array (Option Value)} {oc__law_next kV__law_next dc__law_next pm__law_next cd__law_next ct__law_next : Value} {od__law_off an__law_off : Option Addr} {sl__law_off : Array (Option Value)} {oc__law_off kV__law_off dc__law_off pm__law_off cd__law_off ct__law_off : Value} {od__law_ticks an__law_ticks : Option Addr} {sl__law_ticks : Array (Option Value)} {oc__law_ticks kV__law_ticks dc__law_ticks pm__law_ticks cd__law_ticks ct__law_ticks : Value} {od__law_channel an__law_channel : Option Addr} {sl__law_channel : Array (Option Value)} {oc__law_channel kV__law_channel dc__law_channel pm__law_channel cd__law_channel ct__law_channel : Value} {od__law_a_guest an__law_a_guest : Option Addr} {sl__law_a_guest : Array (Option Value)} {oc__law_a_guest kV__law_a_guest dc__law_a_guest pm__law_a_guest cd__law_a_guest ct__law_a_guest : Value} {od__law_worst an__law_worst : Option Addr} {sl__law_worst : Array (Option Value)} {oc__law_worst kV__law_worst dc__law_worst pm__law_worst cd__law_worst ct__law_worst : Value} {od__law_frames an__law_frames : Option Addr} {sl__law_frames : Array (Option Value)} {oc__law_frames kV__law_frames dc__law_frames pm__law_frames cd__law_frames ct__law_frames : Value} {od__law_due an__law_due : Option Addr} {sl__law_due : Array (Option Value)} {oc__law_due kV__law_due dc__law_due pm__law_due cd__law_due ct__law_due : Value} {od__law_names_due an__law_names_due : Option Addr} {sl__law_names_due : Array (Option Value)} {oc__law_names_due kV__law_names_due dc__law_names_due pm__law_names_due cd__law_names_due ct__law_names_due : Value} {od__law_rooms_due an__law_rooms_due : Option Addr} {sl__law_rooms_due : Array (Option Value)} {oc__law_rooms_due kV__law_rooms_due dc__law_rooms_due pm__law_rooms_due cd__law_rooms_due ct__law_rooms_due : Value} {od__law_is_cache an__law_is_cache : Option Addr} {sl__law_is_cache : Array (Option Value)} {oc__law_is_cache kV__law_is_cache dc__law_is_cache pm__law_is_cache cd__law_is_cache ct__law_is_cache : Value} {od__law_alike an__law_alike : Option Addr} {sl__law_alike : Array (Option Value)} {oc__law_alike kV__law_alike dc__law_alike pm__law_alike cd__law_alike ct__law_alike : Value} {od__law_told an__law_told : Option Addr} {sl__law_told : Array (Option Value)} {oc__law_told kV__law_told dc__law_told pm__law_told cd__law_told ct__law_told : Value} {od_check_plan an_check_plan : Option Addr} {sl_check_plan : Array (Option Value)} {oc_check_plan kV_check_plan dc_check_plan pm_check_plan cd_check_plan ct_check_plan : Value} {od_check_names an_check_names : Option Addr} {sl_check_names : Array (Option Value)} {oc_check_names kV_check_names dc_check_names pm_check_names cd_check_names ct_check_names : Value} {od_names_of an_names_of : Option Addr} {sl_names_of : Array (Option Value)} {oc_names_of kV_names_of dc_names_of pm_names_of cd_names_of ct_names_of : Value} {od_check_rooms an_check_rooms : Option Addr} {sl_check_rooms : Array (Option Value)} {oc_check_rooms kV_check_rooms dc_check_rooms pm_check_rooms cd_check_rooms ct_check_rooms : Value} {od_frames_of an_frames_of : Option Addr} {sl_frames_of : Array (Option Value)} {oc_frames_of kV_frames_of dc_frames_of pm_frames_of cd_frames_of ct_frames_of : Value} {od_frames_in_order an_frames_in_order : Option Addr} {sl_frames_in_order : Array (Option Value)} {oc_frames_in_order kV_frames_in_order dc_frames_in_order pm_frames_in_order cd_frames_in_order ct_frames_in_order : Value} {od_frames_by_colours an_frames_by_colours : Option Addr} {sl_frames_by_colours : Array (Option Value)} {oc_frames_by_colours kV_frames_by_colours dc_frames_by_colours pm_frames_by_colours cd_frames_by_colours ct_frames_by_colours : Value} {od_colours_of an_colours_of : Option Addr} {sl_colours_of : Array (Option Value)} {oc_colours_of kV_colours_of dc_colours_of pm_colours_of cd_colours_of ct_colours_of : Value} {od_is_cache_right an_is_cache_right : Option Addr} {sl_is_cache_right : Array (Option Value)} {oc_is_cache_right kV_is_cache_right dc_is_cache_right pm_is_cache_right cd_is_cache_right ct_is_cache_right : Value} {od_worst an_worst : Option Addr} {sl_worst : Array (Option Value)} {oc_worst kV_worst dc_worst pm_worst cd_worst ct_worst : Value}
    (aC_BadPlan : PySem.W.nsIn K mainGlobals "BadPlan" = some (some (.ref C_BadPlan)))
    (aC_WhisperError : PySem.W.nsIn K mainGlobals "WhisperError" = some (some (.ref C_WhisperError)))
    (eb_BadPlan : PySem.W.subIn K (.ref C_BadPlan) (.type "BaseException") = some true)
    (ety_BadPlan : PySem.W.typeIn K (.ref C_BadPlan) = some (.type "type"))
    (ehd_BadPlan : PySem.W.hasDictIn K C_BadPlan = true)
    (ek_BadPlan : PySem.W.keepIn K (.ref C_BadPlan) = true)
    (ex_BadPlan : K.lookup C_BadPlan = some (excClassObj nmE_BadPlan qE_BadPlan C_BadPlan NE_BadPlan bsE_BadPlan [.ref C_WhisperError, .type "ValueError", .type "Exception", .type "BaseException", .type "object"] true snE_BadPlan subE_BadPlan abE_BadPlan colE_BadPlan ddE_BadPlan k0E_BadPlan k1E_BadPlan k2E_BadPlan k3E_BadPlan k5E_BadPlan "ValueError.__new__"))
    (esa_BadPlan : PySem.W.findIn K (.ref C_BadPlan) "__setattr__" = some (some (.builtin "object.__setattr__")))
    (en_BadPlan_kind : PySem.W.findIn K (.ref C_BadPlan) "kind" = some none)
    (en_BadPlan_name : PySem.W.findIn K (.ref C_BadPlan) "name" = some none)
    (ei_BadPlan : PySem.W.findIn K (.ref C_BadPlan) "__init__" = some (some (.ref f_BadPlan___init__)))
    (it_BadPlan___init__ : PySem.W.typeIn K (.ref f_BadPlan___init__) = some (.type "function"))
    (l_BadPlan___init__ : K.lookup f_BadPlan___init__ = some ⟨oc_BadPlan___init__, od_BadPlan___init__, .func (PySem.W.fnOf "__init__" "BadPlan.__init__" (defArgs (inClass (top 2) 0)) (defBody (inClass (top 2) 0)) (defScope (inClass (top 2) 0)) .none kV_BadPlan___init__ dc_BadPlan___init__ pm_BadPlan___init__ an_BadPlan___init__ cd_BadPlan___init__ ct_BadPlan___init__), sl_BadPlan___init__⟩)
    (c_BadPlan___init__ : PySem.W.codeIn K cd_BadPlan___init__ "BadPlan.__init__" = true)
    (k_BadPlan___init__ : PySem.W.keepIn K (.ref f_BadPlan___init__) = true)
    (ega_BadPlan : PySem.W.findIn K (.ref C_BadPlan) "__getattribute__" = some (some (.builtin "BaseException.__getattribute__")))
    (egg_BadPlan : PySem.W.findIn K (.ref C_BadPlan) "__getattr__" = some none)
    (ecl_BadPlan : PySem.W.findIn K (.ref C_BadPlan) "__class__" = some (some (.builtin "object.__class__")))
    (emr_BadPlan : PySem.W.mroIn K C_BadPlan (.type "object") = some true)
    (eb_WhisperError : PySem.W.subIn K (.ref C_WhisperError) (.type "BaseException") = some true)
    (ety_WhisperError : PySem.W.typeIn K (.ref C_WhisperError) = some (.type "type"))
    (ehd_WhisperError : PySem.W.hasDictIn K C_WhisperError = true)
    (ecn : PySem.W.specialIn K (.builtin "object.__class__") "__get__" = some (some (.builtin "getset_descriptor.__get__")))
    (ect : PySem.W.takesIn K (.builtin "object.__class__") = some true)
    (z_len : PySem.W.nsIn K mainGlobals "len" = some none)
    (z_range : PySem.W.nsIn K mainGlobals "range" = some none)
    (z_int : PySem.W.nsIn K mainGlobals "int" = some none)
    (z_abs : PySem.W.nsIn K mainGlobals "abs" = some none)
    (z_tuple : PySem.W.nsIn K mainGlobals "tuple" = some none)
    (z_max : PySem.W.nsIn K mainGlobals "max" = some none)
    (z_isinstance : PySem.W.nsIn K mainGlobals "isinstance" = some none)
    (z_bool : PySem.W.nsIn K mainGlobals "bool" = some none)
    (z_str : PySem.W.nsIn K mainGlobals "str" = some none)
    (v_LINES_A_FRAME : PySem.W.nsIn K mainGlobals "LINES_A_FRAME" = some (some (.int 4 tk_LINES_A_FRAME)))
    (z_min : PySem.W.nsIn K mainGlobals "min" = some none)
    (es_BadPlan_WhisperError : PySem.W.subIn K (.ref C_BadPlan) (.ref C_WhisperError) = some true)
    (bg_WhisperError : PySem.W.specialIn K (.ref C_WhisperError) "__getattribute__" = some (some (.builtin "type.__getattribute__")))
    (br_WhisperError : PySem.W.readsIn K C_WhisperError (.type "type") = true)
    (bi_WhisperError : PySem.W.findCls K (.ref C_WhisperError) (.type "type") "__init__" = some (.val (.builtin "ValueError.__init__")))
    (a_law : PySem.W.nsIn K mainGlobals "law" = some (some (.ref f_law)))
    (l_law : K.lookup f_law = some ⟨oc_law, od_law, .func (PySem.W.fnOf "law" "law" (defArgs (top 33)) (defBody (top 33)) (defScope (top 33)) .none kV_law dc_law pm_law an_law cd_law ct_law), sl_law⟩)
    (c_law : PySem.W.codeIn K cd_law "law" = true)
    (k_law : PySem.W.keepIn K (.ref f_law) = true)
    (a__law_draws : PySem.W.nsIn K mainGlobals "_law_draws" = some (some (.ref f__law_draws)))
    (l__law_draws : K.lookup f__law_draws = some ⟨oc__law_draws, od__law_draws, .func (PySem.W.fnOf "_law_draws" "_law_draws" (defArgs (top 16)) (defBody (top 16)) (defScope (top 16)) .none kV__law_draws dc__law_draws pm__law_draws an__law_draws cd__law_draws ct__law_draws), sl__law_draws⟩)
    (c__law_draws : PySem.W.codeIn K cd__law_draws "_law_draws" = true)
    (k__law_draws : PySem.W.keepIn K (.ref f__law_draws) = true)
    (a__law_plan : PySem.W.nsIn K mainGlobals "_law_plan" = some (some (.ref f__law_plan)))
    (l__law_plan : K.lookup f__law_plan = some ⟨oc__law_plan, od__law_plan, .func (PySem.W.fnOf "_law_plan" "_law_plan" (defArgs (top 27)) (defBody (top 27)) (defScope (top 27)) .none kV__law_plan dc__law_plan pm__law_plan an__law_plan cd__law_plan ct__law_plan), sl__law_plan⟩)
    (c__law_plan : PySem.W.codeIn K cd__law_plan "_law_plan" = true)
    (k__law_plan : PySem.W.keepIn K (.ref f__law_plan) = true)
    (a__law_cache : PySem.W.nsIn K mainGlobals "_law_cache" = some (some (.ref f__law_cache)))
    (l__law_cache : K.lookup f__law_cache = some ⟨oc__law_cache, od__law_cache, .func (PySem.W.fnOf "_law_cache" "_law_cache" (defArgs (top 26)) (defBody (top 26)) (defScope (top 26)) .none kV__law_cache dc__law_cache pm__law_cache an__law_cache cd__law_cache ct__law_cache), sl__law_cache⟩)
    (c__law_cache : PySem.W.codeIn K cd__law_cache "_law_cache" = true)
    (k__law_cache : PySem.W.keepIn K (.ref f__law_cache) = true)
    (a__law_pick : PySem.W.nsIn K mainGlobals "_law_pick" = some (some (.ref f__law_pick)))
    (l__law_pick : K.lookup f__law_pick = some ⟨oc__law_pick, od__law_pick, .func (PySem.W.fnOf "_law_pick" "_law_pick" (defArgs (top 18)) (defBody (top 18)) (defScope (top 18)) .none kV__law_pick dc__law_pick pm__law_pick an__law_pick cd__law_pick ct__law_pick), sl__law_pick⟩)
    (c__law_pick : PySem.W.codeIn K cd__law_pick "_law_pick" = true)
    (k__law_pick : PySem.W.keepIn K (.ref f__law_pick) = true)
    (a__law_next : PySem.W.nsIn K mainGlobals "_law_next" = some (some (.ref f__law_next)))
    (l__law_next : K.lookup f__law_next = some ⟨oc__law_next, od__law_next, .func (PySem.W.fnOf "_law_next" "_law_next" (defArgs (top 17)) (defBody (top 17)) (defScope (top 17)) .none kV__law_next dc__law_next pm__law_next an__law_next cd__law_next ct__law_next), sl__law_next⟩)
    (c__law_next : PySem.W.codeIn K cd__law_next "_law_next" = true)
    (k__law_next : PySem.W.keepIn K (.ref f__law_next) = true)
    (a__law_off : PySem.W.nsIn K mainGlobals "_law_off" = some (some (.ref f__law_off)))
    (l__law_off : K.lookup f__law_off = some ⟨oc__law_off, od__law_off, .func (PySem.W.fnOf "_law_off" "_law_off" (defArgs (top 22)) (defBody (top 22)) (defScope (top 22)) .none kV__law_off dc__law_off pm__law_off an__law_off cd__law_off ct__law_off), sl__law_off⟩)
    (c__law_off : PySem.W.codeIn K cd__law_off "_law_off" = true)
    (k__law_off : PySem.W.keepIn K (.ref f__law_off) = true)
    (a__law_ticks : PySem.W.nsIn K mainGlobals "_law_ticks" = some (some (.ref f__law_ticks)))
    (l__law_ticks : K.lookup f__law_ticks = some ⟨oc__law_ticks, od__law_ticks, .func (PySem.W.fnOf "_law_ticks" "_law_ticks" (defArgs (top 25)) (defBody (top 25)) (defScope (top 25)) .none kV__law_ticks dc__law_ticks pm__law_ticks an__law_ticks cd__law_ticks ct__law_ticks), sl__law_ticks⟩)
    (c__law_ticks : PySem.W.codeIn K cd__law_ticks "_law_ticks" = true)
    (k__law_ticks : PySem.W.keepIn K (.ref f__law_ticks) = true)
    (a__law_channel : PySem.W.nsIn K mainGlobals "_law_channel" = some (some (.ref f__law_channel)))
    (l__law_channel : K.lookup f__law_channel = some ⟨oc__law_channel, od__law_channel, .func (PySem.W.fnOf "_law_channel" "_law_channel" (defArgs (top 24)) (defBody (top 24)) (defScope (top 24)) .none kV__law_channel dc__law_channel pm__law_channel an__law_channel cd__law_channel ct__law_channel), sl__law_channel⟩)
    (c__law_channel : PySem.W.codeIn K cd__law_channel "_law_channel" = true)
    (k__law_channel : PySem.W.keepIn K (.ref f__law_channel) = true)
    (a__law_a_guest : PySem.W.nsIn K mainGlobals "_law_a_guest" = some (some (.ref f__law_a_guest)))
    (l__law_a_guest : K.lookup f__law_a_guest = some ⟨oc__law_a_guest, od__law_a_guest, .func (PySem.W.fnOf "_law_a_guest" "_law_a_guest" (defArgs (top 23)) (defBody (top 23)) (defScope (top 23)) .none kV__law_a_guest dc__law_a_guest pm__law_a_guest an__law_a_guest cd__law_a_guest ct__law_a_guest), sl__law_a_guest⟩)
    (c__law_a_guest : PySem.W.codeIn K cd__law_a_guest "_law_a_guest" = true)
    (k__law_a_guest : PySem.W.keepIn K (.ref f__law_a_guest) = true)
    (a__law_worst : PySem.W.nsIn K mainGlobals "_law_worst" = some (some (.ref f__law_worst)))
    (l__law_worst : K.lookup f__law_worst = some ⟨oc__law_worst, od__law_worst, .func (PySem.W.fnOf "_law_worst" "_law_worst" (defArgs (top 20)) (defBody (top 20)) (defScope (top 20)) .none kV__law_worst dc__law_worst pm__law_worst an__law_worst cd__law_worst ct__law_worst), sl__law_worst⟩)
    (c__law_worst : PySem.W.codeIn K cd__law_worst "_law_worst" = true)
    (k__law_worst : PySem.W.keepIn K (.ref f__law_worst) = true)
    (a__law_frames : PySem.W.nsIn K mainGlobals "_law_frames" = some (some (.ref f__law_frames)))
    (l__law_frames : K.lookup f__law_frames = some ⟨oc__law_frames, od__law_frames, .func (PySem.W.fnOf "_law_frames" "_law_frames" (defArgs (top 21)) (defBody (top 21)) (defScope (top 21)) .none kV__law_frames dc__law_frames pm__law_frames an__law_frames cd__law_frames ct__law_frames), sl__law_frames⟩)
    (c__law_frames : PySem.W.codeIn K cd__law_frames "_law_frames" = true)
    (k__law_frames : PySem.W.keepIn K (.ref f__law_frames) = true)
    (a__law_due : PySem.W.nsIn K mainGlobals "_law_due" = some (some (.ref f__law_due)))
    (l__law_due : K.lookup f__law_due = some ⟨oc__law_due, od__law_due, .func (PySem.W.fnOf "_law_due" "_law_due" (defArgs (top 31)) (defBody (top 31)) (defScope (top 31)) .none kV__law_due dc__law_due pm__law_due an__law_due cd__law_due ct__law_due), sl__law_due⟩)
    (c__law_due : PySem.W.codeIn K cd__law_due "_law_due" = true)
    (k__law_due : PySem.W.keepIn K (.ref f__law_due) = true)
    (a__law_names_due : PySem.W.nsIn K mainGlobals "_law_names_due" = some (some (.ref f__law_names_due)))
    (l__law_names_due : K.lookup f__law_names_due = some ⟨oc__law_names_due, od__law_names_due, .func (PySem.W.fnOf "_law_names_due" "_law_names_due" (defArgs (top 28)) (defBody (top 28)) (defScope (top 28)) .none kV__law_names_due dc__law_names_due pm__law_names_due an__law_names_due cd__law_names_due ct__law_names_due), sl__law_names_due⟩)
    (c__law_names_due : PySem.W.codeIn K cd__law_names_due "_law_names_due" = true)
    (k__law_names_due : PySem.W.keepIn K (.ref f__law_names_due) = true)
    (a__law_rooms_due : PySem.W.nsIn K mainGlobals "_law_rooms_due" = some (some (.ref f__law_rooms_due)))
    (l__law_rooms_due : K.lookup f__law_rooms_due = some ⟨oc__law_rooms_due, od__law_rooms_due, .func (PySem.W.fnOf "_law_rooms_due" "_law_rooms_due" (defArgs (top 29)) (defBody (top 29)) (defScope (top 29)) .none kV__law_rooms_due dc__law_rooms_due pm__law_rooms_due an__law_rooms_due cd__law_rooms_due ct__law_rooms_due), sl__law_rooms_due⟩)
    (c__law_rooms_due : PySem.W.codeIn K cd__law_rooms_due "_law_rooms_due" = true)
    (k__law_rooms_due : PySem.W.keepIn K (.ref f__law_rooms_due) = true)
    (a__law_is_cache : PySem.W.nsIn K mainGlobals "_law_is_cache" = some (some (.ref f__law_is_cache)))
    (l__law_is_cache : K.lookup f__law_is_cache = some ⟨oc__law_is_cache, od__law_is_cache, .func (PySem.W.fnOf "_law_is_cache" "_law_is_cache" (defArgs (top 30)) (defBody (top 30)) (defScope (top 30)) .none kV__law_is_cache dc__law_is_cache pm__law_is_cache an__law_is_cache cd__law_is_cache ct__law_is_cache), sl__law_is_cache⟩)
    (c__law_is_cache : PySem.W.codeIn K cd__law_is_cache "_law_is_cache" = true)
    (k__law_is_cache : PySem.W.keepIn K (.ref f__law_is_cache) = true)
    (a__law_alike : PySem.W.nsIn K mainGlobals "_law_alike" = some (some (.ref f__law_alike)))
    (l__law_alike : K.lookup f__law_alike = some ⟨oc__law_alike, od__law_alike, .func (PySem.W.fnOf "_law_alike" "_law_alike" (defArgs (top 19)) (defBody (top 19)) (defScope (top 19)) .none kV__law_alike dc__law_alike pm__law_alike an__law_alike cd__law_alike ct__law_alike), sl__law_alike⟩)
    (c__law_alike : PySem.W.codeIn K cd__law_alike "_law_alike" = true)
    (k__law_alike : PySem.W.keepIn K (.ref f__law_alike) = true)
    (a__law_told : PySem.W.nsIn K mainGlobals "_law_told" = some (some (.ref f__law_told)))
    (l__law_told : K.lookup f__law_told = some ⟨oc__law_told, od__law_told, .func (PySem.W.fnOf "_law_told" "_law_told" (defArgs (top 32)) (defBody (top 32)) (defScope (top 32)) .none kV__law_told dc__law_told pm__law_told an__law_told cd__law_told ct__law_told), sl__law_told⟩)
    (c__law_told : PySem.W.codeIn K cd__law_told "_law_told" = true)
    (k__law_told : PySem.W.keepIn K (.ref f__law_told) = true)
    (a_check_plan : PySem.W.nsIn K mainGlobals "check_plan" = some (some (.ref f_check_plan)))
    (l_check_plan : K.lookup f_check_plan = some ⟨oc_check_plan, od_check_plan, .func (PySem.W.fnOf "check_plan" "check_plan" (defArgs (top 14)) (defBody (top 14)) (defScope (top 14)) .none kV_check_plan dc_check_plan pm_check_plan an_check_plan cd_check_plan ct_check_plan), sl_check_plan⟩)
    (c_check_plan : PySem.W.codeIn K cd_check_plan "check_plan" = true)
    (k_check_plan : PySem.W.keepIn K (.ref f_check_plan) = true)
    (a_check_names : PySem.W.nsIn K mainGlobals "check_names" = some (some (.ref f_check_names)))
    (l_check_names : K.lookup f_check_names = some ⟨oc_check_names, od_check_names, .func (PySem.W.fnOf "check_names" "check_names" (defArgs (top 11)) (defBody (top 11)) (defScope (top 11)) .none kV_check_names dc_check_names pm_check_names an_check_names cd_check_names ct_check_names), sl_check_names⟩)
    (c_check_names : PySem.W.codeIn K cd_check_names "check_names" = true)
    (k_check_names : PySem.W.keepIn K (.ref f_check_names) = true)
    (a_names_of : PySem.W.nsIn K mainGlobals "names_of" = some (some (.ref f_names_of)))
    (l_names_of : K.lookup f_names_of = some ⟨oc_names_of, od_names_of, .func (PySem.W.fnOf "names_of" "names_of" (defArgs (top 5)) (defBody (top 5)) (defScope (top 5)) .none kV_names_of dc_names_of pm_names_of an_names_of cd_names_of ct_names_of), sl_names_of⟩)
    (c_names_of : PySem.W.codeIn K cd_names_of "names_of" = true)
    (k_names_of : PySem.W.keepIn K (.ref f_names_of) = true)
    (a_check_rooms : PySem.W.nsIn K mainGlobals "check_rooms" = some (some (.ref f_check_rooms)))
    (l_check_rooms : K.lookup f_check_rooms = some ⟨oc_check_rooms, od_check_rooms, .func (PySem.W.fnOf "check_rooms" "check_rooms" (defArgs (top 12)) (defBody (top 12)) (defScope (top 12)) .none kV_check_rooms dc_check_rooms pm_check_rooms an_check_rooms cd_check_rooms ct_check_rooms), sl_check_rooms⟩)
    (c_check_rooms : PySem.W.codeIn K cd_check_rooms "check_rooms" = true)
    (k_check_rooms : PySem.W.keepIn K (.ref f_check_rooms) = true)
    (a_frames_of : PySem.W.nsIn K mainGlobals "frames_of" = some (some (.ref f_frames_of)))
    (l_frames_of : K.lookup f_frames_of = some ⟨oc_frames_of, od_frames_of, .func (PySem.W.fnOf "frames_of" "frames_of" (defArgs (top 10)) (defBody (top 10)) (defScope (top 10)) .none kV_frames_of dc_frames_of pm_frames_of an_frames_of cd_frames_of ct_frames_of), sl_frames_of⟩)
    (c_frames_of : PySem.W.codeIn K cd_frames_of "frames_of" = true)
    (k_frames_of : PySem.W.keepIn K (.ref f_frames_of) = true)
    (a_frames_in_order : PySem.W.nsIn K mainGlobals "frames_in_order" = some (some (.ref f_frames_in_order)))
    (l_frames_in_order : K.lookup f_frames_in_order = some ⟨oc_frames_in_order, od_frames_in_order, .func (PySem.W.fnOf "frames_in_order" "frames_in_order" (defArgs (top 8)) (defBody (top 8)) (defScope (top 8)) .none kV_frames_in_order dc_frames_in_order pm_frames_in_order an_frames_in_order cd_frames_in_order ct_frames_in_order), sl_frames_in_order⟩)
    (c_frames_in_order : PySem.W.codeIn K cd_frames_in_order "frames_in_order" = true)
    (k_frames_in_order : PySem.W.keepIn K (.ref f_frames_in_order) = true)
    (a_frames_by_colours : PySem.W.nsIn K mainGlobals "frames_by_colours" = some (some (.ref f_frames_by_colours)))
    (l_frames_by_colours : K.lookup f_frames_by_colours = some ⟨oc_frames_by_colours, od_frames_by_colours, .func (PySem.W.fnOf "frames_by_colours" "frames_by_colours" (defArgs (top 9)) (defBody (top 9)) (defScope (top 9)) .none kV_frames_by_colours dc_frames_by_colours pm_frames_by_colours an_frames_by_colours cd_frames_by_colours ct_frames_by_colours), sl_frames_by_colours⟩)
    (c_frames_by_colours : PySem.W.codeIn K cd_frames_by_colours "frames_by_colours" = true)
    (k_frames_by_colours : PySem.W.keepIn K (.ref f_frames_by_colours) = true)
    (a_colours_of : PySem.W.nsIn K mainGlobals "colours_of" = some (some (.ref f_colours_of)))
    (l_colours_of : K.lookup f_colours_of = some ⟨oc_colours_of, od_colours_of, .func (PySem.W.fnOf "colours_of" "colours_of" (defArgs (top 6)) (defBody (top 6)) (defScope (top 6)) .none kV_colours_of dc_colours_of pm_colours_of an_colours_of cd_colours_of ct_colours_of), sl_colours_of⟩)
    (c_colours_of : PySem.W.codeIn K cd_colours_of "colours_of" = true)
    (k_colours_of : PySem.W.keepIn K (.ref f_colours_of) = true)
    (a_is_cache_right : PySem.W.nsIn K mainGlobals "is_cache_right" = some (some (.ref f_is_cache_right)))
    (l_is_cache_right : K.lookup f_is_cache_right = some ⟨oc_is_cache_right, od_is_cache_right, .func (PySem.W.fnOf "is_cache_right" "is_cache_right" (defArgs (top 13)) (defBody (top 13)) (defScope (top 13)) .none kV_is_cache_right dc_is_cache_right pm_is_cache_right an_is_cache_right cd_is_cache_right ct_is_cache_right), sl_is_cache_right⟩)
    (c_is_cache_right : PySem.W.codeIn K cd_is_cache_right "is_cache_right" = true)
    (k_is_cache_right : PySem.W.keepIn K (.ref f_is_cache_right) = true)
    (a_worst : PySem.W.nsIn K mainGlobals "worst" = some (some (.ref f_worst)))
    (l_worst : K.lookup f_worst = some ⟨oc_worst, od_worst, .func (PySem.W.fnOf "worst" "worst" (defArgs (top 7)) (defBody (top 7)) (defScope (top 7)) .none kV_worst dc_worst pm_worst an_worst cd_worst ct_worst), sl_worst⟩)
    (c_worst : PySem.W.codeIn K cd_worst "worst" = true)
    (k_worst : PySem.W.keepIn K (.ref f_worst) = true) :
    ∃ fd : FuncData, (∀ (s : Shared) (v : Value), BindsTo s fd ⟨[v], []⟩ [("script", v)]) ∧ ∀ base : Heap, K.In base → base.Ns mainGlobals mg → FnOk l.prog w K mg base CX0 41 fa fd ["script"] (spLaw K) := by
  have e := hfa.symm.trans (PySem.W.mg_of X G a_law)
  cases e
  have mC_BadPlan := PySem.W.mg_of X G aC_BadPlan
  have mC_WhisperError := PySem.W.mg_of X G aC_WhisperError
  have eo_BadPlan : ErrAt K mg "BadPlan" ["kind", "name"] := ⟨C_BadPlan, mC_BadPlan, ⟨⟨_, _, _, _, _, _, _, _, _, _, _, _, _, _, _, ex_BadPlan, rfl⟩, esa_BadPlan, eb_BadPlan, ety_BadPlan, ek_BadPlan⟩, (fa_cons en_BadPlan_kind (fa_cons en_BadPlan_name fa_nil))⟩
  have F_BadPlan___init__ := fun_mk (st := (inClass (top 2) 0)) l_BadPlan___init__ c_BadPlan___init__ k_BadPlan___init__
  have b_BadPlan___init__ := F_BadPlan___init__.binds (ps := ["self", "kind", "name"]) fun _ _ _ _ _ _ us hl => match us, hl with | [_, _, _], _ => rfl
  have ed_BadPlan : ErrInit K mg "BadPlan" "BadPlan.__init__" (inClass (top 2) 0) ["self", "kind", "name"] := ⟨C_BadPlan, f_BadPlan___init__, _, mC_BadPlan, ei_BadPlan, it_BadPlan___init__, F_BadPlan___init__, b_BadPlan___init__⟩
  have ef_BadPlan : ErrF K mg "BadPlan" ["kind", "name"] := ⟨C_BadPlan, mC_BadPlan, ⟨ega_BadPlan, egg_BadPlan, eb_BadPlan, ehd_BadPlan⟩, ⟨ega_BadPlan, egg_BadPlan, eb_BadPlan, ehd_BadPlan, ecl_BadPlan, ecn, ect, emr_BadPlan⟩, (fa_cons en_BadPlan_kind (fa_cons en_BadPlan_name fa_nil))⟩
  have F_law := fun_mk (st := (top 33)) l_law c_law k_law
  have b_law := F_law.binds (ps := ["script"]) fun _ _ _ _ _ _ us hl => match us, hl with | [_], _ => rfl
  have F__law_draws := fun_mk (st := (top 16)) l__law_draws c__law_draws k__law_draws
  have b__law_draws := F__law_draws.binds (ps := ["script", "many"]) fun _ _ _ _ _ _ us hl => match us, hl with | [_, _], _ => rfl
  have D__law_draws : DefAt K mg "_law_draws" "_law_draws" (top 16) ["script", "many"] := ⟨_, _, F__law_draws, b__law_draws, PySem.W.mg_of X G a__law_draws⟩
  have F__law_plan := fun_mk (st := (top 27)) l__law_plan c__law_plan k__law_plan
  have b__law_plan := F__law_plan.binds (ps := ["w"]) fun _ _ _ _ _ _ us hl => match us, hl with | [_], _ => rfl
  have D__law_plan : DefAt K mg "_law_plan" "_law_plan" (top 27) ["w"] := ⟨_, _, F__law_plan, b__law_plan, PySem.W.mg_of X G a__law_plan⟩
  have F__law_cache := fun_mk (st := (top 26)) l__law_cache c__law_cache k__law_cache
  have b__law_cache := F__law_cache.binds (ps := ["w", "many"]) fun _ _ _ _ _ _ us hl => match us, hl with | [_, _], _ => rfl
  have D__law_cache : DefAt K mg "_law_cache" "_law_cache" (top 26) ["w", "many"] := ⟨_, _, F__law_cache, b__law_cache, PySem.W.mg_of X G a__law_cache⟩
  have F__law_pick := fun_mk (st := (top 18)) l__law_pick c__law_pick k__law_pick
  have b__law_pick := F__law_pick.binds (ps := ["w", "rows"]) fun _ _ _ _ _ _ us hl => match us, hl with | [_, _], _ => rfl
  have D__law_pick : DefAt K mg "_law_pick" "_law_pick" (top 18) ["w", "rows"] := ⟨_, _, F__law_pick, b__law_pick, PySem.W.mg_of X G a__law_pick⟩
  have F__law_next := fun_mk (st := (top 17)) l__law_next c__law_next k__law_next
  have b__law_next := F__law_next.binds (ps := ["w", "many"]) fun _ _ _ _ _ _ us hl => match us, hl with | [_, _], _ => rfl
  have D__law_next : DefAt K mg "_law_next" "_law_next" (top 17) ["w", "many"] := ⟨_, _, F__law_next, b__law_next, PySem.W.mg_of X G a__law_next⟩
  have F__law_off := fun_mk (st := (top 22)) l__law_off c__law_off k__law_off
  have b__law_off := F__law_off.binds (ps := ["w", "odds"]) fun _ _ _ _ _ _ us hl => match us, hl with | [_, _], _ => rfl
  have D__law_off : DefAt K mg "_law_off" "_law_off" (top 22) ["w", "odds"] := ⟨_, _, F__law_off, b__law_off, PySem.W.mg_of X G a__law_off⟩
  have F__law_ticks := fun_mk (st := (top 25)) l__law_ticks c__law_ticks k__law_ticks
  have b__law_ticks := F__law_ticks.binds (ps := ["w"]) fun _ _ _ _ _ _ us hl => match us, hl with | [_], _ => rfl
  have D__law_ticks : DefAt K mg "_law_ticks" "_law_ticks" (top 25) ["w"] := ⟨_, _, F__law_ticks, b__law_ticks, PySem.W.mg_of X G a__law_ticks⟩
  have F__law_channel := fun_mk (st := (top 24)) l__law_channel c__law_channel k__law_channel
  have b__law_channel := F__law_channel.binds (ps := ["w", "guests"]) fun _ _ _ _ _ _ us hl => match us, hl with | [_, _], _ => rfl
  have D__law_channel : DefAt K mg "_law_channel" "_law_channel" (top 24) ["w", "guests"] := ⟨_, _, F__law_channel, b__law_channel, PySem.W.mg_of X G a__law_channel⟩
  have F__law_a_guest := fun_mk (st := (top 23)) l__law_a_guest c__law_a_guest k__law_a_guest
  have b__law_a_guest := F__law_a_guest.binds (ps := ["w", "guests"]) fun _ _ _ _ _ _ us hl => match us, hl with | [_, _], _ => rfl
  have D__law_a_guest : DefAt K mg "_law_a_guest" "_law_a_guest" (top 23) ["w", "guests"] := ⟨_, _, F__law_a_guest, b__law_a_guest, PySem.W.mg_of X G a__law_a_guest⟩
  have F__law_worst := fun_mk (st := (top 20)) l__law_worst c__law_worst k__law_worst
  have b__law_worst := F__law_worst.binds (ps := ["ticks"]) fun _ _ _ _ _ _ us hl => match us, hl with | [_], _ => rfl
  have D__law_worst : DefAt K mg "_law_worst" "_law_worst" (top 20) ["ticks"] := ⟨_, _, F__law_worst, b__law_worst, PySem.W.mg_of X G a__law_worst⟩
  have F__law_frames := fun_mk (st := (top 21)) l__law_frames c__law_frames k__law_frames
  have b__law_frames := F__law_frames.binds (ps := ["cache", "guests"]) fun _ _ _ _ _ _ us hl => match us, hl with | [_, _], _ => rfl
  have D__law_frames : DefAt K mg "_law_frames" "_law_frames" (top 21) ["cache", "guests"] := ⟨_, _, F__law_frames, b__law_frames, PySem.W.mg_of X G a__law_frames⟩
  have F__law_due := fun_mk (st := (top 31)) l__law_due c__law_due k__law_due
  have b__law_due := F__law_due.binds (ps := ["plan"]) fun _ _ _ _ _ _ us hl => match us, hl with | [_], _ => rfl
  have D__law_due : DefAt K mg "_law_due" "_law_due" (top 31) ["plan"] := ⟨_, _, F__law_due, b__law_due, PySem.W.mg_of X G a__law_due⟩
  have F__law_names_due := fun_mk (st := (top 28)) l__law_names_due c__law_names_due k__law_names_due
  have b__law_names_due := F__law_names_due.binds (ps := ["plan"]) fun _ _ _ _ _ _ us hl => match us, hl with | [_], _ => rfl
  have D__law_names_due : DefAt K mg "_law_names_due" "_law_names_due" (top 28) ["plan"] := ⟨_, _, F__law_names_due, b__law_names_due, PySem.W.mg_of X G a__law_names_due⟩
  have F__law_rooms_due := fun_mk (st := (top 29)) l__law_rooms_due c__law_rooms_due k__law_rooms_due
  have b__law_rooms_due := F__law_rooms_due.binds (ps := ["plan"]) fun _ _ _ _ _ _ us hl => match us, hl with | [_], _ => rfl
  have D__law_rooms_due : DefAt K mg "_law_rooms_due" "_law_rooms_due" (top 29) ["plan"] := ⟨_, _, F__law_rooms_due, b__law_rooms_due, PySem.W.mg_of X G a__law_rooms_due⟩
  have F__law_is_cache := fun_mk (st := (top 30)) l__law_is_cache c__law_is_cache k__law_is_cache
  have b__law_is_cache := F__law_is_cache.binds (ps := ["plan"]) fun _ _ _ _ _ _ us hl => match us, hl with | [_], _ => rfl
  have D__law_is_cache : DefAt K mg "_law_is_cache" "_law_is_cache" (top 30) ["plan"] := ⟨_, _, F__law_is_cache, b__law_is_cache, PySem.W.mg_of X G a__law_is_cache⟩
  have F__law_alike := fun_mk (st := (top 19)) l__law_alike c__law_alike k__law_alike
  have b__law_alike := F__law_alike.binds (ps := ["told", "due"]) fun _ _ _ _ _ _ us hl => match us, hl with | [_, _], _ => rfl
  have D__law_alike : DefAt K mg "_law_alike" "_law_alike" (top 19) ["told", "due"] := ⟨_, _, F__law_alike, b__law_alike, PySem.W.mg_of X G a__law_alike⟩
  have F__law_told := fun_mk (st := (top 32)) l__law_told c__law_told k__law_told
  have b__law_told := F__law_told.binds (ps := ["plan"]) fun _ _ _ _ _ _ us hl => match us, hl with | [_], _ => rfl
  have D__law_told : DefAt K mg "_law_told" "_law_told" (top 32) ["plan"] := ⟨_, _, F__law_told, b__law_told, PySem.W.mg_of X G a__law_told⟩
  have F_check_plan := fun_mk (st := (top 14)) l_check_plan c_check_plan k_check_plan
  have b_check_plan := F_check_plan.binds (ps := ["plan"]) fun _ _ _ _ _ _ us hl => match us, hl with | [_], _ => rfl
  have D_check_plan : DefAt K mg "check_plan" "check_plan" (top 14) ["plan"] := ⟨_, _, F_check_plan, b_check_plan, PySem.W.mg_of X G a_check_plan⟩
  have F_check_names := fun_mk (st := (top 11)) l_check_names c_check_names k_check_names
  have b_check_names := F_check_names.binds (ps := ["plan"]) fun _ _ _ _ _ _ us hl => match us, hl with | [_], _ => rfl
  have D_check_names : DefAt K mg "check_names" "check_names" (top 11) ["plan"] := ⟨_, _, F_check_names, b_check_names, PySem.W.mg_of X G a_check_names⟩
  have F_names_of := fun_mk (st := (top 5)) l_names_of c_names_of k_names_of
  have b_names_of := F_names_of.binds (ps := ["plan"]) fun _ _ _ _ _ _ us hl => match us, hl with | [_], _ => rfl
  have D_names_of : DefAt K mg "names_of" "names_of" (top 5) ["plan"] := ⟨_, _, F_names_of, b_names_of, PySem.W.mg_of X G a_names_of⟩
  have F_check_rooms := fun_mk (st := (top 12)) l_check_rooms c_check_rooms k_check_rooms
  have b_check_rooms := F_check_rooms.binds (ps := ["plan"]) fun _ _ _ _ _ _ us hl => match us, hl with | [_], _ => rfl
  have D_check_rooms : DefAt K mg "check_rooms" "check_rooms" (top 12) ["plan"] := ⟨_, _, F_check_rooms, b_check_rooms, PySem.W.mg_of X G a_check_rooms⟩
  have F_frames_of := fun_mk (st := (top 10)) l_frames_of c_frames_of k_frames_of
  have b_frames_of := F_frames_of.binds (ps := ["plan"]) fun _ _ _ _ _ _ us hl => match us, hl with | [_], _ => rfl
  have D_frames_of : DefAt K mg "frames_of" "frames_of" (top 10) ["plan"] := ⟨_, _, F_frames_of, b_frames_of, PySem.W.mg_of X G a_frames_of⟩
  have F_frames_in_order := fun_mk (st := (top 8)) l_frames_in_order c_frames_in_order k_frames_in_order
  have b_frames_in_order := F_frames_in_order.binds (ps := ["plan"]) fun _ _ _ _ _ _ us hl => match us, hl with | [_], _ => rfl
  have D_frames_in_order : DefAt K mg "frames_in_order" "frames_in_order" (top 8) ["plan"] := ⟨_, _, F_frames_in_order, b_frames_in_order, PySem.W.mg_of X G a_frames_in_order⟩
  have F_frames_by_colours := fun_mk (st := (top 9)) l_frames_by_colours c_frames_by_colours k_frames_by_colours
  have b_frames_by_colours := F_frames_by_colours.binds (ps := ["plan"]) fun _ _ _ _ _ _ us hl => match us, hl with | [_], _ => rfl
  have D_frames_by_colours : DefAt K mg "frames_by_colours" "frames_by_colours" (top 9) ["plan"] := ⟨_, _, F_frames_by_colours, b_frames_by_colours, PySem.W.mg_of X G a_frames_by_colours⟩
  have F_colours_of := fun_mk (st := (top 6)) l_colours_of c_colours_of k_colours_of
  have b_colours_of := F_colours_of.binds (ps := ["plan"]) fun _ _ _ _ _ _ us hl => match us, hl with | [_], _ => rfl
  have D_colours_of : DefAt K mg "colours_of" "colours_of" (top 6) ["plan"] := ⟨_, _, F_colours_of, b_colours_of, PySem.W.mg_of X G a_colours_of⟩
  have F_is_cache_right := fun_mk (st := (top 13)) l_is_cache_right c_is_cache_right k_is_cache_right
  have b_is_cache_right := F_is_cache_right.binds (ps := ["plan"]) fun _ _ _ _ _ _ us hl => match us, hl with | [_], _ => rfl
  have D_is_cache_right : DefAt K mg "is_cache_right" "is_cache_right" (top 13) ["plan"] := ⟨_, _, F_is_cache_right, b_is_cache_right, PySem.W.mg_of X G a_is_cache_right⟩
  have F_worst := fun_mk (st := (top 7)) l_worst c_worst k_worst
  have b_worst := F_worst.binds (ps := ["plan"]) fun _ _ _ _ _ _ us hl => match us, hl with | [_], _ => rfl
  have D_worst : DefAt K mg "worst" "worst" (top 7) ["plan"] := ⟨_, _, F_worst, b_worst, PySem.W.mg_of X G a_worst⟩
  have Z : Zs K w mg := ⟨PySem.W.mg_none_of X G z_len, PySem.W.mg_none_of X G z_range, PySem.W.mg_none_of X G z_int, PySem.W.mg_none_of X G z_abs, PySem.W.mg_none_of X G z_tuple, PySem.W.mg_none_of X G z_max, PySem.W.mg_none_of X G z_isinstance, PySem.W.mg_none_of X G z_bool, PySem.W.mg_none_of X G z_str, ⟨.int 4, _, PySem.W.mg_of X G v_LINES_A_FRAME, ⟨_, rfl⟩, fun _ _ => VR_int.mpr rfl⟩, PySem.W.mg_none_of X G z_min, (tryAt_mk mC_WhisperError (fa_cons ⟨C_BadPlan, mC_BadPlan, PySem.W.exm_ref eb_WhisperError ehd_WhisperError ety_WhisperError es_BadPlan_WhisperError⟩ fa_nil)), (isT_mk (fa_cons ⟨C_BadPlan, C_BadPlan, mC_BadPlan, mC_BadPlan, kit_self⟩ fa_nil)), ⟨C_BadPlan, mC_BadPlan⟩, (fa_cons ef_BadPlan.none fa_nil), (fa_cons (ef_BadPlan.sub (by simp)) fa_nil), (fa_cons (ef_BadPlan.sub (by simp)) fa_nil), ⟨C_WhisperError, mC_WhisperError, bg_WhisperError, br_WhisperError, bi_WhisperError⟩⟩
  refine ⟨PySem.W.fnOf "law" "law" (defArgs (top 33)) (defBody (top 33)) (defScope (top 33)) .none kV_law dc_law pm_law an_law cd_law ct_law, fun s v => .of_eq rfl, fun base _ _ => ?_⟩
  have h_BadPlan := ok_BadPlan (P := l.prog) (w := w) (base := base) Z eo_BadPlan ed_BadPlan
  have h__law_draws := ok__law_draws (P := l.prog) (w := w) (base := base) Z D__law_draws
  have h__law_next := ok__law_next (P := l.prog) (w := w) (base := base) Z D__law_next
  have h__law_pick := ok__law_pick (P := l.prog) (w := w) (base := base) Z D__law_pick h__law_next
  have h__law_off := ok__law_off (P := l.prog) (w := w) (base := base) Z D__law_off h__law_next
  have h__law_cache := ok__law_cache (P := l.prog) (w := w) (base := base) Z D__law_cache h__law_pick h__law_off h__law_next
  have h__law_ticks := ok__law_ticks (P := l.prog) (w := w) (base := base) Z D__law_ticks h__law_off h__law_next h__law_pick
  have h__law_a_guest := ok__law_a_guest (P := l.prog) (w := w) (base := base) Z D__law_a_guest h__law_off h__law_pick
  have h__law_channel := ok__law_channel (P := l.prog) (w := w) (base := base) Z D__law_channel h__law_a_guest h__law_pick h__law_off
  have h__law_worst := ok__law_worst (P := l.prog) (w := w) (base := base) Z D__law_worst
  have h__law_frames := ok__law_frames (P := l.prog) (w := w) (base := base) Z D__law_frames
  have h__law_plan := ok__law_plan (P := l.prog) (w := w) (base := base) Z D__law_plan h__law_cache h__law_ticks h__law_next h__law_pick h__law_channel h__law_off h__law_worst h__law_a_guest h__law_frames
  have h__law_names_due := ok__law_names_due (P := l.prog) (w := w) (base := base) Z D__law_names_due
  have h__law_rooms_due := ok__law_rooms_due (P := l.prog) (w := w) (base := base) Z D__law_rooms_due
  have h__law_is_cache := ok__law_is_cache (P := l.prog) (w := w) (base := base) Z D__law_is_cache
  have h__law_due := ok__law_due (P := l.prog) (w := w) (base := base) Z D__law_due h__law_frames h__law_names_due h__law_rooms_due h__law_is_cache h__law_worst
  have h__law_alike := ok__law_alike (P := l.prog) (w := w) (base := base) Z D__law_alike
  have h_names_of := ok_names_of (P := l.prog) (w := w) (base := base) Z D_names_of
  have h_check_names := ok_check_names (P := l.prog) (w := w) (base := base) Z D_check_names h_names_of h_BadPlan
  have h_check_rooms := ok_check_rooms (P := l.prog) (w := w) (base := base) Z D_check_rooms h_BadPlan
  have h_frames_in_order := ok_frames_in_order (P := l.prog) (w := w) (base := base) Z D_frames_in_order
  have h_colours_of := ok_colours_of (P := l.prog) (w := w) (base := base) Z D_colours_of
  have h_frames_by_colours := ok_frames_by_colours (P := l.prog) (w := w) (base := base) Z D_frames_by_colours h_colours_of
  have h_frames_of := ok_frames_of (P := l.prog) (w := w) (base := base) Z D_frames_of h_frames_in_order h_frames_by_colours
  have h_is_cache_right := ok_is_cache_right (P := l.prog) (w := w) (base := base) Z D_is_cache_right h_colours_of
  have h_worst := ok_worst (P := l.prog) (w := w) (base := base) Z D_worst
  have h_check_plan := ok_check_plan (P := l.prog) (w := w) (base := base) Z D_check_plan h_check_names h_check_rooms h_BadPlan h_frames_of h_is_cache_right h_worst
  have h__law_told := ok__law_told (P := l.prog) (w := w) (base := base) Z D__law_told h_check_plan
  exact law_fn (law_ok (P := l.prog) (w := w) (base := base) Z F_law h__law_draws h__law_plan h__law_due h__law_alike h__law_told h_frames_of h__law_frames h_worst h__law_worst) law_true
theorem walk {l : PySem.W.OpenLaw} {q : Program} {loose : List Str} {XP : (Str → Option Value) → Heap → Prop} {YP : World → Heap → Prop} {d : DefRec} {K : Params → PySem.W.Frag} (hn : l.most = some 63) (hdf : d.params.defaults = [])
    (hY : ∀ (w : World) (h : Heap), YP w h → (K w.params).In h)
    (F : ∀ (w : World) (mg : Str → Option Value) (fa : Addr) (h : Heap), (K w.params).In h → h.Ns mainGlobals mg → mg d.name = some (.ref fa) →
      ∃ fd : FuncData, (∀ (s : Shared) (u : Value), BindsTo s fd ⟨[u], []⟩ [("script", u)]) ∧ ∀ base : Heap, (K w.params).In base → base.Ns mainGlobals mg → FnOk l.prog w (K w.params) mg base CX0 41 fa fd ["script"] (spLaw (K w.params))) :
    PySem.W.WalkO q loose XP YP l.row.toRowW d [] (fun f vs => PySem.call f vs) :=
  L2.walk_of (n := 63) (k := 41) (x := "script") (CX := fun _ => CX0) (sp := fun w => spLaw (K w.params)) hn (by decide) hdf ⟨rfl, by decide, by decide⟩ hY F (fun _ H a ns hl ho hS => ⟨a, ns, rfl, ho, hS, hl, fun _ => rfl⟩) fun _ _ _ _ _ z => z
end Pf
open PySem PySem.W PyProof.Rows
set_option maxRecDepth 100000 in
set_option maxHeartbeats 0 in
theorem PySem.Challenge.cw_nowhisper_k60_plans_that_can_be_kept_holds : PySem.Challenge.rw_nowhisper_k60_plans_that_can_be_kept.Holds := by
  refine Pf.hd ?_
  w_on
  k_fill
  refine Pf.walk (l := PySem.Challenge.rw_nowhisper_k60_plans_that_can_be_kept) rfl rfl (fun w h Y => PySem.W.kIn_of Y) ?F
  case F =>
    intro w mg fa h KX G hmg
    refine' Pf.all_mk KX G hmg ?aC_BadPlan ?aC_WhisperError ?eb_BadPlan ?ety_BadPlan ?ehd_BadPlan ?ek_BadPlan ?ex_BadPlan ?esa_BadPlan ?en_BadPlan_kind ?en_BadPlan_name ?ei_BadPlan ?it_BadPlan___init__ ?l_BadPlan___init__ ?c_BadPlan___init__ ?k_BadPlan___init__ ?ega_BadPlan ?egg_BadPlan ?ecl_BadPlan ?emr_BadPlan ?eb_WhisperError ?ety_WhisperError ?ehd_WhisperError ?ecn ?ect ?z_len ?z_range ?z_int ?z_abs ?z_tuple ?z_max ?z_isinstance ?z_bool ?z_str ?v_LINES_A_FRAME ?z_min ?es_BadPlan_WhisperError ?bg_WhisperError ?br_WhisperError ?bi_WhisperError ?a_law ?l_law ?c_law ?k_law ?a__law_draws ?l__law_draws ?c__law_draws ?k__law_draws ?a__law_plan ?l__law_plan ?c__law_plan ?k__law_plan ?a__law_cache ?l__law_cache ?c__law_cache ?k__law_cache ?a__law_pick ?l__law_pick ?c__law_pick ?k__law_pick ?a__law_next ?l__law_next ?c__law_next ?k__law_next ?a__law_off ?l__law_off ?c__law_off ?k__law_off ?a__law_ticks ?l__law_ticks ?c__law_ticks ?k__law_ticks ?a__law_channel ?l__law_channel ?c__law_channel ?k__law_channel ?a__law_a_guest ?l__law_a_guest ?c__law_a_guest ?k__law_a_guest ?a__law_worst ?l__law_worst ?c__law_worst ?k__law_worst ?a__law_frames ?l__law_frames ?c__law_frames ?k__law_frames ?a__law_due ?l__law_due ?c__law_due ?k__law_due ?a__law_names_due ?l__law_names_due ?c__law_names_due ?k__law_names_due ?a__law_rooms_due ?l__law_rooms_due ?c__law_rooms_due ?k__law_rooms_due ?a__law_is_cache ?l__law_is_cache ?c__law_is_cache ?k__law_is_cache ?a__law_alike ?l__law_alike ?c__law_alike ?k__law_alike ?a__law_told ?l__law_told ?c__law_told ?k__law_told ?a_check_plan ?l_check_plan ?c_check_plan ?k_check_plan ?a_check_names ?l_check_names ?c_check_names ?k_check_names ?a_names_of ?l_names_of ?c_names_of ?k_names_of ?a_check_rooms ?l_check_rooms ?c_check_rooms ?k_check_rooms ?a_frames_of ?l_frames_of ?c_frames_of ?k_frames_of ?a_frames_in_order ?l_frames_in_order ?c_frames_in_order ?k_frames_in_order ?a_frames_by_colours ?l_frames_by_colours ?c_frames_by_colours ?k_frames_by_colours ?a_colours_of ?l_colours_of ?c_colours_of ?k_colours_of ?a_is_cache_right ?l_is_cache_right ?c_is_cache_right ?k_is_cache_right ?a_worst ?l_worst ?c_worst ?k_worst
    (case aC_BadPlan => k_is)
    (case aC_WhisperError => k_is)
    (case eb_BadPlan => k_is)
    (case ety_BadPlan => k_is)
    (case ehd_BadPlan => k_is)
    (case ek_BadPlan => k_is)
    (case ex_BadPlan => k_is)
    (case esa_BadPlan => k_is)
    (case en_BadPlan_kind => k_is)
    (case en_BadPlan_name => k_is)
    (case ei_BadPlan => k_is)
    (case it_BadPlan___init__ => k_is)
    (case l_BadPlan___init__ => k_is)
    (case c_BadPlan___init__ => k_is)
    (case k_BadPlan___init__ => k_is)
    (case ega_BadPlan => k_is)
    (case egg_BadPlan => k_is)
    (case ecl_BadPlan => k_is)
    (case emr_BadPlan => k_is)
    (case eb_WhisperError => k_is)
    (case ety_WhisperError => k_is)
    (case ehd_WhisperError => k_is)
    (case ecn => k_is)
    (case ect => k_is)
    (case z_len => k_is)
    (case z_range => k_is)
    (case z_int => k_is)
    (case z_abs => k_is)
    (case z_tuple => k_is)
    (case z_max => k_is)
    (case z_isinstance => k_is)
    (case z_bool => k_is)
    (case z_str => k_is)
    (case v_LINES_A_FRAME => k_is)
    (case z_min => k_is)
    (case es_BadPlan_WhisperError => k_is)
    (case bg_WhisperError => k_is)
    (case br_WhisperError => k_is)
    (case bi_WhisperError => k_is)
    (case a_law => k_is)
    (case l_law => k_is)
    (case c_law => k_is)
    (case k_law => k_is)
    (case a__law_draws => k_is)
    (case l__law_draws => k_is)
    (case c__law_draws => k_is)
    (case k__law_draws => k_is)
    (case a__law_plan => k_is)
    (case l__law_plan => k_is)
    (case c__law_plan => k_is)
    (case k__law_plan => k_is)
    (case a__law_cache => k_is)
    (case l__law_cache => k_is)
    (case c__law_cache => k_is)
    (case k__law_cache => k_is)
    (case a__law_pick => k_is)
    (case l__law_pick => k_is)
    (case c__law_pick => k_is)
    (case k__law_pick => k_is)
    (case a__law_next => k_is)
    (case l__law_next => k_is)
    (case c__law_next => k_is)
    (case k__law_next => k_is)
    (case a__law_off => k_is)
    (case l__law_off => k_is)
    (case c__law_off => k_is)
    (case k__law_off => k_is)
    (case a__law_ticks => k_is)
    (case l__law_ticks => k_is)
    (case c__law_ticks => k_is)
    (case k__law_ticks => k_is)
    (case a__law_channel => k_is)
    (case l__law_channel => k_is)
    (case c__law_channel => k_is)
    (case k__law_channel => k_is)
    (case a__law_a_guest => k_is)
    (case l__law_a_guest => k_is)
    (case c__law_a_guest => k_is)
    (case k__law_a_guest => k_is)
    (case a__law_worst => k_is)
    (case l__law_worst => k_is)
    (case c__law_worst => k_is)
    (case k__law_worst => k_is)
    (case a__law_frames => k_is)
    (case l__law_frames => k_is)
    (case c__law_frames => k_is)
    (case k__law_frames => k_is)
    (case a__law_due => k_is)
    (case l__law_due => k_is)
    (case c__law_due => k_is)
    (case k__law_due => k_is)
    (case a__law_names_due => k_is)
    (case l__law_names_due => k_is)
    (case c__law_names_due => k_is)
    (case k__law_names_due => k_is)
    (case a__law_rooms_due => k_is)
    (case l__law_rooms_due => k_is)
    (case c__law_rooms_due => k_is)
    (case k__law_rooms_due => k_is)
    (case a__law_is_cache => k_is)
    (case l__law_is_cache => k_is)
    (case c__law_is_cache => k_is)
    (case k__law_is_cache => k_is)
    (case a__law_alike => k_is)
    (case l__law_alike => k_is)
    (case c__law_alike => k_is)
    (case k__law_alike => k_is)
    (case a__law_told => k_is)
    (case l__law_told => k_is)
    (case c__law_told => k_is)
    (case k__law_told => k_is)
    (case a_check_plan => k_is)
    (case l_check_plan => k_is)
    (case c_check_plan => k_is)
    (case k_check_plan => k_is)
    (case a_check_names => k_is)
    (case l_check_names => k_is)
    (case c_check_names => k_is)
    (case k_check_names => k_is)
    (case a_names_of => k_is)
    (case l_names_of => k_is)
    (case c_names_of => k_is)
    (case k_names_of => k_is)
    (case a_check_rooms => k_is)
    (case l_check_rooms => k_is)
    (case c_check_rooms => k_is)
    (case k_check_rooms => k_is)
    (case a_frames_of => k_is)
    (case l_frames_of => k_is)
    (case c_frames_of => k_is)
    (case k_frames_of => k_is)
    (case a_frames_in_order => k_is)
    (case l_frames_in_order => k_is)
    (case c_frames_in_order => k_is)
    (case k_frames_in_order => k_is)
    (case a_frames_by_colours => k_is)
    (case l_frames_by_colours => k_is)
    (case c_frames_by_colours => k_is)
    (case k_frames_by_colours => k_is)
    (case a_colours_of => k_is)
    (case l_colours_of => k_is)
    (case c_colours_of => k_is)
    (case k_colours_of => k_is)
    (case a_is_cache_right => k_is)
    (case l_is_cache_right => k_is)
    (case c_is_cache_right => k_is)
    (case k_is_cache_right => k_is)
    (case a_worst => k_is)
    (case l_worst => k_is)
    (case c_worst => k_is)
    (case k_worst => k_is)

