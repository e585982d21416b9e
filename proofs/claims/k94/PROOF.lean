import PyProof.Rows.All
import Wide.All
import OpenK.AllK
import Wide.FinOn
import HandS.ForMost
import HandS.TupAny
import HandS.TupMul
import HandS.TupLe
import HandS.Wide
import HandS.WideBits
import KE.DatumOrd
import HandS.List
import HandS.SetBool
import HandS.Strs
import HandS.Zip
import HandS.More
import HandS.Style
import KE.GoesEnum
import HandS.Dict
import HandS.Conv
import HandS.Small
import HandS.Codes
import HandS.Defaults
import HandS.Words
import HandS.Ends
import HandS.Head0
import HandS.Head1
import HandS.Head2
import HandS.HeadEnd
import HandS.HeadHook1
import HandS.HeadHook2
import HandS.HeadHook3
import PySem.Challenge.RW_somesay_k94_whole_asked_next
import KE.KStateDown
set_option Elab.async false
set_option linter.all false
set_option maxRecDepth 100000
set_option maxHeartbeats 4000000
/-! data, owned trees, what stands for them in the abstract heap -/
namespace Pv
open PySem L2

abbrev D := PyData
/-- a tree: shared data, or objects of one's own -/
inductive OT where
  | sh (d : D)
  | lst (xs : List OT)
  | dK (kvs : List (Key × D))
  | dT (kvs : List (List Key × D))
  | ins (C : Addr) (ns : List Str) (ts : List OT)

def keyD : Key → D
  | .inl i => .int i
  | .inr x => .str x

/-- a list, a tuple of the written part -/
def WL (K : PySem.W.Frag) (a : Addr) (xs : List V) : Prop :=
  ∃ (o : Obj) (its : Array Value) (n : Nat), K.lookup a = some o ∧ o.cls = .type "list" ∧ o.dict = none ∧ o.data = .seq its n ∧ its.size ≤ sizeLine ∧ Vals xs its.toList
def WT (K : PySem.W.Frag) (a : Addr) (xs : List V) : Prop :=
  ∃ (o : Obj) (its : Array Value) (n : Nat), K.lookup a = some o ∧ o.cls = .type "tuple" ∧ o.data = .seq its n ∧ its.size ≤ sizeLine ∧ Vals xs its.toList
def LAt (K : PySem.W.Frag) (S : Addr → Prop) (H : Hp) (a : Addr) (xs : List V) : Prop := (S a ∧ Rd H a (.lst xs)) ∨ WL K a xs
def TAt (K : PySem.W.Frag) (S : Addr → Prop) (H : Hp) (a : Addr) (xs : List V) : Prop := (S a ∧ Rd H a (.tup xs)) ∨ WT K a xs

mutual
inductive Rep (K : PySem.W.Frag) (S : Addr → Prop) (H : Hp) : V → D → Prop
  | non : Rep K S H .non .none
  | bl (b : Bool) : Rep K S H (.bl b) (.bool b)
  | int (i : Int) : Rep K S H (.int i) (.int i)
  | str (x : Str) : Rep K S H (.str x) (.str x)
  | lst {a : Addr} {xs : List V} {ds : List D} : LAt K S H a xs → Reps K S H xs ds → Rep K S H (.ref a) (.list ds)
  | tup {a : Addr} {xs : List V} {ds : List D} : TAt K S H a xs → Reps K S H xs ds → Rep K S H (.ref a) (.tuple ds)
  | dK {a : Addr} {kvs : List (Key × V)} {ds : List (D × D)} : S a → H a = some (.dK kvs) → RepK K S H kvs ds → Rep K S H (.ref a) (.dict ds)
inductive Reps (K : PySem.W.Frag) (S : Addr → Prop) (H : Hp) : List V → List D → Prop
  | nil : Reps K S H [] []
  | cons {v : V} {vs : List V} {d : D} {ds : List D} : Rep K S H v d → Reps K S H vs ds → Reps K S H (v :: vs) (d :: ds)
inductive RepK (K : PySem.W.Frag) (S : Addr → Prop) (H : Hp) : List (Key × V) → List (D × D) → Prop
  | nil : RepK K S H [] []
  | cons {k : Key} {v : V} {kvs : List (Key × V)} {d : D} {ds : List (D × D)} : Rep K S H v d → RepK K S H kvs ds → RepK K S H ((k, v) :: kvs) ((keyD k, d) :: ds)
end

/-- what is shared stays -/
structure Ext (S : Addr → Prop) (H : Hp) (S' : Addr → Prop) (H' : Hp) : Prop where
  keep : ∀ a o, S a → H a = some o → H' a = some o
  sub : ∀ a, S a → S' a
theorem Ext.refl {S : Addr → Prop} {H : Hp} : Ext S H S H := ⟨fun _ _ _ e => e, fun _ s => s⟩
theorem Ext.trans {S S1 S2 : Addr → Prop} {H H1 H2 : Hp} (a : Ext S H S1 H1) (b : Ext S1 H1 S2 H2) : Ext S H S2 H2 :=
  ⟨fun x o s e => b.keep x o (a.sub x s) (a.keep x o s e), fun x s => b.sub x (a.sub x s)⟩

section
variable {K : PySem.W.Frag} {S S' : Addr → Prop} {H H' : Hp}
theorem rd_keep {a : Addr} {u : HO} (h : Rd H a u) (k : ∀ o, H a = some o → H' a = some o) : Rd H' a u := by
  rcases h with h | ⟨o, h⟩
  · exact .inl (k _ h)
  · exact .inr ⟨o, k _ h⟩
theorem rd_some {a : Addr} {u : HO} (h : Rd H a u) : ∃ o, H a = some o := by
  rcases h with h | ⟨o, h⟩ <;> exact ⟨_, h⟩
theorem LAt.mono {a : Addr} {xs : List V} (e : Ext S H S' H') (h : LAt K S H a xs) : LAt K S' H' a xs := by
  rcases h with ⟨s, h⟩ | h
  · exact .inl ⟨e.sub a s, rd_keep h fun o q => e.keep a o s q⟩
  · exact .inr h
theorem TAt.mono {a : Addr} {xs : List V} (e : Ext S H S' H') (h : TAt K S H a xs) : TAt K S' H' a xs := by
  rcases h with ⟨s, h⟩ | h
  · exact .inl ⟨e.sub a s, rd_keep h fun o q => e.keep a o s q⟩
  · exact .inr h
theorem LAt.sq {a : Addr} {xs : List V} (h : LAt K S H a xs) : SqL K H a xs := by
  rcases h with ⟨_, h⟩ | h
  · exact .inl h
  · exact .inr h
theorem TAt.sq {a : Addr} {xs : List V} (h : TAt K S H a xs) : SqT K H a xs := by
  rcases h with ⟨_, h⟩ | h
  · exact .inl h
  · exact .inr h
mutual
theorem Rep.mono (e : Ext S H S' H') : ∀ {v : V} {d : D}, Rep K S H v d → Rep K S' H' v d
  | _, _, .non => .non
  | _, _, .bl b => .bl b
  | _, _, .int i => .int i
  | _, _, .str x => .str x
  | _, _, .lst h r => .lst (h.mono e) (Reps.mono e r)
  | _, _, .tup h r => .tup (h.mono e) (Reps.mono e r)
  | _, _, .dK s h r => .dK (e.sub _ s) (e.keep _ _ s h) (RepK.mono e r)
theorem Reps.mono (e : Ext S H S' H') : ∀ {vs : List V} {ds : List D}, Reps K S H vs ds → Reps K S' H' vs ds
  | _, _, .nil => .nil
  | _, _, .cons a b => .cons (Rep.mono e a) (Reps.mono e b)
theorem RepK.mono (e : Ext S H S' H') : ∀ {kvs : List (Key × V)} {ds : List (D × D)}, RepK K S H kvs ds → RepK K S' H' kvs ds
  | _, _, .nil => .nil
  | _, _, .cons a b => .cons (Rep.mono e a) (RepK.mono e b)
end
theorem Reps.length : ∀ {vs : List V} {ds : List D}, Reps K S H vs ds → vs.length = ds.length
  | _, _, .nil => rfl
  | _, _, .cons _ b => by rw [List.length_cons, List.length_cons, Reps.length b]
theorem Reps.append : ∀ {vs ws : List V} {ds es : List D}, Reps K S H vs ds → Reps K S H ws es → Reps K S H (vs ++ ws) (ds ++ es)
  | _, _, _, _, .nil, h => h
  | _, _, _, _, .cons a b, h => .cons a (Reps.append b h)
theorem Reps.get : ∀ {vs : List V} {ds : List D} {i : Nat} {d : D}, Reps K S H vs ds → ds[i]? = some d → ∃ v, vs[i]? = some v ∧ Rep K S H v d
  | _, _, _, _, .nil, h => by simp at h
  | _, _, 0, _, .cons a _, h => by simp at h; subst h; exact ⟨_, rfl, a⟩
  | _, _, i + 1, _, .cons _ b, h => by
    obtain ⟨v, h1, h2⟩ := Reps.get (i := i) b (by simpa using h)
    exact ⟨v, by simpa using h1, h2⟩
theorem Reps.getV : ∀ {vs : List V} {ds : List D} {i : Nat} {v : V}, Reps K S H vs ds → vs[i]? = some v → ∃ d, ds[i]? = some d ∧ Rep K S H v d
  | _, _, _, _, .nil, h => by simp at h
  | _, _, 0, _, .cons a _, h => by simp at h; subst h; exact ⟨_, rfl, a⟩
  | _, _, i + 1, _, .cons _ b, h => by
    obtain ⟨v, h1, h2⟩ := Reps.getV (i := i) b (by simpa using h)
    exact ⟨v, by simpa using h1, h2⟩
theorem Reps.take : ∀ {vs : List V} {ds : List D} (n : Nat), Reps K S H vs ds → Reps K S H (vs.take n) (ds.take n)
  | _, _, 0, _ => .nil
  | _, _, _ + 1, .nil => .nil
  | _, _, n + 1, .cons a b => .cons a (Reps.take n b)
theorem Reps.drop : ∀ {vs : List V} {ds : List D} (n : Nat), Reps K S H vs ds → Reps K S H (vs.drop n) (ds.drop n)
  | _, _, 0, h => h
  | _, _, _ + 1, .nil => .nil
  | _, _, n + 1, .cons _ b => Reps.drop n b
theorem Reps.map {α : Type} {f : α → V} {g : α → D} (h : ∀ x, Rep K S H (f x) (g x)) : ∀ l : List α, Reps K S H (l.map f) (l.map g)
  | [] => .nil
  | x :: r => .cons (h x) (Reps.map h r)
theorem Reps.ints : ∀ {vs : List V} {ns : List Int}, Reps K S H vs (ns.map PyData.int) → vs = ns.map V.int
  | _, [], h => by cases h; rfl
  | _, n :: r, h => by
    cases h with
    | cons a b => cases a; rw [List.map_cons, Reps.ints b]
/-- flat data tell the value -/
theorem Rep.dp : ∀ {v : V} {d : D}, Rep K S H v d → d.canLay0 = true → Dp K H v d := by
  intro v d h
  exact Rep.rec (motive_1 := fun v d _ => d.canLay0 = true → Dp K H v d) (motive_2 := fun vs ds _ => PyData.canLayAll0 ds = true → DpAll K H vs ds) (motive_3 := fun _ _ _ => True)
    (fun _ => .non) (fun b _ => .bl b) (fun i _ => .int i) (fun x _ => .str x) (fun hl _ ih c => .lst hl.sq (ih (by simpa [PyData.canLay0] using c))) (fun hl _ ih c => .tup hl.sq (ih (by simpa [PyData.canLay0] using c))) (fun _ _ _ _ c => by simp [PyData.canLay0] at c)
    (fun _ => .nil) (fun _ _ i1 i2 c => by
      have c' := c
      simp [PyData.canLayAll0] at c'
      exact .cons (i1 c'.1) (i2 c'.2)) trivial (fun _ _ _ _ => trivial) h
end
end Pv

set_option Elab.async false
set_option linter.all false
set_option maxRecDepth 100000
set_option maxHeartbeats 4000000
/-! owned trees in the heap, the state of a def -/
namespace Pv
open PySem L2

abbrev Fp := Addr → Prop

mutual
def RepO (K : PySem.W.Frag) (S : Addr → Prop) (H : Hp) : V → OT → Fp → Prop
  | v, .sh d, G => (∀ x, ¬ G x) ∧ Rep K S H v d
  | v, .lst ts, G => ∃ a vs G', v = .ref a ∧ H a = some (.lst vs) ∧ ¬ G' a ∧ (∀ x, G x ↔ x = a ∨ G' x) ∧ RepOs K S H vs ts G'
  | v, .dK kds, G => ∃ a kvs, v = .ref a ∧ H a = some (.dK kvs) ∧ (∀ x, G x ↔ x = a) ∧ kvs.map (·.1) = kds.map (·.1) ∧ Reps K S H (kvs.map (·.2)) (kds.map (·.2))
  | v, .dT kds, G => ∃ a kvs, v = .ref a ∧ H a = some (.dT kvs) ∧ (∀ x, G x ↔ x = a) ∧ kvs.map (·.1) = kds.map (·.1) ∧ Reps K S H (kvs.map (·.2)) (kds.map (·.2))
  | v, .ins C ns ts, G => ∃ a dx vs G', v = .ref a ∧ H a = some (.ins C dx (ns.zip vs)) ∧ H dx = some (.own a) ∧ ns.length = vs.length ∧ ns.Nodup ∧ ¬ G' a ∧ ¬ G' dx ∧ (∀ x, G x ↔ x = a ∨ x = dx ∨ G' x) ∧ RepOs K S H vs ts G'
def RepOs (K : PySem.W.Frag) (S : Addr → Prop) (H : Hp) : List V → List OT → Fp → Prop
  | [], [], G => ∀ x, ¬ G x
  | v :: vs, t :: ts, G => ∃ G1 G2, (∀ x, G1 x → G2 x → False) ∧ (∀ x, G x ↔ G1 x ∨ G2 x) ∧ RepO K S H v t G1 ∧ RepOs K S H vs ts G2
  | _, _, _ => False
end

section
variable {K : PySem.W.Frag} {S S' : Addr → Prop} {H H' : Hp}
mutual
theorem RepO.mono (e : Ext S H S' H') : ∀ {t : OT} {v : V} {G : Fp}, RepO K S H v t G → (∀ a o, G a → H a = some o → H' a = some o) → RepO K S' H' v t G
  | .sh d, v, G, h, _ => by
    unfold RepO at h ⊢
    exact ⟨h.1, h.2.mono e⟩
  | .lst ts, v, G, h, k => by
    unfold RepO at h ⊢
    obtain ⟨a, vs, G', h1, h2, h3, h4, h5⟩ := h
    exact ⟨a, vs, G', h1, k a _ ((h4 a).mpr (.inl rfl)) h2, h3, h4, RepOs.mono e h5 fun x o hx => k x o ((h4 x).mpr (.inr hx))⟩
  | .dK kds, v, G, h, k => by
    unfold RepO at h ⊢
    obtain ⟨a, kvs, h1, h2, h3, h4, h5⟩ := h
    exact ⟨a, kvs, h1, k a _ ((h3 a).mpr rfl) h2, h3, h4, h5.mono e⟩
  | .dT kds, v, G, h, k => by
    unfold RepO at h ⊢
    obtain ⟨a, kvs, h1, h2, h3, h4, h5⟩ := h
    exact ⟨a, kvs, h1, k a _ ((h3 a).mpr rfl) h2, h3, h4, h5.mono e⟩
  | .ins C ns ts, v, G, h, k => by
    unfold RepO at h ⊢
    obtain ⟨a, dx, vs, G', h1, h2, h3, h4, h5, h6, h7, h8, h9⟩ := h
    exact ⟨a, dx, vs, G', h1, k a _ ((h8 a).mpr (.inl rfl)) h2, k dx _ ((h8 dx).mpr (.inr (.inl rfl))) h3, h4, h5, h6, h7, h8, RepOs.mono e h9 fun x o hx => k x o ((h8 x).mpr (.inr (.inr hx)))⟩
theorem RepOs.mono (e : Ext S H S' H') : ∀ {ts : List OT} {vs : List V} {G : Fp}, RepOs K S H vs ts G → (∀ a o, G a → H a = some o → H' a = some o) → RepOs K S' H' vs ts G
  | [], [], G, h, _ => by
    unfold RepOs at h ⊢
    exact h
  | t :: ts, v :: vs, G, h, k => by
    unfold RepOs at h ⊢
    obtain ⟨G1, G2, h1, h2, h3, h4⟩ := h
    exact ⟨G1, G2, h1, h2, RepO.mono e h3 fun x o hx => k x o ((h2 x).mpr (.inl hx)), RepOs.mono e h4 fun x o hx => k x o ((h2 x).mpr (.inr hx))⟩
  | [], _ :: _, _, h, _ => by unfold RepOs at h; exact h.elim
  | _ :: _, [], _, h, _ => by unfold RepOs at h; exact h.elim
end
mutual
theorem RepO.live : ∀ {t : OT} {v : V} {G : Fp}, RepO K S H v t G → ∀ a, G a → ∃ o, H a = some o
  | .sh d, v, G, h, a, g => by
    unfold RepO at h
    exact absurd g (h.1 a)
  | .lst ts, v, G, h, x, g => by
    unfold RepO at h
    obtain ⟨a, vs, G', h1, h2, h3, h4, h5⟩ := h
    rcases (h4 x).mp g with rfl | g
    · exact ⟨_, h2⟩
    · exact RepOs.live h5 x g
  | .dK kds, v, G, h, x, g => by
    unfold RepO at h
    obtain ⟨a, kvs, h1, h2, h3, _⟩ := h
    rw [(h3 x).mp g]
    exact ⟨_, h2⟩
  | .dT kds, v, G, h, x, g => by
    unfold RepO at h
    obtain ⟨a, kvs, h1, h2, h3, _⟩ := h
    rw [(h3 x).mp g]
    exact ⟨_, h2⟩
  | .ins C ns ts, v, G, h, x, g => by
    unfold RepO at h
    obtain ⟨a, dx, vs, G', h1, h2, h3, h4, h5, h6, h7, h8, h9⟩ := h
    rcases (h8 x).mp g with rfl | rfl | g
    · exact ⟨_, h2⟩
    · exact ⟨_, h3⟩
    · exact RepOs.live h9 x g
theorem RepOs.live : ∀ {ts : List OT} {vs : List V} {G : Fp}, RepOs K S H vs ts G → ∀ a, G a → ∃ o, H a = some o
  | [], [], G, h, a, g => by
    unfold RepOs at h
    exact absurd g (h a)
  | t :: ts, v :: vs, G, h, a, g => by
    unfold RepOs at h
    obtain ⟨G1, G2, h1, h2, h3, h4⟩ := h
    rcases (h2 a).mp g with g | g
    · exact RepO.live h3 a g
    · exact RepOs.live h4 a g
  | [], _ :: _, _, h, _, _ => by unfold RepOs at h; exact h.elim
  | _ :: _, [], _, h, _, _ => by unfold RepOs at h; exact h.elim
end
theorem RepO.eqv {t : OT} {v : V} {G G' : Fp} (h : RepO K S H v t G) (e : ∀ x, G x ↔ G' x) : RepO K S H v t G' := by
  have : G = G' := funext fun x => propext (e x)
  exact this ▸ h
theorem RepOs.eqv {ts : List OT} {vs : List V} {G G' : Fp} (h : RepOs K S H vs ts G) (e : ∀ x, G x ↔ G' x) : RepOs K S H vs ts G' := by
  have : G = G' := funext fun x => propext (e x)
  exact this ▸ h
/-- shared items as an owned list's -/
theorem RepOs.of_sh : ∀ {vs : List V} {ds : List D}, Reps K S H vs ds → RepOs K S H vs (ds.map .sh) (fun _ => False)
  | [], [], _ => by
    simp only [List.map_nil]
    unfold RepOs
    exact fun _ h => h
  | v :: vs, d :: ds, h => by
    cases h with
    | cons a b =>
      simp only [List.map_cons]
      unfold RepOs
      refine ⟨fun _ => False, fun _ => False, fun _ h _ => h, fun _ => by simp, ?_, RepOs.of_sh b⟩
      unfold RepO
      exact ⟨fun _ h => h, a⟩
  | [], _ :: _, h => by cases h
  | _ :: _, [], h => by cases h
theorem RepOs.to_sh : ∀ {vs : List V} {ds : List D} {G : Fp}, RepOs K S H vs (ds.map .sh) G → (∀ x, ¬ G x) ∧ Reps K S H vs ds
  | [], [], G, h => by
    simp only [List.map_nil] at h
    unfold RepOs at h
    exact ⟨h, .nil⟩
  | v :: vs, d :: ds, G, h => by
    simp only [List.map_cons] at h
    unfold RepOs at h
    obtain ⟨G1, G2, h1, h2, h3, h4⟩ := h
    unfold RepO at h3
    obtain ⟨e2, r2⟩ := RepOs.to_sh h4
    refine ⟨fun x g => ?_, .cons h3.2 r2⟩
    rcases (h2 x).mp g with g | g
    · exact h3.1 x g
    · exact e2 x g
  | [], _ :: _, G, h => by simp only [List.map_cons] at h; unfold RepOs at h; exact h.elim
  | _ :: _, [], G, h => by simp only [List.map_nil] at h; unfold RepOs at h; exact h.elim
theorem RepOs.length : ∀ {ts : List OT} {vs : List V} {G : Fp}, RepOs K S H vs ts G → vs.length = ts.length
  | [], [], _, _ => rfl
  | t :: ts, v :: vs, G, h => by
    unfold RepOs at h
    obtain ⟨G1, G2, h1, h2, h3, h4⟩ := h
    rw [List.length_cons, List.length_cons, RepOs.length h4]
  | [], _ :: _, _, h => by unfold RepOs at h; exact h.elim
  | _ :: _, [], _, h => by unfold RepOs at h; exact h.elim
end

/-! freezing: the objects of one's own become shared -/
mutual
def OT.fz : OT → Option D
  | .sh d => some d
  | .lst ts => (OT.fzs ts).map .list
  | .dK kds => some (.dict (kds.map fun p => (keyD p.1, p.2)))
  | .dT _ => none
  | .ins _ _ _ => none
def OT.fzs : List OT → Option (List D)
  | [] => some []
  | t :: ts => match OT.fz t, OT.fzs ts with
    | some d, some ds => some (d :: ds)
    | _, _ => none
end
theorem fzs_sh : ∀ ds : List D, OT.fzs (ds.map .sh) = some ds
  | [] => by simp only [List.map_nil]; unfold OT.fzs; rfl
  | d :: ds => by simp only [List.map_cons]; unfold OT.fzs; rw [fzs_sh ds]; unfold OT.fz; rfl
section
variable {K : PySem.W.Frag} {S S' : Addr → Prop} {H H' : Hp}
theorem repK_of : ∀ {kvs : List (Key × V)} {kds : List (Key × D)}, kvs.map (·.1) = kds.map (·.1) → Reps K S H (kvs.map (·.2)) (kds.map (·.2)) → RepK K S H kvs (kds.map fun p => (keyD p.1, p.2))
  | [], [], _, _ => .nil
  | (k, v) :: kvs, (k', d) :: kds, e, h => by
    simp only [List.map_cons, List.cons.injEq] at e
    obtain ⟨e1, e2⟩ := e
    simp only [List.map_cons] at h ⊢
    cases h with
    | cons a b =>
      have e1' : k = k' := e1
      subst e1'
      exact .cons a (repK_of e2 b)
  | [], _ :: _, e, _ => by simp at e
  | _ :: _, [], e, _ => by simp at e
mutual
theorem RepO.fz (sub : ∀ a, S a → S' a) : ∀ {t : OT} {v : V} {G : Fp} {d : D}, RepO K S H v t G → t.fz = some d → (∀ a, G a → S' a) → Rep K S' H v d
  | .sh d, v, G, d', h, e, s => by
    unfold RepO at h
    unfold OT.fz at e
    cases e
    exact h.2.mono ⟨fun _ _ _ e => e, sub⟩
  | .lst ts, v, G, d', h, e, s => by
    unfold RepO at h
    obtain ⟨a, vs, G', h1, h2, h3, h4, h5⟩ := h
    unfold OT.fz at e
    cases q : OT.fzs ts with
    | none => rw [q] at e; cases e
    | some ds =>
      rw [q] at e
      cases e
      subst h1
      exact .lst (.inl ⟨s a ((h4 a).mpr (.inl rfl)), .inl h2⟩) (RepOs.fz sub h5 q fun x hx => s x ((h4 x).mpr (.inr hx)))
  | .dK kds, v, G, d', h, e, s => by
    unfold RepO at h
    obtain ⟨a, kvs, h1, h2, h3, h4, h5⟩ := h
    unfold OT.fz at e
    cases e
    subst h1
    exact .dK (s a ((h3 a).mpr rfl)) h2 (repK_of h4 (h5.mono ⟨fun _ _ _ e => e, sub⟩))
  | .dT _, _, _, _, _, e, _ => by unfold OT.fz at e; cases e
  | .ins _ _ _, _, _, _, _, e, _ => by unfold OT.fz at e; cases e
theorem RepOs.fz (sub : ∀ a, S a → S' a) : ∀ {ts : List OT} {vs : List V} {G : Fp} {ds : List D}, RepOs K S H vs ts G → OT.fzs ts = some ds → (∀ a, G a → S' a) → Reps K S' H vs ds
  | [], [], _, _, _, e, _ => by
    unfold OT.fzs at e
    cases e
    exact .nil
  | t :: ts, v :: vs, G, ds, h, e, s => by
    unfold RepOs at h
    obtain ⟨G1, G2, h1, h2, h3, h4⟩ := h
    unfold OT.fzs at e
    cases q1 : OT.fz t with
    | none => rw [q1] at e; cases e
    | some d =>
      cases q2 : OT.fzs ts with
      | none => rw [q1, q2] at e; cases e
      | some ds' =>
        rw [q1, q2] at e
        cases e
        exact .cons (RepO.fz sub h3 q1 fun x hx => s x ((h2 x).mpr (.inl hx))) (RepOs.fz sub h4 q2 fun x hx => s x ((h2 x).mpr (.inr hx)))
  | [], _ :: _, _, _, h, _, _ => by unfold RepOs at h; exact h.elim
  | _ :: _, [], _, _, h, _, _ => by unfold RepOs at h; exact h.elim
end
end

/-! the state: a slot is empty, or has a tree (b: lent by the caller) -/
inductive Slot where
  | non
  | val (b : Bool) (t : OT)
abbrev Env := List Slot

def SlotOk (K : PySem.W.Frag) (S : Addr → Prop) (H : Hp) (o : Option V) : Slot → Fp → Prop
  | .non, G => ∀ x, ¬ G x
  | .val _ t, G => ∃ v, o = some v ∧ RepO K S H v t G

structure RS (K : PySem.W.Frag) (S : Addr → Prop) (σ : L2.St) (H : Hp) (ρ : Env) (fp : Nat → Fp) : Prop where
  len : ρ.length = σ.length
  live : ∀ a, S a → ∃ o, H a = some o
  slot : ∀ i s, ρ[i]? = some s → SlotOk K S H (σ[i]?.join) s (fp i)
  out : ∀ i a, fp i a → ¬ S a
  dis : ∀ i j a, fp i a → fp j a → i = j
  lim : ∀ i, ρ.length ≤ i → ∀ a, ¬ fp i a

/-- what an evaluation may change. w: whether objects of one's own may be written -/
structure Fr (w : Bool) (S : Addr → Prop) (fp : Nat → Fp) (H : Hp) (S' : Addr → Prop) (fp' : Nat → Fp) (H' : Hp) : Prop where
  keep : ∀ a o, H a = some o → (w = true → ∀ i, ¬ fp i a) → H' a = some o
  live : ∀ a o, H a = some o → ∃ o', H' a = some o'
  sub : ∀ a, S a → S' a
  newS : ∀ a, S' a → S a ∨ (∃ i, fp i a) ∨ H a = none
  newF : ∀ i a, fp' i a → (∃ j, fp j a) ∨ H a = none
section
variable {K : PySem.W.Frag} {S S' S1 S2 : Addr → Prop} {H H' H1 H2 : Hp} {fp fp' fp1 fp2 : Nat → Fp} {w w' : Bool} {σ : L2.St} {ρ ρ' : Env} {v : V} {t : OT} {G : Fp}
theorem Fr.refl : Fr w S fp H S fp H := ⟨fun _ _ e _ => e, fun _ o e => ⟨o, e⟩, fun _ s => s, fun _ s => .inl s, fun i _ h => .inl ⟨i, h⟩⟩
theorem Fr.mono (h : Fr w S fp H S' fp' H') (l : w = true → w' = true) : Fr w' S fp H S' fp' H' :=
  ⟨fun a o e k => h.keep a o e fun hw => k (l hw), h.live, h.sub, h.newS, h.newF⟩
theorem none_of_live (l : ∀ a o, H a = some o → ∃ o', H1 a = some o') {x : Addr} (h : H1 x = none) : H x = none := by
  cases q : H x with
  | none => rfl
  | some o =>
    obtain ⟨o', e⟩ := l x o q
    rw [h] at e; cases e
theorem Fr.trans (a : Fr w S fp H S1 fp1 H1) (b : Fr w S1 fp1 H1 S2 fp2 H2) : Fr w S fp H S2 fp2 H2 := by
  refine ⟨fun x o e k => b.keep x o (a.keep x o e k) fun hw i hi => ?_, fun x o e => ?_, fun x s => b.sub x (a.sub x s), fun x s => ?_, fun i x h => ?_⟩
  · rcases a.newF i x hi with ⟨j, z⟩ | z
    · exact k hw j z
    · rw [e] at z; cases z
  · obtain ⟨o1, e1⟩ := a.live x o e
    exact b.live x o1 e1
  · rcases b.newS x s with z | ⟨i, z⟩ | z
    · exact a.newS x z
    · rcases a.newF i x z with z | z
      · exact .inr (.inl z)
      · exact .inr (.inr z)
    · exact .inr (.inr (none_of_live a.live z))
  · rcases b.newF i x h with ⟨j, z⟩ | z
    · exact a.newF j x z
    · exact .inr (none_of_live a.live z)
/-- shared things stay -/
theorem Fr.ext (f : Fr w S fp H S' fp' H') (out : ∀ i a, fp i a → ¬ S a) : Ext S H S' H' :=
  ⟨fun a o s e => f.keep a o e fun _ i hi => out i a hi s, f.sub⟩
theorem RS.ext (r : RS K S σ H ρ fp) (f : Fr w S fp H S' fp' H') : Ext S H S' H' := f.ext r.out

/-- a tree in hand: its objects are no slot's and not shared -/
structure Hand (K : PySem.W.Frag) (S : Addr → Prop) (fp : Nat → Fp) (H : Hp) (v : V) (t : OT) (G : Fp) : Prop where
  rep : RepO K S H v t G
  out : ∀ a, G a → ¬ S a
  dis : ∀ i a, G a → ¬ fp i a
theorem Hand.fr (h : Hand K S fp H v t G) (r : RS K S σ H ρ fp) (f : Fr w S fp H S' fp' H') : Hand K S' fp' H' v t G := by
  have lv : ∀ a, G a → ∃ o, H a = some o := fun a g => h.rep.live a g
  refine ⟨h.rep.mono (r.ext f) fun a o g e => f.keep a o e fun _ i hi => h.dis i a g hi, fun a g s => ?_, fun i a g hi => ?_⟩
  · obtain ⟨o, e⟩ := lv a g
    rcases f.newS a s with z | ⟨i, z⟩ | z
    · exact h.out a g z
    · exact h.dis i a g z
    · rw [e] at z; cases z
  · obtain ⟨o, e⟩ := lv a g
    rcases f.newF i a hi with ⟨j, z⟩ | z
    · exact h.dis j a g z
    · rw [e] at z; cases z
theorem Hand.of_rep {d : D} (h : Rep K S H v d) : Hand K S fp H v (.sh d) (fun _ => False) :=
  ⟨by unfold RepO; exact ⟨fun _ z => z, h⟩, fun _ z => z.elim, fun _ _ z => z.elim⟩
theorem Hand.rep_sh {d : D} (h : Hand K S fp H v (.sh d) G) : Rep K S H v d := by
  have := h.rep
  unfold RepO at this
  exact this.2

/-! reading slots -/
theorem RS.val (r : RS K S σ H ρ fp) {i : Nat} {b : Bool} (e : ρ[i]? = some (.val b t)) : ∃ v, σ[i]? = some (some v) ∧ RepO K S H v t (fp i) := by
  obtain ⟨v, h1, h2⟩ := r.slot i _ e
  refine ⟨v, ?_, h2⟩
  cases q : σ[i]? with
  | none => rw [q] at h1; cases h1
  | some o => rw [q] at h1; simp at h1; rw [h1]
theorem RS.sh (r : RS K S σ H ρ fp) {i : Nat} {b : Bool} {d : D} (e : ρ[i]? = some (.val b (.sh d))) : ∃ v, σ[i]? = some (some v) ∧ Rep K S H v d := by
  obtain ⟨v, h1, h2⟩ := r.val e
  unfold RepO at h2
  exact ⟨v, h1, h2.2⟩
theorem SlotOk.mono {o : Option V} {s : Slot} (h : SlotOk K S H o s G) (e : Ext S H S' H') (k : ∀ a o, G a → H a = some o → H' a = some o) : SlotOk K S' H' o s G := by
  cases s with
  | non => exact h
  | val b t =>
    obtain ⟨v, h1, h2⟩ := h
    exact ⟨v, h1, h2.mono e k⟩
theorem SlotOk.live {o : Option V} {s : Slot} (h : SlotOk K S H o s G) : ∀ a, G a → ∃ o, H a = some o := by
  cases s with
  | non => exact fun a g => absurd g (h a)
  | val b t =>
    obtain ⟨v, h1, h2⟩ := h
    exact h2.live
theorem RS.flive (r : RS K S σ H ρ fp) (i : Nat) (a : Addr) (h : fp i a) : ∃ o, H a = some o := by
  cases q : ρ[i]? with
  | none => exact absurd h (r.lim i (List.getElem?_eq_none_iff.mp q) a)
  | some s => exact (r.slot i s q).live a h
/-- the heap grows; what is new is shared or no one's -/
theorem RS.grow (r : RS K S σ H ρ fp) (k : ∀ a o, H a = some o → H' a = some o) (sub : ∀ a, S a → S' a) (new : ∀ a, S' a → S a ∨ (H a = none ∧ ∃ o, H' a = some o)) : RS K S' σ H' ρ fp := by
  refine ⟨r.len, fun a s => ?_, fun i s e => (r.slot i s e).mono ⟨fun a o _ e => k a o e, sub⟩ fun a o _ e => k a o e, fun i a h s => ?_, r.dis, r.lim⟩
  · rcases new a s with z | z
    · obtain ⟨o, e⟩ := r.live a z
      exact ⟨o, k a o e⟩
    · exact z.2
  · rcases new a s with z | z
    · exact r.out i a h z
    · obtain ⟨o, e⟩ := r.flive i a h
      rw [z.1] at e; cases e
theorem Fr.grow (k : ∀ a o, H a = some o → H' a = some o) (sub : ∀ a, S a → S' a) (new : ∀ a, S' a → S a ∨ H a = none) : Fr w S fp H S' fp H' :=
  ⟨fun a o e _ => k a o e, fun a o e => ⟨o, k a o e⟩, sub, fun a s => (new a s).elim .inl fun z => .inr (.inr z), fun i _ h => .inl ⟨i, h⟩⟩
theorem upd_grow {p : Addr} {u : HO} (hp : H p = none) : ∀ a o, H a = some o → upd H p u a = some o := fun a o e => by
  rw [upd_ne (ne_of_none e hp)]; exact e
/-- shared with one more -/
def Sp1 (S : Addr → Prop) (p : Addr) : Addr → Prop := fun a => S a ∨ a = p
theorem RS.new (r : RS K S σ H ρ fp) {p : Addr} {u : HO} (hp : H p = none) : RS K (Sp1 S p) σ (upd H p u) ρ fp :=
  r.grow (upd_grow hp) (fun _ s => .inl s) fun a s => s.elim .inl fun z => .inr (by subst z; exact ⟨hp, _, upd_same⟩)
theorem Fr.new {p : Addr} {u : HO} (hp : H p = none) : Fr w S fp H (Sp1 S p) fp (upd H p u) :=
  Fr.grow (upd_grow hp) (fun _ s => .inl s) fun a s => s.elim .inl fun z => .inr (by subst z; exact hp)
theorem Ext.new {p : Addr} {u : HO} (hp : H p = none) : Ext S H (Sp1 S p) (upd H p u) := ⟨fun a o _ e => upd_grow hp a o e, fun _ s => .inl s⟩

/-! storing -/
def setF (fp : Nat → Fp) (i : Nat) (G : Fp) : Nat → Fp := fun j => if j = i then G else fp j
theorem setF_same {i : Nat} : setF fp i G i = G := by unfold setF; rw [if_pos rfl]
theorem setF_ne {i j : Nat} (h : j ≠ i) : setF fp i G j = fp j := by unfold setF; rw [if_neg h]
theorem RS.set (r : RS K S σ H ρ fp) (h : Hand K S fp H v t G) {i : Nat} (hi : i < ρ.length) (b : Bool) : RS K S (σ.set i (some v)) H (ρ.set i (.val b t)) (setF fp i G) := by
  refine ⟨by rw [List.length_set, List.length_set, r.len], r.live, fun j s e => ?_, fun j a g => ?_, fun j k a g1 g2 => ?_, fun j hj a g => ?_⟩
  · by_cases hj : j = i
    · subst hj
      rw [List.getElem?_set_self hi] at e
      cases e
      rw [setF_same]
      exact ⟨v, by rw [List.getElem?_set_self (by rw [← r.len]; exact hi)]; rfl, h.rep⟩
    · rw [List.getElem?_set_ne (Ne.symm hj)] at e
      rw [setF_ne hj, List.getElem?_set_ne (Ne.symm hj)]
      exact r.slot j s e
  · by_cases hj : j = i
    · subst hj; rw [setF_same] at g; exact h.out a g
    · rw [setF_ne hj] at g; exact r.out j a g
  · by_cases hj : j = i
    · subst hj
      by_cases hk : k = j
      · exact hk.symm
      · rw [setF_same] at g1; rw [setF_ne hk] at g2
        exact absurd g2 (h.dis k a g1)
    · rw [setF_ne hj] at g1
      by_cases hk : k = i
      · subst hk; rw [setF_same] at g2; exact absurd g1 (h.dis j a g2)
      · rw [setF_ne hk] at g2; exact r.dis j k a g1 g2
  · rw [List.length_set] at hj
    have hj' : j ≠ i := by omega
    rw [setF_ne hj'] at g
    exact r.lim j hj a g
/-- what was a slot's own is no one's -/
theorem RS.drop (r : RS K S σ H ρ fp) {i : Nat} (o : Option V) : RS K S (σ.set i o) H (ρ.set i .non) (setF fp i fun _ => False) := by
  refine ⟨by rw [List.length_set, List.length_set, r.len], r.live, fun j s e => ?_, fun j a g => ?_, fun j k a g1 g2 => ?_, fun j hj a g => ?_⟩
  · by_cases hj : j = i
    · subst hj
      rw [setF_same]
      by_cases hl : j < ρ.length
      · rw [List.getElem?_set_self hl] at e
        cases e
        exact fun _ z => z
      · rw [List.getElem?_eq_none (by simpa using hl)] at e; cases e
    · rw [List.getElem?_set_ne (Ne.symm hj)] at e
      rw [setF_ne hj, List.getElem?_set_ne (Ne.symm hj)]
      exact r.slot j s e
  · by_cases hj : j = i
    · subst hj; rw [setF_same] at g; exact g.elim
    · rw [setF_ne hj] at g; exact r.out j a g
  · by_cases hj : j = i
    · subst hj; rw [setF_same] at g1; exact g1.elim
    · rw [setF_ne hj] at g1
      by_cases hk : k = i
      · subst hk; rw [setF_same] at g2; exact g2.elim
      · rw [setF_ne hk] at g2; exact r.dis j k a g1 g2
  · rw [List.length_set] at hj
    by_cases hj' : j = i
    · subst hj'; rw [setF_same] at g; exact g
    · rw [setF_ne hj'] at g; exact r.lim j hj a g
/-- a slot's own things become shared -/
theorem RS.freeze (r : RS K S σ H ρ fp) {i : Nat} {b : Bool} {d : D} (e : ρ[i]? = some (.val b t)) (hd : t.fz = some d) :
    RS K (fun a => S a ∨ fp i a) σ H (ρ.set i (.val b (.sh d))) (setF fp i fun _ => False) ∧ Fr w S fp H (fun a => S a ∨ fp i a) (setF fp i fun _ => False) H ∧ ∃ v, σ[i]? = some (some v) ∧ Rep K (fun a => S a ∨ fp i a) H v d := by
  obtain ⟨v, h1, h2⟩ := r.val e
  have rep : Rep K (fun a => S a ∨ fp i a) H v d := h2.fz (fun _ s => .inl s) hd fun _ g => .inr g
  have hi : i < ρ.length := (List.getElem?_eq_some_iff.mp e).1
  refine ⟨⟨by rw [List.length_set, r.len], fun a s => s.elim (r.live a) (r.flive i a), fun j s e' => ?_, fun j a g => ?_, fun j k a g1 g2 => ?_, fun j hj a g => ?_⟩,
    ⟨fun _ _ e _ => e, fun _ o e => ⟨o, e⟩, fun _ s => .inl s, fun a s => s.elim .inl fun z => .inr (.inl ⟨i, z⟩), fun j a g => ?_⟩, v, h1, rep⟩
  · by_cases hj : j = i
    · subst hj
      rw [List.getElem?_set_self hi] at e'
      cases e'
      rw [setF_same]
      refine ⟨v, by rw [h1]; rfl, ?_⟩
      unfold RepO
      exact ⟨fun _ z => z, rep⟩
    · rw [List.getElem?_set_ne (Ne.symm hj)] at e'
      rw [setF_ne hj]
      exact (r.slot j s e').mono ⟨fun _ _ _ e => e, fun _ s => .inl s⟩ fun _ _ _ e => e
  · by_cases hj : j = i
    · subst hj; rw [setF_same] at g; exact g.elim
    · rw [setF_ne hj] at g
      exact fun s => s.elim (r.out j a g) fun z => hj (r.dis j i a g z)
  · by_cases hj : j = i
    · subst hj; rw [setF_same] at g1; exact g1.elim
    · rw [setF_ne hj] at g1
      by_cases hk : k = i
      · subst hk; rw [setF_same] at g2; exact g2.elim
      · rw [setF_ne hk] at g2; exact r.dis j k a g1 g2
  · rw [List.length_set] at hj
    have hj' : j ≠ i := by omega
    rw [setF_ne hj'] at g; exact r.lim j hj a g
  · by_cases hj : j = i
    · subst hj; rw [setF_same] at g; exact g.elim
    · rw [setF_ne hj] at g; exact .inl ⟨j, g⟩
/-- a slot's own tree is written: its root stays where it is; G0: objects in hand that come in -/
theorem RS.write (r : RS K S σ H ρ fp) {i : Nat} {b : Bool} {t t' : OT} {v : V} {G' : Fp} (e : ρ[i]? = some (.val b t)) (hv : σ[i]? = some (some v))
    (kp : ∀ a o, H a = some o → ¬ fp i a → H' a = some o) (lv : ∀ a o, H a = some o → ∃ o', H' a = some o')
    (hG : ∀ a, G' a → fp i a ∨ (¬ S a ∧ ∀ j, ¬ fp j a)) (h : RepO K S H' v t' G') : RS K S σ H' (ρ.set i (.val b t')) (setF fp i G') := by
  have hi : i < ρ.length := (List.getElem?_eq_some_iff.mp e).1
  have ex : Ext S H S H' := ⟨fun a o s e => kp a o e fun g => r.out i a g s, fun _ s => s⟩
  refine ⟨by rw [List.length_set, r.len], fun a s => ?_, fun j s e' => ?_, fun j a g => ?_, fun j l a g1 g2 => ?_, fun j hj a g => ?_⟩
  · obtain ⟨o, e⟩ := r.live a s
    exact lv a o e
  · by_cases hj : j = i
    · subst hj
      rw [List.getElem?_set_self hi] at e'
      cases e'
      rw [setF_same]
      exact ⟨v, by rw [hv]; rfl, h⟩
    · rw [List.getElem?_set_ne (Ne.symm hj)] at e'
      rw [setF_ne hj]
      exact (r.slot j s e').mono ex fun a o g e => kp a o e fun z => hj (r.dis j i a g z)
  · by_cases hj : j = i
    · subst hj; rw [setF_same] at g
      exact (hG a g).elim (r.out j a) fun z => z.1
    · rw [setF_ne hj] at g; exact r.out j a g
  · by_cases hj : j = i
    · subst hj
      by_cases hl : l = j
      · exact hl.symm
      · rw [setF_same] at g1; rw [setF_ne hl] at g2
        exact (hG a g1).elim (fun z => r.dis j l a z g2) fun z => absurd g2 (z.2 l)
    · rw [setF_ne hj] at g1
      by_cases hl : l = i
      · subst hl; rw [setF_same] at g2
        exact (hG a g2).elim (fun z => r.dis j l a g1 z) fun z => absurd g1 (z.2 j)
      · rw [setF_ne hl] at g2; exact r.dis j l a g1 g2
  · rw [List.length_set] at hj
    have hj' : j ≠ i := by omega
    rw [setF_ne hj'] at g; exact r.lim j hj a g
variable {S0 : Addr → Prop} {fp0 : Nat → Fp} {H0 : Hp}
theorem Fr.write (f : Fr w S0 fp0 H0 S fp H) {i : Nat} {G' : Fp} (kp : ∀ a o, H a = some o → ¬ fp i a → H' a = some o) (lv : ∀ a o, H a = some o → ∃ o', H' a = some o')
    (hG : ∀ a, G' a → fp i a ∨ H0 a = none) : Fr true S0 fp0 H0 S (setF fp i G') H' := by
  refine ⟨fun a o e k' => ?_, fun a o e => ?_, f.sub, f.newS, fun j a g => ?_⟩
  · have e1 := f.keep a o e fun _ => k' rfl
    refine kp a o e1 fun g => ?_
    rcases f.newF i a g with ⟨j, z⟩ | z
    · exact k' rfl j z
    · rw [e] at z; cases z
  · obtain ⟨o1, e1⟩ := f.live a o e
    exact lv a o1 e1
  · by_cases hj : j = i
    · subst hj; rw [setF_same] at g
      exact (hG a g).elim (f.newF j a) .inr
    · rw [setF_ne hj] at g; exact f.newF j a g
/-- what is in hand goes into a slot -/
theorem Fr.set (f : Fr w S0 fp0 H0 S fp H) {i : Nat} (hG : ∀ a, G a → (∃ j, fp0 j a) ∨ H0 a = none) : Fr w S0 fp0 H0 S (setF fp i G) H := by
  refine ⟨f.keep, f.live, f.sub, f.newS, fun j a g => ?_⟩
  by_cases hj : j = i
  · subst hj; rw [setF_same] at g; exact hG a g
  · rw [setF_ne hj] at g; exact f.newF j a g
end
end Pv

set_option Elab.async false
set_option linter.all false
set_option maxRecDepth 100000
set_option maxHeartbeats 4000000
/-! operations on data, and the rules that keep them -/
namespace Pv
open PySem L2

/-- the heap grows, what is new is shared -/
structure Al (S : Addr → Prop) (H : Hp) (S' : Addr → Prop) (H' : Hp) : Prop where
  keep : ∀ a o, H a = some o → H' a = some o
  sub : ∀ a, S a → S' a
  new : ∀ a, S' a → S a ∨ (H a = none ∧ ∃ o, H' a = some o)
section
variable {K : PySem.W.Frag} {S S' S1 : Addr → Prop} {H H' H1 : Hp} {fp : Nat → Fp} {w : Bool} {σ : L2.St} {ρ : Env}
theorem Al.refl : Al S H S H := ⟨fun _ _ e => e, fun _ s => s, fun _ s => .inl s⟩
theorem Al.ext (a : Al S H S' H') : Ext S H S' H' := ⟨fun x o _ e => a.keep x o e, a.sub⟩
theorem Al.one {p : Addr} {u : HO} (hp : H p = none) : Al S H (Sp1 S p) (upd H p u) :=
  ⟨upd_grow hp, fun _ s => .inl s, fun a s => s.elim .inl fun z => .inr (by subst z; exact ⟨hp, _, upd_same⟩)⟩
theorem RS.al (r : RS K S σ H ρ fp) (a : Al S H S' H') : RS K S' σ H' ρ fp := r.grow a.keep a.sub a.new
theorem Al.fr (a : Al S H S' H') : Fr w S fp H S' fp H' := Fr.grow a.keep a.sub fun x s => (a.new x s).elim .inl fun z => .inr z.1
theorem Al.trans (a : Al S H S1 H1) (b : Al S1 H1 S' H') : Al S H S' H' := by
  refine ⟨fun x o e => b.keep x o (a.keep x o e), fun x s => b.sub x (a.sub x s), fun x s => ?_⟩
  rcases b.new x s with z | ⟨z1, z2⟩
  · rcases a.new x z with z | ⟨z1, o, z2⟩
    · exact .inl z
    · exact .inr ⟨z1, o, b.keep x o z2⟩
  · refine .inr ⟨?_, z2⟩
    cases q : H x with
    | none => rfl
    | some o => rw [a.keep x o q] at z1; cases z1
theorem rep_lst {vs : List V} {ds : List D} {p : Addr} (hp : H p = none) (r : Reps K S H vs ds) : Rep K (Sp1 S p) (upd H p (.lst vs)) (.ref p) (.list ds) :=
  .lst (.inl ⟨.inr rfl, .inl upd_same⟩) (r.mono (Ext.new hp))
theorem rep_tup {vs : List V} {ds : List D} {p : Addr} (hp : H p = none) (r : Reps K S H vs ds) : Rep K (Sp1 S p) (upd H p (.tup vs)) (.ref p) (.tuple ds) :=
  .tup (.inl ⟨.inr rfl, .inl upd_same⟩) (r.mono (Ext.new hp))
end

/-- a result: the heap may have grown -/
def Give (K : PySem.W.Frag) (S : Addr → Prop) (H : Hp) (d : D) (Q : VK) : Prop := ∀ S' v H', Al S H S' H' → Rep K S' H' v d → Q v H'
def rD2 (K : PySem.W.Frag) (g : D → D → Option D) : R2 := fun x y H Q => ∃ S d1 d2 d, Rep K S H x d1 ∧ Rep K S H y d2 ∧ g d1 d2 = some d ∧ Give K S H d Q
def rD1 (K : PySem.W.Frag) (g : D → Option D) : V → Hp → VK → Prop := fun x H Q => ∃ S d1 d, Rep K S H x d1 ∧ g d1 = some d ∧ Give K S H d Q
def rDn (K : PySem.W.Frag) (g : List D → Option D) : List V → Hp → VK → Prop := fun xs H Q => ∃ S ds d, Reps K S H xs ds ∧ g ds = some d ∧ Give K S H d Q
/-- scalars -/
def sV : D → Option V
  | .none => some .non
  | .bool b => some (.bl b)
  | .int i => some (.int i)
  | .str x => some (.str x)
  | _ => none
def AllS : Addr → Prop := fun _ => True
def rS2 (K : PySem.W.Frag) (g : D → D → Option D) : R2 := fun x y H Q => ∃ d1 d2 d v, Rep K AllS H x d1 ∧ Rep K AllS H y d2 ∧ g d1 d2 = some d ∧ sV d = some v ∧ Q v H
section
variable {K : PySem.W.Frag} {S : Addr → Prop} {H : Hp} {Q : VK}
theorem Give.here {d : D} {v : V} (g : Give K S H d Q) (r : Rep K S H v d) : Q v H := g S v H Al.refl r
theorem Rep.all {v : V} {d : D} (r : Rep K S H v d) : Rep K AllS H v d := r.mono ⟨fun _ _ _ e => e, fun _ _ => trivial⟩
theorem sV_rep {d : D} {v : V} (e : sV d = some v) : Rep K S H v d := by
  cases d <;> simp [sV] at e <;> subst e <;> constructor
end

/-! ### operators -/
def mulOk (a b : Int) : Bool := decide (a.natAbs < 2 ^ 64) || decide (b.natAbs < 2 ^ 64) || decide (Builtin.Int.intBits a + Builtin.Int.intBits b ≤ 134217728)
inductive O2 | add | sub | mul | fdiv | mod | pow | shl
  deriving DecidableEq
def O2.op : O2 → Operator
  | .add => .Add | .sub => .Sub | .mul => .Mult | .fdiv => .FloorDiv | .mod => .Mod | .pow => .Pow | .shl => .LShift
def O2.f : O2 → D → D → Option D
  | .add, .int a, .int b => some (.int (a + b))
  | .add, .str a, .str b => if a.length + b.length ≤ sizeLine then some (.str (a ++ b)) else none
  | .add, .list a, .list b => if a.length + b.length ≤ sizeLine then some (.list (a ++ b)) else none
  | .add, .tuple a, .tuple b => if a.length + b.length ≤ sizeLine then some (.tuple (a ++ b)) else none
  | .sub, .int a, .int b => some (.int (a - b))
  | .mul, .int a, .int b => if mulOk a b then some (.int (a * b)) else none
  | .mul, .tuple a, .int b => if a.length ≤ 1000 ∧ a ≠ [] ∧ 2 ≤ b ∧ b ≤ 1000 then some (.tuple (List.replicate b.toNat a).flatten) else none
  | .fdiv, .int a, .int b => if 0 < b ∧ Builtin.divisionGoesByPylong a b = false then some (.int (a / b)) else none
  | .mod, .int a, .int b => if 0 < b then some (.int (a % b)) else none
  | .pow, .int a, .int b => if 0 ≤ b ∧ b ≤ 1000000 ∧ a.natAbs < 2 ^ 64 then some (.int (a ^ b.toNat)) else none
  | .shl, .int a, .int b => if 0 ≤ b ∧ b ≤ 1000000 ∧ a.natAbs < 2 ^ 64 then some (.int (a * 2 ^ b.toNat)) else none
  | _, _, _ => none
section
variable {X : Cx} {pins : List (Addr × Obj)} {σ : L2.St} {H : Hp} {s : Shared}
theorem cat_any {l b : Addr} {xs zs : List V} {Q : VK} (I : Inv X pins σ H s) (hl : SqL X.K H l xs) (hb : SqL X.K H b zs) (hz : xs.length + zs.length ≤ sizeLine)
    (q : ∀ p, H p = none → Q (.ref p) (upd H p (.lst (xs ++ zs)))) : wpAny (model X.prog X.w) X.A (binaryOp .Add (.ref l) (.ref b)) (EP X pins σ Q) X.xe s := by
  obtain ⟨its, r, ⟨⟨cls, dd, data, sl⟩, n, ho, hc, hd0, hd⟩, _⟩ := I.list hl
  obtain ⟨its2, r2, ⟨⟨cls2, dd2, data2, sl2⟩, n2, ho2, hc2, hd02, hd2⟩, _⟩ := I.list hb
  simp only at hc hd hc2 hd2
  subst hc hd hc2 hd2
  have e : its.toArray ++ its2.toArray = (its ++ its2).toArray := by simp
  have h1 := r.length
  have h2 := r2.length
  refine concat_meets ⟨_, ho, rfl⟩ ⟨_, ho2, rfl⟩ noFill_list_add seq_list_add PySem.F.slot_list_add PySem.F.entry_list_add (PySem.F.args_list_add_2 _ _) (PyProof.Rows.list_addW l b its.toArray its2.toArray n n2 dd dd2 sl sl2 (by simp only [List.size_toArray]; omega)) ⟨ho, ho2, ?_⟩
  rw [e]
  exact ⟨.ref _, _, I.lnew (t' := s.toks) (r.append r2) (by rw [List.length_append]; omega), rfl, q _ I.fresh⟩
theorem fdiv_any {i j : Int} {t u : Tok} {Q : VK} (I : Inv X pins σ H s) (h0 : 0 < j) (h1 : Builtin.divisionGoesByPylong i j = false) (q : Q (.int (i / j)) H) :
    wpAny (model X.prog X.w) X.A (binaryOp .FloorDiv (.int i t) (.int j u)) (EP X pins σ Q) X.xe s :=
  PyProof.Rows.floordiv_int (by omega) (by rw [Int.fdiv_eq_ediv_of_nonneg i (by omega)]; exact ⟨.int _, H, I.tok _, ⟨_, rfl⟩, q⟩) (.inl h1)
end
section
variable {X : Cx}
theorem O2.rule : ∀ o : O2, OpR X (binaryOp o.op) (rD2 X.K o.f) := by
  intro o pins s σ H x y v u Q I rx ry h
  obtain ⟨S, d1, d2, d, r1, r2, e, q⟩ := h
  cases o with
  | add =>
    cases d1 <;> cases d2 <;> simp only [O2.f, reduceCtorEq] at e
    case int.int a b =>
      cases r1; cases r2; cases e
      exact op_add pins s σ H _ _ v u Q I rx ry ⟨a, b, rfl, rfl, q.here (.int _)⟩
    case str.str a b =>
      cases r1; cases r2
      split at e
      · cases e
        exact op_add_str pins s σ H _ _ v u Q I rx ry ⟨a, b, rfl, rfl, by assumption, q.here (.str _)⟩
      · cases e
    case list.list a b =>
      cases r1 with
      | lst l1 q1 =>
        cases r2 with
        | lst l2 q2 =>
          split at e
          · cases e
            cases rx; cases ry
            exact cat_any I l1.sq l2.sq (by rw [q1.length, q2.length]; assumption) fun p hp => q _ _ _ (Al.one hp) (rep_lst hp (q1.append q2))
          · cases e
    case tuple.tuple a b =>
      cases r1 with
      | tup l1 q1 =>
        cases r2 with
        | tup l2 q2 =>
          split at e
          · cases e
            refine op_catA pins s σ H _ _ v u Q I rx ry ⟨_, _, _, _, rfl, rfl, l1.sq, l2.sq, by rw [q1.length, q2.length]; assumption, fun e1 => ?_, fun _ e2 => ?_, fun _ _ p hp => q _ _ _ (Al.one hp) (rep_tup hp (q1.append q2))⟩
            · subst e1
              cases q1
              exact q.here (.tup l2 q2)
            · subst e2
              cases q2
              exact q.here (by rw [List.append_nil]; exact .tup l1 q1)
          · cases e
  | sub =>
    cases d1 <;> cases d2 <;> simp only [O2.f, reduceCtorEq] at e
    case int.int a b =>
      cases r1; cases r2; cases e
      exact op_sub pins s σ H _ _ v u Q I rx ry ⟨a, b, rfl, rfl, q.here (.int _)⟩
  | mul =>
    cases d1 <;> cases d2 <;> simp only [O2.f, reduceCtorEq] at e
    case int.int a b =>
      cases r1; cases r2
      split at e
      · rename_i hm
        cases e
        unfold mulOk at hm
        rw [Bool.or_eq_true, Bool.or_eq_true, decide_eq_true_eq, decide_eq_true_eq, decide_eq_true_eq] at hm
        rcases hm with (hm | hm) | hm
        · exact op_mul pins s σ H _ _ v u Q I rx ry ⟨a, b, rfl, rfl, .inl ⟨by omega, by omega⟩, q.here (.int _)⟩
        · exact op_mul pins s σ H _ _ v u Q I rx ry ⟨a, b, rfl, rfl, .inr ⟨by omega, by omega⟩, q.here (.int _)⟩
        · exact op_mulX pins s σ H _ _ v u Q I rx ry ⟨a, b, rfl, rfl, by unfold CMulX; omega, q.here (.int _)⟩
      · cases e
    case tuple.int a b =>
      cases r1 with
      | tup l1 q1 =>
        cases r2
        split at e
        · rename_i hm
          cases e
          have hl := q1.length
          refine op_repT pins s σ H _ _ v u Q I rx ry ⟨_, b, _, rfl, rfl, l1.sq, fun z => ?_, hm.2.2.1, hm.2.2.2, by omega, fun p hp => q _ _ _ (Al.one hp) (rep_tup hp ?_)⟩
          · subst z
            cases q1
            exact hm.2.1 rfl
          · generalize b.toNat = n
            induction n with
            | zero => exact .nil
            | succ n ih =>
              rw [List.replicate_succ, List.replicate_succ, List.flatten_cons, List.flatten_cons]
              exact q1.append ih
        · cases e
  | fdiv =>
    cases d1 <;> cases d2 <;> simp only [O2.f, reduceCtorEq] at e
    case int.int a b =>
      cases r1; cases r2
      split at e
      · rename_i hm
        cases e
        obtain ⟨t, rfl⟩ := rx
        obtain ⟨t', rfl⟩ := ry
        exact fdiv_any I hm.1 hm.2 (q.here (.int _))
      · cases e
  | mod =>
    cases d1 <;> cases d2 <;> simp only [O2.f, reduceCtorEq] at e
    case int.int a b =>
      cases r1; cases r2
      split at e
      · cases e
        exact op_mod pins s σ H _ _ v u Q I rx ry ⟨a, b, rfl, rfl, by assumption, q.here (.int _)⟩
      · cases e
  | pow =>
    cases d1 <;> cases d2 <;> simp only [O2.f, reduceCtorEq] at e
    case int.int a b =>
      cases r1; cases r2
      split at e
      · cases e
        exact op_pow pins s σ H _ _ v u Q I rx ry ⟨a, b, rfl, rfl, by assumption, q.here (.int _)⟩
      · cases e
  | shl =>
    cases d1 <;> cases d2 <;> simp only [O2.f, reduceCtorEq] at e
    case int.int a b =>
      cases r1; cases r2
      split at e
      · cases e
        exact op_shl pins s σ H _ _ v u Q I rx ry ⟨a, b, rfl, rfl, by assumption, q.here (.int _)⟩
      · cases e
end
end Pv

set_option Elab.async false
set_option linter.all false
set_option maxRecDepth 100000
set_option maxHeartbeats 4000000
/-! comparisons -/
namespace Pv
open PySem L2

def flatD : D → Bool
  | .none => true | .bool _ => true | .int _ => true | .str _ => true | _ => false
def inD (x : D) (xs : List D) : Bool := xs.any fun y => PyData.eqv y x
def eqD : D → D → Option Bool
  | .str a, .str b => some (decide (a = b))
  | .int a, .int b => some (decide (a = b))
  | .bool a, .bool b => some (decide (a = b))
  | d, e => if SeqAt.shaped d = true ∧ SeqAt.shaped e = true then some (PyData.eqv d e) else none
def memD (x : D) : D → Option Bool
  | .list xs => if flatD x = true ∧ xs.all flatD = true then some (inD x xs) else none
  | .tuple xs => if flatD x = true ∧ xs.all flatD = true then some (inD x xs) else none
  | _ => none
inductive C2 | eq | ne | lt | le | gt | ge | is | isnot | isin | notin
  deriving DecidableEq
def C2.op : C2 → CmpOp
  | .eq => .Eq | .ne => .NotEq | .lt => .Lt | .le => .LtE | .gt => .Gt | .ge => .GtE | .is => .Is | .isnot => .IsNot | .isin => .In | .notin => .NotIn
def C2.b : C2 → D → D → Option Bool
  | .eq, d, e => eqD d e
  | .ne, d, e => (eqD d e).map not
  | .lt, .int a, .int b => some (decide (a < b))
  | .le, .int a, .int b => some (decide (a ≤ b))
  | .gt, .int a, .int b => some (decide (b < a))
  | .ge, .int a, .int b => some (decide (b ≤ a))
  | .is, .none, .none => some true
  | .is, _, .none => some false
  | .isnot, .none, .none => some false
  | .isnot, _, .none => some true
  | .isin, x, xs => memD x xs
  | .notin, x, xs => (memD x xs).map not
  | _, _, _ => none
def C2.f (o : C2) (d e : D) : Option D := (o.b d e).map .bool

section
variable {K : PySem.W.Frag} {S : Addr → Prop} {H : Hp}
theorem Rep.flatV {v : V} {d : D} (r : Rep K S H v d) (f : flatD d = true) : L2.flatV v = true := by
  cases r <;> first | rfl | (exact absurd f (by simp [flatD]))
theorem Reps.flatV : ∀ {vs : List V} {ds : List D}, Reps K S H vs ds → ds.all flatD = true → vs.all L2.flatV = true
  | _, _, .nil, _ => rfl
  | _, _, .cons a b, f => by
    rw [List.all_cons, Bool.and_eq_true] at f
    rw [List.all_cons, a.flatV f.1, Reps.flatV b f.2]; rfl
theorem eqv_flat {v u : V} {d e : D} (r : Rep K S H v d) (q : Rep K S H u e) (f : flatD d = true) (g : flatD e = true) : L2.eqV v u = PyData.eqv d e := by
  cases r <;> cases q <;> first | rfl | (exact absurd f (by simp [flatD])) | (exact absurd g (by simp [flatD])) | (simp [L2.eqV, PyData.eqv])
theorem inV_eq {x : V} {d : D} (r : Rep K S H x d) (f : flatD d = true) : ∀ {vs : List V} {ds : List D}, Reps K S H vs ds → ds.all flatD = true → L2.inV x vs = inD d ds
  | _, _, .nil, _ => rfl
  | _, _, .cons a b, g => by
    rw [List.all_cons, Bool.and_eq_true] at g
    have ih := inV_eq r f b g.2
    unfold L2.inV inD at ih ⊢
    rw [List.any_cons, List.any_cons, ih, eqv_flat a r g.1 f]
end
section
variable {X : Cx}
theorem eq_rule (hu : X.A.units + 64 < cLine) {pins : List (Addr × Obj)} {s : Shared} {σ : L2.St} {H : Hp} {x y : V} {v u : Value} {Q : VK} {d1 d2 : D} {k : Bool} (I : Inv X pins σ H s) (rx : RelV x v) (ry : RelV y u)
    (r1 : Rep X.K AllS H x d1) (r2 : Rep X.K AllS H y d2) (e : eqD d1 d2 = some k) (q : Q (.bl k) H) : wpAny (model X.prog X.w) X.A (compareOp .Eq v u) (EP X pins σ Q) X.xe s := by
  unfold eqD at e
  split at e
  · cases r1; cases r2; cases e
    exact op_eq pins s σ H _ _ v u Q I rx ry ⟨rfl, by simpa using q⟩
  · cases r1; cases r2; cases e
    exact op_eq pins s σ H _ _ v u Q I rx ry ⟨rfl, by simpa using q⟩
  · cases r1; cases r2; cases e
    exact op_eq pins s σ H _ _ v u Q I rx ry ⟨rfl, by simpa using q⟩
  · split at e
    · rename_i hs
      cases e
      exact op_eqD hu pins s σ H _ _ v u Q I rx ry ⟨d1, d2, r1.dp (SeqAt.canLay_of_shaped hs.1), r2.dp (SeqAt.canLay_of_shaped hs.2), hs.1, hs.2, q⟩
    · cases e
theorem ne_rule (hu : X.A.units + 64 < cLine) {pins : List (Addr × Obj)} {s : Shared} {σ : L2.St} {H : Hp} {x y : V} {v u : Value} {Q : VK} {d1 d2 : D} {k : Bool} (I : Inv X pins σ H s) (rx : RelV x v) (ry : RelV y u)
    (r1 : Rep X.K AllS H x d1) (r2 : Rep X.K AllS H y d2) (e : eqD d1 d2 = some k) (q : Q (.bl (!k)) H) : wpAny (model X.prog X.w) X.A (compareOp .NotEq v u) (EP X pins σ Q) X.xe s := by
  unfold eqD at e
  split at e
  · cases r1; cases r2; cases e
    exact op_ne pins s σ H _ _ v u Q I rx ry ⟨rfl, by simpa using q⟩
  · cases r1; cases r2; cases e
    exact op_ne pins s σ H _ _ v u Q I rx ry ⟨rfl, by simpa using q⟩
  · cases r1; cases r2; cases e
    exact op_ne pins s σ H _ _ v u Q I rx ry ⟨rfl, by simpa using q⟩
  · split at e
    · rename_i hs
      cases e
      exact op_neD hu pins s σ H _ _ v u Q I rx ry ⟨d1, d2, r1.dp (SeqAt.canLay_of_shaped hs.1), r2.dp (SeqAt.canLay_of_shaped hs.2), hs.1, hs.2, q⟩
    · cases e
theorem mem_rule {neg : Bool} {pins : List (Addr × Obj)} {s : Shared} {σ : L2.St} {H : Hp} {x y : V} {v u : Value} {Q : VK} {d1 d2 : D} {k : Bool} (I : Inv X pins σ H s) (rx : RelV x v) (ry : RelV y u)
    (r1 : Rep X.K AllS H x d1) (r2 : Rep X.K AllS H y d2) (e : memD d1 d2 = some k) (q : Q (.bl (if neg then !k else k)) H) : wpAny (model X.prog X.w) X.A (compareOp (if neg then .NotIn else .In) v u) (EP X pins σ Q) X.xe s := by
  have go : ∀ {p : Addr} {vs : List V} {ds : List D}, y = .ref p → (SqL X.K H p vs ∨ SqT X.K H p vs) → Reps X.K AllS H vs ds → flatD d1 = true ∧ ds.all flatD = true → k = inD d1 ds →
      wpAny (model X.prog X.w) X.A (compareOp (if neg then .NotIn else .In) v u) (EP X pins σ Q) X.xe s := by
    intro p vs ds ey hq rs hf hk
    subst hk
    have q' : rIn X.K neg x y H Q := ⟨p, vs, ey, hq, r1.flatV hf.1, rs.flatV hf.2, by rw [inV_eq r1 hf.1 rs hf.2]; exact q⟩
    cases neg with
    | true => exact op_notIn_seq pins s σ H x y v u Q I rx ry q'
    | false => exact op_in_seq pins s σ H x y v u Q I rx ry q'
  cases d2 <;> simp only [memD, reduceCtorEq] at e
  case list ds =>
    split at e
    · cases e
      cases r2 with
      | lst l rs => exact go rfl (.inl l.sq) rs (by assumption) rfl
    · cases e
  case tuple ds =>
    split at e
    · cases e
      cases r2 with
      | tup l rs => exact go rfl (.inr l.sq) rs (by assumption) rfl
    · cases e
theorem C2.rule (hu : X.A.units + 64 < cLine) : ∀ o : C2, OpR X (compareOp o.op) (rS2 X.K o.f) := by
  intro o pins s σ H x y v u Q I rx ry h
  obtain ⟨d1, d2, d, w, r1, r2, e, ev, q⟩ := h
  unfold C2.f at e
  cases e1 : o.b d1 d2 with
  | none => rw [e1] at e; cases e
  | some k =>
    rw [e1] at e
    cases e
    cases ev
    cases o with
    | eq => exact eq_rule hu I rx ry r1 r2 e1 q
    | ne =>
      cases e2 : eqD d1 d2 with
      | none => simp [C2.b, e2] at e1
      | some j =>
        simp [C2.b, e2] at e1
        subst e1
        exact ne_rule hu I rx ry r1 r2 e2 (by simpa using q)
    | lt =>
      cases d1 <;> cases d2 <;> simp only [C2.b, reduceCtorEq] at e1
      cases r1; cases r2; cases e1
      exact op_lt pins s σ H _ _ v u Q I rx ry ⟨_, _, rfl, rfl, q⟩
    | le =>
      cases d1 <;> cases d2 <;> simp only [C2.b, reduceCtorEq] at e1
      cases r1; cases r2; cases e1
      exact op_le pins s σ H _ _ v u Q I rx ry ⟨_, _, rfl, rfl, q⟩
    | gt =>
      cases d1 <;> cases d2 <;> simp only [C2.b, reduceCtorEq] at e1
      cases r1; cases r2; cases e1
      exact op_gt pins s σ H _ _ v u Q I rx ry ⟨_, _, rfl, rfl, q⟩
    | ge =>
      cases d1 <;> cases d2 <;> simp only [C2.b, reduceCtorEq] at e1
      cases r1; cases r2; cases e1
      exact op_ge pins s σ H _ _ v u Q I rx ry ⟨_, _, rfl, rfl, q⟩
    | is =>
      cases d2 <;> (try (cases d1 <;> simp [C2.b] at e1 <;> done))
      cases r2
      refine op_isN pins s σ H x .non v u Q I rx ry ⟨rfl, ?_⟩
      cases d1 <;> simp [C2.b] at e1 <;> subst e1 <;> cases r1 <;> simpa using q
    | isnot =>
      cases d2 <;> (try (cases d1 <;> simp [C2.b] at e1 <;> done))
      cases r2
      refine op_notN pins s σ H x .non v u Q I rx ry ⟨rfl, ?_⟩
      cases d1 <;> simp [C2.b] at e1 <;> subst e1 <;> cases r1 <;> simpa using q
    | isin =>
      have e2 : memD d1 d2 = some k := by cases d1 <;> exact e1
      exact mem_rule (neg := false) I rx ry r1 r2 e2 q
    | notin =>
      have e2 : (memD d1 d2).map not = some k := by cases d1 <;> exact e1
      cases e3 : memD d1 d2 with
      | none => rw [e3] at e2; cases e2
      | some j =>
        rw [e3] at e2
        cases e2
        exact mem_rule (neg := true) I rx ry r1 r2 e3 q
end
end Pv

set_option Elab.async false
set_option linter.all false
set_option maxRecDepth 100000
set_option maxHeartbeats 4000000
/-! min(xs), xs a list of alike data: an item of the list, as it stands -/
namespace Pv
open PySem PySem.W PySem.SeqAt PyProof.Rows L2

def alikeB (xs : List D) : Bool := xs.all fun x => xs.all fun y => alike x y && match x with | .none => false | _ => true
theorem alikeB_ok {xs : List D} (h : alikeB xs = true) : AlikeAll xs := by
  unfold alikeB at h
  rw [List.all_eq_true] at h
  have key : ∀ x ∈ xs, ∀ y ∈ xs, alike x y = true ∧ x ≠ .none := fun x hx y hy => by
    have q := List.all_eq_true.mp (h x hx) y hy
    rw [Bool.and_eq_true] at q
    refine ⟨q.1, fun e => ?_⟩
    subst e
    exact absurd q.2 Bool.false_ne_true
  exact ⟨fun x hx y hy => (key x hx y hy).1, fun x hx => (key x hx x hx).2⟩
section
variable {prog : Program} {w : World} {A : Around} {E : Value → Shared → Prop} {s : Shared}
theorem min_list_at {l : Addr} {vs : Array Value} {x : PyData} {xs : List PyData} {as : List Addr} {Q : Value → Shared → Prop} (hh : A.handled = none) (hl : s.heap.IsList l vs) (hr : ReadsAll s.heap vs.toList (x :: xs) as) (ha : AlikeAll (x :: xs)) (hu : A.units + 1 + PyData.depthAll (x :: xs) < cLine)
    (h : ∀ (i : Nat) v h' tk, vs[i]? = some v → (x :: xs)[i]? = some (minD x xs) → (∀ b o, s.heap.get? b = some o → h'.get? b = some o) → Q v { s with heap := h', toks := tk }) :
    wpAny (model prog w) A (call (.builtin "min") [.ref l]) Q E s := by
  have hn : vs.size = xs.length + 1 := readsAll_len hr
  refine call_min_walkH (iter_listW (A := A.in1) hh hl fun s₂ e W st hfp hw hk => ?_)
  refine ⟨_, _, _, _, _, _, _, s.heap, _, rfl, W, st, hfp, by omega, hw, hk, cmpIn_lt (A := A.in1) hr ha (by show A.units + 1 + _ < _; exact hu), fun v s' hP m => ?_⟩
  obtain ⟨h', tk, rfl, hk'⟩ := moved_old e rfl m
  have e1 : vs.size - 1 = xs.length := by omega
  obtain ⟨e0, e2⟩ := argBest_fold dataLt PyData.none x xs xs.length (Nat.le_refl _)
  rw [List.take_length] at e2
  rw [e1] at hP
  refine h _ v h' tk hP ?_ hk'
  have hlt : argBest (fun i j => dataLt ((x :: xs).getD i PyData.none) ((x :: xs).getD j PyData.none)) xs.length < (x :: xs).length := by rw [List.length_cons]; omega
  rw [List.getD_eq_getElem?_getD, List.getElem?_eq_getElem hlt] at e2
  rw [List.getElem?_eq_getElem hlt]
  exact congrArg some e2
end
/-- least of a list: what it is among -/
def minF : List D → Option D
  | [.list (x :: xs)] => if alikeB (x :: xs) = true ∧ shaped (.list (x :: xs)) = true then some (minD x xs) else none
  | _ => none
section
variable {K : PySem.W.Frag} {S : Addr → Prop} {H : Hp}
theorem _root_.Pv.Reps.dpall : ∀ {vs : List V} {ds : List D}, Reps K S H vs ds → PyData.canLayAll0 ds = true → DpAll K H vs ds
  | _, _, .nil, _ => .nil
  | _, _, .cons a b, c => by
    simp [PyData.canLayAll0] at c
    exact .cons (a.dp c.1) (Reps.dpall b c.2)
end
section
variable {X : Cx}
theorem call_minT (hc : X.calm = true) (hu : X.A.units + 64 < cLine) {pins : List (Addr × Obj)} {s : Shared} {σ : L2.St} {H : Hp} {Q : VK} {S : Addr → Prop} {a : Addr} {vs : List V} {x : D} {xs : List D} (I : Inv X pins σ H s) (l : SqL X.K H a vs) (r : Reps X.K S H vs (x :: xs))
    (h1 : alikeB (x :: xs) = true) (h2 : shaped (.list (x :: xs)) = true) (q : ∀ v, Rep X.K S H v (minD x xs) → Q v H) : wpAny (model X.prog X.w) X.A (call (.builtin "min") [.ref a]) (EP X pins σ Q) X.xe s := by
  obtain ⟨its, rv, p, hz⟩ := I.list l
  have hcl := canLay_of_shaped h2
  have hdp := depth_of_shaped h2
  have hca : PyData.canLayAll0 (x :: xs) = true := by simpa [PyData.canLay0] using hcl
  obtain ⟨as, rd⟩ := Dp.readsAll I (x :: xs) vs its (r.dpall hca) rv
  have hd2 : PyData.depthAll (x :: xs) + 1 ≤ 64 := by
    have : (PyData.list (x :: xs)).depth = PyData.depthAll (x :: xs) + 1 := by first | rfl | (simp only [PyData.depth]) | (simp only [PyData.depth]; omega)
    omega
  refine min_list_at (I.ok.hd hc) p.isList (by simpa using rd) (alikeB_ok h1) (by omega) fun i v h' tk hv hd hk => ?_
  obtain ⟨w, hw, rw⟩ := r.get hd
  obtain ⟨u, hu2, ru⟩ := rv.get hw
  have : its.toArray[i]? = some u := by simpa using hu2
  rw [this] at hv
  cases hv
  exact ⟨w, H, I.kept hk, ru, q w rw⟩
end
end Pv

set_option Elab.async false
set_option linter.all false
set_option maxRecDepth 100000
set_option maxHeartbeats 4000000
/-! len(set(bs)), bs a list of truth values -/
namespace Pv
open PySem PySem.Spec PyProof.Rows L2

/-- how many truth values are met -/
def cntB (bs : List Bool) : Nat := (if bs.any (· == true) then 1 else 0) + (if bs.any (· == false) then 1 else 0)
theorem cntB_le (bs : List Bool) : cntB bs ≤ 2 := by unfold cntB; split <;> split <;> omega
theorem cntB_snoc (bs : List Bool) (b : Bool) : cntB (bs ++ [b]) = if bs.any (· == b) = true then cntB bs else cntB bs + 1 := by
  unfold cntB
  rw [List.any_append, List.any_append]
  cases b <;> cases h1 : bs.any (· == true) <;> cases h2 : bs.any (· == false) <;> simp
theorem anyB_snoc (bs : List Bool) (b k : Bool) : (bs ++ [b]).any (· == k) = (bs.any (· == k) || decide (k = b)) := by
  rw [List.any_append]
  cases b <;> cases k <;> simp
inductive BoolsAre : List Value → List Bool → Prop
  | nil : BoolsAre [] []
  | cons (b : Bool) {us : List Value} {bs : List Bool} : BoolsAre us bs → BoolsAre (.bool b :: us) (b :: bs)
theorem BoolsAre.len : ∀ {us : List Value} {bs : List Bool}, BoolsAre us bs → us.length = bs.length
  | _, _, .nil => rfl
  | _, _, .cons _ t => by rw [List.length_cons, List.length_cons, BoolsAre.len t]
theorem BoolsAre.at : ∀ {us : List Value} {bs : List Bool}, BoolsAre us bs → ∀ (i : Nat) (v : Value), us[i]? = some v → v = .bool (bs.getD i false)
  | _, _, .nil, i, v, h => by simp at h
  | _, _, .cons n hr, 0, v, h => by simp at h; rw [← h]; rfl
  | _, _, .cons n hr, i + 1, v, h => by
    simp only [List.getElem?_cons_succ] at h
    exact BoolsAre.at hr i v h
theorem boolsAre_of : ∀ {bs : List Bool} {us : List Value}, Vals (bs.map V.bl) us → BoolsAre us bs
  | [], _, .nil => .nil
  | b :: bs, _, .cons r t => by
    cases r
    exact .cons b (boolsAre_of t)

section
variable {prog : Program} {w : World} {A : Around} {R : Result → Shared → Prop} {I : Addr} {fp wr : List Addr} {G : Array GenState → Array GenState → Prop} {n : Nat} {P : Nat → Value → Prop} {St : Nat → Shared → Prop}
theorem loopB (W : WalksS prog w A.in1 I fp wr G n P St) (S : Addr) (hSfq : S ∉ fp) (xs : List Bool) (hszq : xs.length = n)
    (hvalq : ∀ i v, P i v → v = .bool (xs.getD i false)) :
    ∀ (k i : Nat) (s : Shared), n - i = k → i ≤ n → St i s →
      s.heap.SetOf (PpSet.boolK prog w) S (fun k' => (xs.take i).any (· == k')) (cntB (xs.take i)) →
      (∀ s', Moved (S :: wr) G s s' → s'.heap.SetOf (PpSet.boolK prog w) S (fun k' => (xs.take n).any (· == k')) (cntB (xs.take n)) → R (.ok (.ret .none)) s') →
      codeAny (model prog w) A (.builtin "set.update.loop" ⟨[.ref S, .ref I], []⟩) R s := by
  have hSwq : S ∉ wr := fun hq => hSfq (W.sub _ hq)
  have hsubq : ∀ b ∈ wr, b ∈ S :: wr := fun b hbq => List.mem_cons_of_mem _ hbq
  intro k
  induction k with
  | zero =>
    intro i s hkq hiq hstq hSq hRq
    have hinq : i = n := by omega
    subst hinq
    refine codeAny_builtin PyProof.Rows.F.entry_set_update_loop ?_
    rw [Around.under_plainId PyProof.Rows.F.plain_set_update_loop _]
    show wpAny _ A.in1 (pyNext (.ref I) >>= _) _ _ s
    refine wpAny_bind (W.done s _ _ hstq fun s' hmq => ?_)
    show wpAny _ A.in1 (ret Value.none) _ _ s'
    exact wpAny_pure (hRq s' (hmq.mono hsubq) (by
      obtain ⟨o, es, ep, t, hoq, rest⟩ := hSq
      exact ⟨o, es, ep, t, hmq.heap S _ hSwq hoq, rest⟩))
  | succ k ih =>
    intro i s hkq hiq hstq hSq hRq
    have hltq : i < n := by omega
    have hlxq : i < xs.length := by omega
    have hxq : xs[i]? = some xs[i] := List.getElem?_eq_getElem hlxq
    have ed : xs.getD i false = xs[i] := by rw [List.getD_eq_getElem?_getD, hxq]; rfl
    have et : xs.take (i + 1) = xs.take i ++ [xs[i]] := by rw [List.take_add_one, hxq]; rfl
    refine codeAny_builtin PyProof.Rows.F.entry_set_update_loop ?_
    rw [Around.under_plainId PyProof.Rows.F.plain_set_update_loop _]
    show wpAny _ A.in1 (pyNext (.ref I) >>= _) _ _ s
    refine wpAny_bind (W.item i s _ _ hltq hstq fun v s' hPq hst' hmq => ?_)
    obtain rfl := hvalq i v hPq
    rw [ed]
    have hS' : s'.heap.SetOf (PpSet.boolK prog w) S (fun k' => (xs.take i).any (· == k')) (cntB (xs.take i)) := by
      obtain ⟨o, es, ep, tb, hoq, rest⟩ := hSq
      exact ⟨o, es, ep, tb, hmq.heap S _ hSwq hoq, rest⟩
    have hcq := cntB_le (xs.take i)
    show wpAny _ A.in1 (holding [Value.bool xs[i]] (setAdd S (.bool xs[i])) >>= _) _ _ s'
    refine wpAny_bind (wpAny_holding ?_)
    unfold setAdd
    refine wpAny_holding ?_
    have kis : (PpSet.boolK prog w).is xs[i] (.bool xs[i]) = true := by
      simp [PpSet.boolK, PpSet.isB]
    refine wpAny_bind ((PpSet.boolK prog w).pyHash (k := xs[i]) kis ?_)
    refine wpAny_setAddHashed_of (knd := PpSet.boolK prog w) (s := { s' with toks := s'.toks + 1 }) kis rfl hS' (by unfold scanBound; omega) fun hq' hsbq hS2q => ?_
    have hSiq : hq'.SetOf (PpSet.boolK prog w) S (fun k' => (xs.take (i + 1)).any (· == k')) (cntB (xs.take (i + 1))) := by
      refine SetOf_congr hS2q (fun k' => ?_) ?_
      · rw [et, anyB_snoc]
      · rw [et, cntB_snoc]
    refine wpAny_pure ⟨plainId_quiet PyProof.Rows.F.plain_set_update_loop _, ih (i + 1) _ (by omega) hltq (W.frame _ s' _ _ hst' (Nat.le_succ _) fun b hbq o e => ?_) hSiq fun s'' hm'' hS'' => ?_⟩
    · rw [hsbq.2 b (fun hq : b = S => hSfq (by rw [← hq]; exact hbq))]; exact e
    · refine hRq s'' (Moved.trans W.gtrans ((hmq.mono hsubq).then_heap (Nat.le_succ _) fun b o hbq e => ?_) hm'') hS''
      rw [hsbq.2 b (fun hq : b = S => hbq (by rw [hq]; exact List.mem_cons_self))]; exact e
end

section
variable {prog : Program} {w : World} {A : Around} {E : Value → Shared → Prop} {s : Shared}
theorem call_set_listB {l : Addr} {items : Array Value} {xs : List Bool} {Q : Value → Shared → Prop}
    (hhq : A.handled = none) (hlq : s.heap.IsList l items) (hiq : BoolsAre items.toList xs)
    (hq : ∀ (hq' : Heap) (tk : Nat), hq'.SetOf (PpSet.boolK prog w) s.heap.objs.size (fun k' => xs.any (· == k')) (cntB xs) →
      (∀ b o, b < s.heap.objs.size → s.heap.get? b = some o → hq'.get? b = some o) → Q (.ref s.heap.objs.size) { s with heap := hq', toks := tk }) :
    wpAny (model prog w) A (call (.type "set") [.ref l]) Q E s := by
  have hszxq : xs.length = items.size := by rw [← hiq.len, Array.length_toList]
  have ett : xs.take items.size = xs := by rw [← hszxq, List.take_length]
  obtain ⟨c, tl, hmroq⟩ := PySem.F.called_set.mro
  have hmadeq := PySem.F.called_set.made
  have hsubq := PySem.F.called_set.sub
  refine wpAny_call (codeAny_of_tree ?_)
  show wpAny _ _ (callAny (.type "set") _) _ _ _
  refine wpAny_pure ⟨Code.quiet_builtin _ (by decide +kernel), codeAny_builtin PySem.F.entry_type_call ?_⟩
  rw [Around.under_plain (weight_type_call_type "set" [.ref l] []) rfl]
  have h1q := PySem.F.called_set.notType
  have h2q := PySem.F.called_set.canCreate
  have hctq := PySem.F.typeCall_set_1 (.ref l)
  repeat (any_goals (first | assumption | wp_step))

  refine codeAny_mono (code_set_new_1 (.ref l) (E := E) (Q₁ := fun obj s₁ => ∃ led : Bool, obj = .ref s.heap.objs.size ∧ s₁ = { s with heap := s.heap.push { cls := .type "set", dict := none, data := .set #[] 0 (.fresh 0 0 led) } }) fun led => ⟨led, rfl, rfl⟩) fun r s₁ hrq => ?_
  cases r with
  | error e => exact hrq
  | ok fl =>
    cases fl with
    | ret obj =>
      obtain ⟨led, rfl, rfl⟩ := hrq
      have hSq : (s.heap.push { cls := .type "set", dict := none, data := .set #[] 0 (.fresh 0 0 led) }).get? s.heap.objs.size = some { cls := .type "set", dict := none, data := .set #[] 0 (.fresh 0 0 led) } := Heap.get?_push_size _ rfl
      have hTq : Shared.TypeIs { s with heap := s.heap.push { cls := .type "set", dict := none, data := .set #[] 0 (.fresh 0 0 led) } } (.ref s.heap.objs.size) "set" := ⟨_, hSq, rfl⟩
      have hliq := PySem.F.called_set.init.lookup
      have hbiq := PySem.F.called_set.init.bind (.ref s.heap.objs.size)
      repeat (any_goals (first | assumption | wp_step))

      refine codeAny_mono (codeAny_call_builtin (R := wants (fun r s₂ => r = .none ∧ ∃ hq' tk, s₂ = { s with heap := hq', toks := tk } ∧
          hq'.SetOf (PpSet.boolK prog w) s.heap.objs.size (fun k' => xs.any (· == k')) (cntB xs) ∧
          (∀ b o, b < s.heap.objs.size → s.heap.get? b = some o → hq'.get? b = some o)) E) PySem.F.called_set.init.plain PySem.F.entry_set_init (check_set_init_1 hTq ?_)) fun r₂ s₂ hr₂ => ?_
      · obtain ⟨ol, holq, hclq, nl, hdlq⟩ := hlq
        obtain ⟨ocls, odict, odata, oslots⟩ := ol
        simp only at hclq hdlq
        subst hclq; subst hdlq
        have hol' : (s.heap.push { cls := .type "set", dict := none, data := .set #[] 0 (.fresh 0 0 led) }).get? l = some { cls := .type "list", dict := odict, data := .seq items nl, slots := oslots } := Heap.get?_push_of_some _ holq
        have hslsq := PySem.F.sub_list_set
        have hslfq := PySem.F.sub_list_frozenset
        have hneq : (Value.type "list" == Value.type "dict") = false := by decide
        have hl1q : (s.heap.push { cls := .type "set", dict := none, data := .set #[] 0 (.fresh 0 0 led) }).IsList l items := ⟨_, hol', rfl, nl, rfl⟩
        unfold Builtin.«set.__init__» noKeywords Builtin.Frozenset.updateFrom
        generalize hPI : pyIter = PI
        wp_walk
        subst hPI

        refine wpAny_pyIter_list hl1q ?_
        refine wpAny_bind (wpAny_runValue ?_)
        have hlSq : l < s.heap.objs.size := Heap.lt_size holq
        have hh3q : A.in1.in1.in1.handled = none := by simp [hhq]
        have hneIq : l ≠ (s.heap.push { cls := .type "set", dict := none, data := .set #[] 0 (.fresh 0 0 led) }).objs.size := by
          rw [Heap.size_push]; exact Nat.ne_of_lt (Nat.lt_succ_of_lt hlSq)
        have hSfq : s.heap.objs.size ∉ [(s.heap.push { cls := .type "set", dict := none, data := .set #[] 0 (.fresh 0 0 led) }).objs.size, l] := by
          rw [Heap.size_push]; simp only [List.mem_cons, List.mem_singleton, List.not_mem_nil, or_false, not_or]
          exact ⟨Nat.ne_of_lt (Nat.lt_succ_self _), Nat.ne_of_gt hlSq⟩
        have hvalq : ∀ (i : Nat) (v : Value), items[i]? = some v → v = .bool (xs.getD i false) := fun i v hvq => hiq.at i v (by rw [Array.getElem?_toList]; exact hvq)
        refine loopB ((Walks.list hh3q _ l hneIq items).toS) s.heap.objs.size
          hSfq xs hszxq hvalq (items.size - 0) 0 _ (by omega) (Nat.zero_le _)
          ⟨⟨_, Heap.get?_push_size _ rfl, rfl, rfl⟩, (hl1q.push _)⟩ ?hS0 ?hRq
        case hS0 =>
          have hgetq : ((s.heap.push { cls := .type "set", dict := none, data := .set #[] 0 (.fresh 0 0 led) }).push { cls := .type "list_iterator", data := .fields #[.ref l, .int 0 0] }).get? s.heap.objs.size
              = some { cls := .type "set", dict := none, data := .set #[] 0 (.fresh 0 0 led) } := Heap.get?_push_of_some _ hSq
          exact PyProof.Rows.SetOf_congr ((PyProof.Rows.setObjOf_fresh (knd := PpSet.boolK prog w) led).setOf hgetq (by unfold scanBound; omega)) (fun _ => rfl) rfl
        case hRq =>
          intro s' hmq hS'
          obtain ⟨hq', g', d', tk', os'⟩ := s'
          have eg : g' = s.gens := hmq.gens
          have ed : d' = s.drawn := hmq.drawn
          have eo : os' = s.os := hmq.os
          subst eg; subst ed; subst eo
          rw [ett] at hS'
          show wpAny _ _ _ _ _ _
          refine wpAny_pure ?_
          show wpAny _ _ (ret Value.none) _ _ _
          refine wpAny_pure ⟨rfl, hq', tk', rfl, hS', fun b o hbq e => ?_⟩
          have hb1q : b ≠ s.heap.objs.size := Nat.ne_of_lt hbq
          have hb2q : b ≠ (s.heap.push { cls := .type "set", dict := none, data := .set #[] 0 (.fresh 0 0 led) }).objs.size := by
            rw [Heap.size_push]; exact Nat.ne_of_lt (Nat.lt_succ_of_lt hbq)
          exact hmq.heap b o (by simp only [List.mem_cons, List.mem_singleton, List.not_mem_nil, or_false, not_or]; exact ⟨hb1q, hb2q⟩) (Heap.get?_push_of_some _ (Heap.get?_push_of_some _ e))

      · cases r₂ with
        | error e => exact hr₂
        | ok fl₂ =>
          cases fl₂ with
          | ret r =>
            obtain ⟨rfl, hq', tk, rfl, hS', hk'⟩ := hr₂
            repeat (any_goals (first | assumption | wp_step))
            exact hq _ _ hS' hk'
          | _ => exact hr₂.elim
    | _ => exact hrq.elim
end
def tLenSetB (K : PySem.W.Frag) (ta : TE) : TE := fun σ H Q => ta σ H fun x H1 => ∃ (l : Addr) (bs : List Bool), x = .ref l ∧ SqL K H1 l (bs.map V.bl) ∧ Q (.int (cntB bs : Nat)) H1
theorem pe_lenSetB {X : Cx} {a : Expr} {ta : TE} {p p2 q pos : Pos} (hgq : Gl X "len") (hmq : X.mg "len" = none) (hg2q : Gl X "set") (hm2q : X.mg "set" = none) (haq : PE X a ta) (hcq : X.calm = true)
    (na : starEach [a] X.env = (false, eval a X.env) :: starEach [] X.env) : PE X (.Call (.Name "len" p) [.Call (.Name "set" p2) [a] [] q] [] pos) (tLenSetB X.K ta) := by
  refine ⟨fun pins s σ H Q I hq => ?_⟩
  refine Call_ (ld_blt I hgq hmq boot_len ?_)
  refine PyProof.Rows.callWith_builtin1 (PyProof.Rows.args_cons ?_ rfl) rfl rfl
  refine Call_ (ld_blt I hg2q hm2q boot_set ?_)
  refine PyProof.Rows.callWith_type1 (PyProof.Rows.args_cons (thn (haq.run pins s σ H _ I hq) fun v s1 ⟨x, H1, I1, r1, q1⟩ => PyProof.Rows.args_nil ?_) na) na rfl
  obtain ⟨l, ns, rfl, hqq, q1⟩ := q1
  cases r1
  obtain ⟨its, r, pl, hzq⟩ := I1.list hqq
  refine call_set_listB (I1.ok.hd hcq) pl.isList (by simpa using boolsAre_of r) fun hq' tk hSq hkq => ?_
  refine PyProof.Rows.args_nil ?_
  obtain ⟨o, es, ep, t, hoq, hexq, hdq, _, _, _, hfq, hnq⟩ := hSq
  have I2 : Inv X pins σ H1 { s1 with heap := hq', toks := tk } := I1.kept fun b o e => hkq b o (Heap.lt_size e) e
  have hc2q := cntB_le ns
  exact call_len_set hoq hexq hdq hfq (by rw [hnq] <;> omega) ⟨.int (cntB ns : Nat), H1, I2.tok _, ⟨_, by rw [hnq]⟩, q1⟩
end Pv

set_option Elab.async false
set_option linter.all false
set_option maxRecDepth 100000
set_option maxHeartbeats 4000000
/-! the small language and its evaluator -/
namespace Pv
open PySem L2

/-- a value in hand: data, or a slot that is only looked at (or lent) -/
inductive AV where
  | dat (d : D)
  | pk (i : Nat)

def fzs (ρ : Env) (i : Nat) : Option D := match ρ[i]? with
  | some (.val _ t) => t.fz
  | _ => none
/-- weak: as it looks now -/
def AV.wk (ρ : Env) : AV → Option D
  | .dat d => some d
  | .pk i => fzs ρ i
/-- strong -/
def AV.st : AV → Option D
  | .dat d => some d
  | .pk _ => none

/-! built-in functions by values -/
def intsOf : List D → Option (List Int)
  | [] => some []
  | .int n :: r => (intsOf r).map (n :: ·)
  | _ => none
def boolsOf : List D → Option (List Bool)
  | [] => some []
  | .bool n :: r => (boolsOf r).map (n :: ·)
  | _ => none
def itemsOf : D → Option (List D)
  | .list xs => some xs
  | .tuple xs => some xs
  | _ => none
def maxL : List Int → Option Int
  | [] => none
  | x :: r => some (r.foldl (fun a b => if b > a then b else a) x)
def minL : List Int → Option Int
  | [] => none
  | x :: r => some (r.foldl (fun a b => if b < a then b else a) x)
/-- scalar results: their arguments are only looked at -/
inductive Bs | len | sum | abs | int | max | min | all | any
  deriving DecidableEq
def Bs.name : Bs → Str
  | .len => "len" | .sum => "sum" | .abs => "abs" | .int => "int" | .max => "max" | .min => "min" | .all => "all" | .any => "any"
def Bs.ty : Bs → Bool
  | .int => true | _ => false
def Bs.f : Bs → List D → Option D
  | .len, [.list xs] => some (.int xs.length)
  | .len, [.tuple xs] => some (.int xs.length)
  | .len, [.str x] => if x.length ≤ sizeLine then some (.int x.length) else none
  | .sum, [d] => (itemsOf d).bind fun xs => (intsOf xs).map fun ns => .int ns.sum
  | .abs, [.int n] => some (.int (if n < 0 then -n else n))
  | .int, [.int n] => some (.int n)
  | .int, [.bool b] => some (.int (if b then 1 else 0))
  | .max, [.int a, .int b] => some (.int (if b > a then b else a))
  | .max, [.int a, .int b, .int c] => some (.int (if c > (if b > a then b else a) then c else (if b > a then b else a)))
  | .min, [.int a, .int b] => some (.int (if b < a then b else a))
  | .max, [d] => (itemsOf d).bind fun xs => (intsOf xs).bind fun ns => (maxL ns).map .int
  | .min, [d] => (itemsOf d).bind fun xs => (intsOf xs).bind fun ns => (minL ns).map .int
  | .all, [.list xs] => (boolsOf xs).map fun bs => .bool (bs.all id)
  | .any, [.list xs] => (boolsOf xs).map fun bs => .bool (bs.any id)
  | _, _ => none
/-- new objects: their arguments are shared -/
inductive Bn | list | tuple | divmod | min
  deriving DecidableEq
def Bn.name : Bn → Str
  | .list => "list" | .tuple => "tuple" | .divmod => "divmod" | .min => "min"
def Bn.ty : Bn → Bool
  | .divmod => false | .min => false | _ => true
def Bn.f : Bn → List D → Option D
  | .list, [.list xs] => some (.list xs)
  | .list, [.tuple xs] => some (.list xs)
  | .tuple, [.list xs] => some (.tuple xs)
  | .tuple, [.tuple xs] => some (.tuple xs)
  | .divmod, [.int a, .int b] => if 0 < b ∧ b < 1073741824 then some (.tuple [.int (a / b), .int (a % b)]) else none
  | .min, ds => minF ds
  | _, _ => none

/-! items, slices -/
def ixD : D → D → Option D
  | .list xs, .int i => atI xs i
  | .tuple xs, .int i => atI xs i
  | .str z, .int i => if z.length ≤ sizeLine then (atI z.cps.toList i).map fun c => .str ⟨#[c]⟩ else none
  | _, _ => none
/-- an item of a value in hand -/
def AV.ix (ρ : Env) (a : AV) (i : D) : Option D := match a with
  | .dat d => ixD d i
  | .pk j => match ρ[j]? with
    | some (.val _ (.sh d)) => ixD d i
    | some (.val _ (.lst ts)) => match i with
      | .int n => match atI ts n with
        | some (.sh d) => some d
        | _ => none
      | _ => none
    | _ => none
def cutD (xs : List D) (lo hi : Option Int) : List D := (xs.drop (HT.sIx xs.length 0 lo)).take (HT.sIx xs.length xs.length hi - HT.sIx xs.length 0 lo)
def slD : D → Option Int → Option Int → Option D
  | .list xs, lo, hi => some (.list (cutD xs lo hi))
  | .tuple xs, lo, hi => some (.tuple (cutD xs lo hi))
  | .str z, lo, hi => if z.length ≤ sizeLine then some (.str ⟨((z.cps.toList.drop (HT.sIx z.length 0 lo)).take (HT.sIx z.length z.length hi - HT.sIx z.length 0 lo)).toArray⟩) else none
  | _, _, _ => none
/-- truth -/
def truD : D → Option Bool
  | .none => some false
  | .bool b => some b
  | .int i => some (i != 0)
  | .list xs => some (!xs.isEmpty)
  | .tuple xs => some (!xs.isEmpty)
  | _ => none

/-- a target: a name, or names -/
inductive Tg where
  | one (i : Nat)
  | tup (is : List Nat)
def Tg.slots : Tg → List Nat
  | .one i => [i]
  | .tup is => is

mutual
inductive Ex where
  | var (i : Nat)
  | pk (i : Nat)
  | non | bl (b : Bool) | int (i : Int) | str (x : Str)
  | gl (x : Str) (d : D)
  | op (o : O2) (a b : Ex)
  | cmp (o : C2) (a b : Ex)
  | chain (o o' : C2) (a b c : Ex)
  | neg (a : Ex)
  | last (a : Ex)
  | and (a b : Ex) | or (a b : Ex) | not (a : Ex)
  | ite (c a b : Ex)
  | ix (a b : Ex)
  | sl (a : Ex) (lo hi : Eo)
  | lst (es : Exs) | tup (es : Exs) | rep (a n : Ex)
  | bs (f : Bs) (es : Exs) | bn (f : Bn) (es : Exs)
  | call (f : Nat) (es : Exs)
  | comp (t : Tg) (it : It) (c : Eo) (e : Ex)
  | pop (i : Nat) | popi (i : Nat) (e : Ex)
  | lset (a : Ex) | lrg (a : Ex)
  | gdx (x : Str) (kvs : List (Str × Option Str)) (a : Ex) | gdin (neg : Bool) (x : Str) (kvs : List (Str × Option Str)) (a : Ex)
  | dct (ks : List Str) (es : Exs)
  | dix (ks : List Str) (es : Exs) (a : Ex)
  | dget (i : Nat) (a : Ex) | din (neg : Bool) (i : Nat) (a : Ex)
inductive Exs where
  | nil | cons (e : Ex) (es : Exs)
inductive Eo where
  | no | yes (e : Ex)
inductive It where
  | seq (a : Ex) | rng (a : Ex) | rng2 (a b : Ex) | enum (a : Ex) | zip (a b : Ex)
end

inductive St where
  | pass
  | ex (e : Ex)
  | ret (e : Ex) | retN
  | asg (t : Tg) (e : Ex)
  | own (i : Nat) (e : Ex)
  | par (is : List Nat) (es : Exs)
  | setix (i : Nat) (k e : Ex)
  | aug (i : Nat) (o : O2) (e : Ex)
  | ifs (c : Ex) (a b : St)
  | for_ (t : Tg) (it : It) (b : St)
  | whl (c : Ex) (b : St)
  | app (i : Nat) (e : Ex) | ext (i : Nat) (e : Ex) | ins (i : Nat) (k e : Ex)
  | reto (e : Ex)
  | dset2 (i : Nat) (k1 k2 : Str) (e : Ex)
  | setx2 (i : Nat) (n : Int) (j : Nat) (e : Ex)
  | nil | seq (a b : St)

/-- what an evaluation gives, and the state -/
abbrev Res (α : Type) := Option (α × Env)
def bnd {α β : Type} (m : Res α) (f : α → Env → Option β) : Option β := match m with
  | some (a, ρ) => f a ρ
  | none => none
def giv {α : Type} (o : Option α) (ρ : Env) : Res α := match o with
  | some a => some (a, ρ)
  | none => none
@[simp] theorem bnd_some {α β : Type} (a : α) (ρ : Env) (f : α → Env → Option β) : bnd (some (a, ρ)) f = f a ρ := rfl
@[simp] theorem bnd_none {α β : Type} (f : α → Env → Option β) : bnd none f = none := rfl
@[simp] theorem giv_some {α : Type} (a : α) (ρ : Env) : giv (some a) ρ = some (a, ρ) := rfl
@[simp] theorem giv_none {α : Type} (ρ : Env) : giv (none : Option α) ρ = none := rfl
theorem bnd_eq {α β : Type} {m : Res α} {f : α → Env → Option β} {r : β} (h : bnd m f = some r) : ∃ a ρ, m = some (a, ρ) ∧ f a ρ = some r := by
  cases m with
  | none => cases h
  | some p => exact ⟨p.1, p.2, rfl, h⟩
theorem giv_eq {α : Type} {o : Option α} {ρ ρ' : Env} {a : α} (h : giv o ρ = some (a, ρ')) : o = some a ∧ ρ' = ρ := by
  cases o with
  | none => cases h
  | some b => cases h; exact ⟨rfl, rfl⟩

/-- a call: the number of the def, its arguments' trees; its result, and what is behind in the arguments -/
abbrev Cl := Nat → List OT → Option (OT × List OT)

/-- a var as shared data -/
def rdVar (i : Nat) (ρ : Env) : Res D := match ρ[i]? with
  | some (.val b (.sh d)) => some (d, ρ)
  | some (.val false t) => match t.fz with
    | some d => some (d, ρ.set i (.val false (.sh d)))
    | none => none
  | _ => none
def wipeE (ρ : Env) : List Nat → Env
  | [] => ρ
  | v :: vs => (wipeE ρ vs).set v .non
/-- names stored: not one that is lent -/
def isLent (ρ : Env) (i : Nat) : Bool := match ρ[i]? with
  | some (.val true _) => true
  | _ => false
def putE (ρ : Env) (i : Nat) (d : D) : Option Env := if i < ρ.length ∧ isLent ρ i = false then some (ρ.set i (.val false (.sh d))) else none
def putsE (ρ : Env) : List Nat → List D → Option Env
  | [], [] => some ρ
  | i :: is, d :: ds => (putE ρ i d).bind fun ρ' => putsE ρ' is ds
  | _, _ => none
def tgE (ρ : Env) : Tg → D → Option Env
  | .one i, d => putE ρ i d
  | .tup is, .tuple ds => putsE ρ is ds
  | .tup _, _ => none
/-- the arguments' trees, at the call -/
def argT (ρ : Env) : AV → Option OT
  | .dat d => some (.sh d)
  | .pk i => match ρ[i]? with
    | some (.val _ (.sh _)) => none
    | some (.val _ t) => some t
    | _ => none
def argTs (ρ : Env) : List AV → Option (List OT)
  | [] => some []
  | a :: as => match argT ρ a, argTs ρ as with
    | some t, some ts => some (t :: ts)
    | _, _ => none
/-- .. and behind it -/
def backT (ρ : Env) : List AV → List OT → Option Env
  | [], [] => some ρ
  | .dat _ :: as, _ :: ts => backT ρ as ts
  | .pk i :: as, t :: ts => match ρ[i]? with
    | some (.val b _) => backT (ρ.set i (.val b t)) as ts
    | _ => none
  | _, _ => none
def lentOf : List AV → List Nat
  | [] => []
  | .dat _ :: as => lentOf as
  | .pk i :: as => i :: lentOf as
def wks (ρ : Env) : List AV → Option (List D)
  | [] => some []
  | a :: as => match a.wk ρ, wks ρ as with
    | some d, some ds => some (d :: ds)
    | _, _ => none
def sts : List AV → Option (List D)
  | [] => some []
  | a :: as => match a.st, sts as with
    | some d, some ds => some (d :: ds)
    | _, _ => none
def rangeD (lo hi : Int) : List D := (List.range (hi - lo).toNat).map fun (k : Nat) => PyData.int (lo + (k : Int))
def rngOk (i : Int) : Bool := decide (-(2 ^ 62) ≤ i) && decide (i < 2 ^ 62)
def enumD (xs : List D) : List D := xs.mapIdx fun i x => .tuple [.int i, x]
def zipD (xs ys : List D) : List D := (xs.zip ys).map fun p => .tuple [p.1, p.2]
/-- a comprehension's turns -/
def compE (elt : Env → Res (Option D)) (t : Tg) (vs : List Nat) : List D → List D → Env → Res (List D)
  | [], acc, ρ => some (acc, ρ)
  | x :: xs, acc, ρ => match tgE (wipeE ρ vs) t x with
    | none => none
    | some ρ1 => bnd (elt ρ1) fun o ρ2 => match o with
      | none => compE elt t vs xs acc (wipeE ρ2 vs)
      | some y => if acc.length < sizeLine then compE elt t vs xs (acc ++ [y]) (wipeE ρ2 vs) else none

/-- a slot holds a list of its own -/
def isLst (ρ : Env) (i : Nat) : Bool := match ρ[i]? with
  | some (.val _ (.lst _)) => true
  | _ => false
/-- a written list's items; [x] * k -/
def lstD (xs : List AV) : Option (List D) := (sts xs).bind fun ds => if ds.length ≤ sizeLine then some ds else none
def repD : AV → AV → Option (List D)
  | .dat d, .dat (.int k) => if -(2 ^ 63) ≤ k ∧ k < 2 ^ 63 ∧ k.toNat ≤ sizeLine then some (List.replicate k.toNat d) else none
  | _, _ => none
def isDct (ρ : Env) (i : Nat) : Bool := match ρ[i]? with
  | some (.val _ (.dK _)) => true
  | _ => false
/-- dicts with text keys -/
def keysOk (ks : List Str) (n : Nat) : Bool := decide (ks.length = n) && decide (ks.length ≤ 15) && !ks.isEmpty && decide ks.Nodup
def zipK (ks : List Str) (ds : List D) : List (Key × D) := (ks.map Sum.inr).zip ds
def atD (kds : List (Key × D)) (k : Key) : Option D := (kds.find? fun kv => decide (kv.1 = k)).map (·.2)
def putD (kds : List (Key × D)) (k : Key) (d : D) : List (Key × D) := if kds.any (fun kv => decide (kv.1 = k)) = true then kds.map (fun kv => if kv.1 = k then (kv.1, d) else kv) else kds ++ [(k, d)]
def dctD (ks : List Str) (xs : List AV) : Option (List (Key × D)) := (sts xs).bind fun ds => if keysOk ks ds.length = true then some (zipK ks ds) else none
mutual
def evE (cl : Cl) : Ex → Env → Res AV
  | .var i, ρ => bnd (rdVar i ρ) fun d ρ => some (.dat d, ρ)
  | .pk i, ρ => match ρ[i]? with
    | some (.val _ _) => some (.pk i, ρ)
    | _ => none
  | .non, ρ => some (.dat .none, ρ)
  | .bl b, ρ => some (.dat (.bool b), ρ)
  | .int i, ρ => some (.dat (.int i), ρ)
  | .str x, ρ => some (.dat (.str x), ρ)
  | .gl _ d, ρ => some (.dat d, ρ)
  | .op o a b, ρ => bnd (evE cl a ρ) fun x ρ => bnd (evE cl b ρ) fun y ρ => giv ((x.st.bind fun d => y.st.bind fun e => o.f d e).map .dat) ρ
  | .cmp o a b, ρ => bnd (evE cl a ρ) fun x ρ => bnd (evE cl b ρ) fun y ρ => giv (((x.wk ρ).bind fun d => (y.wk ρ).bind fun e => o.f d e).map .dat) ρ
  | .chain o o' a b c, ρ => bnd (evE cl a ρ) fun x ρ => bnd (evE cl b ρ) fun y ρ => match x.st.bind fun d => y.st.bind fun e => o.b d e with
    | none => none
    | some false => some (.dat (.bool false), ρ)
    | some true => bnd (evE cl c ρ) fun z ρ => giv ((y.st.bind fun d => z.st.bind fun e => o'.f d e).map .dat) ρ
  | .neg a, ρ => bnd (evE cl a ρ) fun x ρ => match x with
    | .dat (.int i) => some (.dat (.int (-i)), ρ)
    | _ => none
  | .last a, ρ => evE cl a ρ
  | .and a b, ρ => bnd (evE cl a ρ) fun x ρ => match x with
    | .dat (.bool true) => evE cl b ρ
    | .dat (.bool false) => some (.dat (.bool false), ρ)
    | _ => none
  | .or a b, ρ => bnd (evE cl a ρ) fun x ρ => match x with
    | .dat (.bool true) => some (.dat (.bool true), ρ)
    | .dat (.bool false) => evE cl b ρ
    | _ => none
  | .not a, ρ => bnd (evE cl a ρ) fun x ρ => match x with
    | .dat (.bool k) => some (.dat (.bool (!k)), ρ)
    | _ => none
  | .ite c a b, ρ => bnd (evT cl c ρ) fun k ρ => match k with
    | true => evE cl a ρ
    | false => evE cl b ρ
  | .ix a b, ρ => bnd (evE cl a ρ) fun x ρ => bnd (evE cl b ρ) fun y ρ => giv ((y.st.bind fun i => x.ix ρ i).map .dat) ρ
  | .sl a lo hi, ρ => bnd (evE cl a ρ) fun x ρ => bnd (evO cl lo ρ) fun l ρ => bnd (evO cl hi ρ) fun h ρ => giv ((x.st.bind fun d => slD d l h).map .dat) ρ
  | .lst es, ρ => bnd (evEs cl es ρ) fun xs ρ => giv ((lstD xs).map fun ds => .dat (.list ds)) ρ
  | .tup es, ρ => bnd (evEs cl es ρ) fun xs ρ => giv ((sts xs).bind fun ds => if ds.length ≤ sizeLine then some (.dat (.tuple ds)) else none) ρ
  | .rep a n, ρ => bnd (evE cl a ρ) fun x ρ => bnd (evE cl n ρ) fun y ρ => giv ((repD x y).map fun ds => .dat (.list ds)) ρ
  | .bs f es, ρ => bnd (evEs cl es ρ) fun xs ρ => giv (((wks ρ xs).bind f.f).map .dat) ρ
  | .bn f es, ρ => bnd (evEs cl es ρ) fun xs ρ => giv (((sts xs).bind f.f).map .dat) ρ
  | .call f es, ρ => bnd (evEs cl es ρ) fun xs ρ => if (lentOf xs).Nodup then
      match (argTs ρ xs).bind (cl f) with
      | some (t, ts) => match t.fz, backT ρ xs ts with
        | some d, some ρ' => some (.dat d, ρ')
        | _, _ => none
      | none => none
    else none
  | .comp t it c e, ρ => bnd (evI cl it ρ) fun ds ρ => bnd (compE (fun ρ => bnd (evC cl c ρ) fun k ρ => match k with
      | true => bnd (evE cl e ρ) fun x ρ => giv (x.st.map some) ρ
      | false => some (none, ρ)) t t.slots ds [] ρ) fun ys ρ => some (.dat (.list ys), wipeE ρ t.slots)
  | .pop i, ρ => match ρ[i]? with
    | some (.val b (.lst ts)) => match ts.getLast? with
      | some (.sh d) => some (.dat d, ρ.set i (.val b (.lst ts.dropLast)))
      | _ => none
    | _ => none
  | .popi i e, ρ => if isLst ρ i = true then bnd (evE cl e ρ) fun k ρ => match k, ρ[i]? with
      | .dat (.int k), some (.val b (.lst ts)) => if rngOk k = true then match ixN ts.length k with
        | some j => match ts[j]? with
          | some (.sh d) => some (.dat d, ρ.set i (.val b (.lst (ts.eraseIdx j))))
          | _ => none
        | none => none
        else none
      | _, _ => none
    else none
  | .lset a, ρ => bnd (evE cl a ρ) fun x ρ => match x with
    | .dat (.list xs) => giv ((boolsOf xs).map fun bs => .dat (.int (cntB bs : Nat))) ρ
    | _ => none
  | .lrg a, ρ => bnd (evE cl a ρ) fun x ρ => match x with
    | .dat (.int n) => if rngOk n = true ∧ n ≤ 16777216 then some (.dat (.list (rangeD 0 n)), ρ) else none
    | _ => none
  | .gdx _ kvs a, ρ => bnd (evE cl a ρ) fun x ρ => match x with
    | .dat (.str z) => match kvs.lookup z with
      | some (some u) => some (.dat (.str u), ρ)
      | _ => none
    | _ => none
  | .gdin neg _ kvs a, ρ => bnd (evE cl a ρ) fun x ρ => match x with
    | .dat (.str z) => match kvs.lookup z with
      | some o => some (.dat (.bool (if neg = true then !o.isSome else o.isSome)), ρ)
      | _ => none
    | _ => none
  | .dct _ _, _ => none
  | .dix ks es a, ρ => bnd (evEs cl es ρ) fun xs ρ => bnd (evE cl a ρ) fun y ρ => match dctD ks xs, y with
    | some kds, .dat (.str z) => giv ((atD kds (.inr z)).map .dat) ρ
    | _, _ => none
  | .dget i a, ρ => if isDct ρ i = true then bnd (evE cl a ρ) fun y ρ => match y, ρ[i]? with
    | .dat (.str z), some (.val _ (.dK kds)) => giv ((atD kds (.inr z)).map .dat) ρ
    | _, _ => none
    else none
  | .din neg i a, ρ => bnd (evE cl a ρ) fun y ρ => match y, ρ[i]? with
    | .dat (.str z), some (.val _ (.dK kds)) => some (.dat (.bool (if neg = true then !(atD kds (.inr z)).isSome else (atD kds (.inr z)).isSome)), ρ)
    | _, _ => none
def evEs (cl : Cl) : Exs → Env → Res (List AV)
  | .nil, ρ => some ([], ρ)
  | .cons e es, ρ => bnd (evE cl e ρ) fun x ρ => bnd (evEs cl es ρ) fun xs ρ => some (x :: xs, ρ)
def evO (cl : Cl) : Eo → Env → Res (Option Int)
  | .no, ρ => some (none, ρ)
  | .yes e, ρ => bnd (evE cl e ρ) fun x ρ => match x with
    | .dat (.int i) => some (some i, ρ)
    | _ => none
/-- a comprehension's test -/
def evC (cl : Cl) : Eo → Env → Res Bool
  | .no, ρ => some (true, ρ)
  | .yes e, ρ => evT cl e ρ
/-- as a test -/
def evT (cl : Cl) : Ex → Env → Res Bool
  | .and a b, ρ => bnd (evT cl a ρ) fun k ρ => match k with
    | true => evT cl b ρ
    | false => some (false, ρ)
  | .or a b, ρ => bnd (evT cl a ρ) fun k ρ => match k with
    | true => some (true, ρ)
    | false => evT cl b ρ
  | .not a, ρ => bnd (evT cl a ρ) fun k ρ => some (!k, ρ)
  | .last a, ρ => evT cl a ρ
  | e, ρ => bnd (evE cl e ρ) fun x ρ => giv ((x.wk ρ).bind truD) ρ
def evI (cl : Cl) : It → Env → Res (List D)
  | .seq a, ρ => bnd (evE cl a ρ) fun x ρ => giv (x.st.bind itemsOf) ρ
  | .rng a, ρ => bnd (evE cl a ρ) fun x ρ => match x with
    | .dat (.int n) => if rngOk n = true then some (rangeD 0 n, ρ) else none
    | _ => none
  | .rng2 a b, ρ => bnd (evE cl a ρ) fun x ρ => bnd (evE cl b ρ) fun y ρ => match x, y with
    | .dat (.int n), .dat (.int m) => if rngOk n = true ∧ rngOk m = true then some (rangeD n m, ρ) else none
    | _, _ => none
  | .enum a, ρ => bnd (evE cl a ρ) fun x ρ => match x with
    | .dat (.list xs) => some (enumD xs, ρ)
    | .dat (.tuple xs) => some (enumD xs, ρ)
    | _ => none
  | .zip a b, ρ => bnd (evE cl a ρ) fun x ρ => bnd (evE cl b ρ) fun y ρ => match x, y with
    | .dat (.list xs), .dat (.list ys) => some (zipD xs ys, ρ)
    | _, _ => none
end

/-- a list as one's own: what makes a new list -/
def evOwn (cl : Cl) : Ex → Env → Res OT
  | .lst es, ρ => bnd (evEs cl es ρ) fun xs ρ => giv ((lstD xs).map fun ds => .lst (ds.map .sh)) ρ
  | .rep a n, ρ => bnd (evE cl a ρ) fun x ρ => bnd (evE cl n ρ) fun y ρ => giv ((repD x y).map fun ds => .lst (ds.map .sh)) ρ
  | .comp t it c e, ρ => bnd (evE cl (.comp t it c e) ρ) fun x ρ => match x with
    | .dat (.list ds) => some (.lst (ds.map .sh), ρ)
    | _ => none
  | .sl a lo hi, ρ => bnd (evE cl (.sl a lo hi) ρ) fun x ρ => match x with
    | .dat (.list ds) => some (.lst (ds.map .sh), ρ)
    | _ => none
  | .op .add a b, ρ => bnd (evE cl (.op .add a b) ρ) fun x ρ => match x with
    | .dat (.list ds) => some (.lst (ds.map .sh), ρ)
    | _ => none
  | .bn .list es, ρ => bnd (evE cl (.bn .list es) ρ) fun x ρ => match x with
    | .dat (.list ds) => some (.lst (ds.map .sh), ρ)
    | _ => none
  | .lrg a, ρ => bnd (evE cl (.lrg a) ρ) fun x ρ => match x with
    | .dat (.list ds) => some (.lst (ds.map .sh), ρ)
    | _ => none
  | .dct ks es, ρ => bnd (evEs cl es ρ) fun xs ρ => giv ((dctD ks xs).map .dK) ρ
  | .call f es, ρ => bnd (evEs cl es ρ) fun xs ρ => if (lentOf xs).Nodup then
      match (argTs ρ xs).bind (cl f) with
      | some (t, ts) => match backT ρ xs ts with
        | some ρ' => some (t, ρ')
        | _ => none
      | none => none
    else none
  | _, _ => none

/-- how a statement ends -/
inductive Fl where
  | nx (ρ : Env) | brk (ρ : Env) | cont (ρ : Env) | ret (t : OT) (ρ : Env)
def forE (body : Env → Option Fl) (t : Tg) : List D → Env → Option Fl
  | [], ρ => some (.nx ρ)
  | x :: xs, ρ => match tgE ρ t x with
    | none => none
    | some ρ1 => match body ρ1 with
      | some (.nx ρ2) => forE body t xs ρ2
      | some (.cont ρ2) => forE body t xs ρ2
      | some (.brk ρ2) => some (.nx ρ2)
      | some (.ret v ρ2) => some (.ret v ρ2)
      | none => none
def whlE (test : Env → Res Bool) (body : Env → Option Fl) : Nat → Env → Option Fl
  | 0, _ => none
  | n + 1, ρ => match test ρ with
    | none => none
    | some (false, ρ1) => some (.nx ρ1)
    | some (true, ρ1) => match body ρ1 with
      | some (.nx ρ2) => whlE test body n ρ2
      | some (.cont ρ2) => whlE test body n ρ2
      | some (.brk ρ2) => some (.nx ρ2)
      | some (.ret v ρ2) => some (.ret v ρ2)
      | none => none
def evS (cl : Cl) (fu : Nat) : St → Env → Option Fl
  | .pass, ρ => some (.nx ρ)
  | .nil, ρ => some (.nx ρ)
  | .seq a b, ρ => match evS cl fu a ρ with
    | some (.nx ρ1) => evS cl fu b ρ1
    | r => r
  | .ex e, ρ => bnd (evE cl e ρ) fun _ ρ => some (.nx ρ)
  | .ret (.var i), ρ => match ρ[i]? with
    | some (.val false t) => some (.ret t (ρ.set i .non))
    | some (.val true (.sh d)) => some (.ret (.sh d) ρ)
    | _ => none
  | .ret e, ρ => bnd (evE cl e ρ) fun x ρ => match x with
    | .dat d => some (.ret (.sh d) ρ)
    | _ => none
  | .retN, ρ => some (.ret (.sh .none) ρ)
  | .asg t e, ρ => bnd (evE cl e ρ) fun x ρ => match x with
    | .dat d => (tgE ρ t d).map .nx
    | _ => none
  | .own i e, ρ => bnd (evOwn cl e ρ) fun t ρ => if i < ρ.length ∧ isLent ρ i = false then some (.nx (ρ.set i (.val false t))) else none
  | .par is es, ρ => bnd (evEs cl es ρ) fun xs ρ => (sts xs).bind fun ds => (putsE ρ is ds).map .nx
  | .setix i k e, ρ => bnd (evE cl e ρ) fun x ρ => if isLst ρ i = true then bnd (evE cl k ρ) fun y ρ => match x, y, ρ[i]? with
      | .dat d, .dat (.int n), some (.val b (.lst ts)) => match ixN ts.length n with
        | some j => some (.nx (ρ.set i (.val b (.lst (ts.set j (.sh d))))))
        | none => none
      | _, _, _ => none
    else none
  | .aug i o e, ρ => bnd (rdVar i ρ) fun d ρ => bnd (evE cl e ρ) fun x ρ => match d, x with
    | .int a, .dat (.int b) => match o with
      | .add => (putE ρ i (.int (a + b))).map .nx
      | .sub => (putE ρ i (.int (a - b))).map .nx
      | _ => none
    | _, _ => none
  | .ifs c a b, ρ => bnd (evT cl c ρ) fun k ρ => match k with
    | true => evS cl fu a ρ
    | false => evS cl fu b ρ
  | .for_ t it b, ρ => bnd (evI cl it ρ) fun ds ρ => forE (evS cl fu b) t ds ρ
  | .whl c b, ρ => whlE (evT cl c) (evS cl fu b) fu ρ
  | .app i e, ρ => if isLst ρ i = true then bnd (evE cl e ρ) fun x ρ => match x, ρ[i]? with
      | .dat d, some (.val b (.lst ts)) => if ts.length < sizeLine then some (.nx (ρ.set i (.val b (.lst (ts ++ [.sh d]))))) else none
      | _, _ => none
    else none
  | .ext i e, ρ => if isLst ρ i = true then bnd (evE cl e ρ) fun x ρ => match x, ρ[i]? with
      | .dat (.list ds), some (.val b (.lst ts)) => if ts.length + ds.length ≤ sizeLine then some (.nx (ρ.set i (.val b (.lst (ts ++ ds.map .sh))))) else none
      | _, _ => none
    else none
  | .ins i k e, ρ => if isLst ρ i = true then bnd (evE cl k ρ) fun y ρ => bnd (evE cl e ρ) fun x ρ => match x, y, ρ[i]? with
      | .dat d, .dat (.int n), some (.val b (.lst ts)) => if ts.length < sizeLine ∧ 0 ≤ n ∧ n ≤ ts.length then some (.nx (ρ.set i (.val b (.lst (ts.take n.toNat ++ [.sh d] ++ ts.drop n.toNat))))) else none
      | _, _, _ => none
    else none

  | .reto e, ρ => bnd (evOwn cl e ρ) fun t ρ => some (.ret t ρ)
  | .dset2 i k1 k2 e, ρ => bnd (evE cl e ρ) fun x ρ => match x, ρ[i]? with
    | .dat (.tuple [d1, d2]), some (.val b (.dK kds)) => if kds.length + 2 ≤ sizeLine then some (.nx (ρ.set i (.val b (.dK (putD (putD kds (.inr k1) d1) (.inr k2) d2))))) else none
    | _, _ => none
  | .setx2 i n j e, ρ => bnd (evE cl e ρ) fun x ρ => match x, ρ[i]? with
    | .dat (.tuple [d1, d2]), some (.val b (.lst ts)) => match ixN ts.length n with
      | some m => (putE (ρ.set i (.val b (.lst (ts.set m (.sh d1))))) j d2).map .nx
      | none => none
    | _, _ => none

/-- a def: which parameters are lent, how many names, its body -/
structure Fd where
  lent : List Bool
  n : Nat
  body : St
def startE : List Bool → List OT → Option Env
  | [], [] => some []
  | true :: bs, .sh _ :: ts => none
  | true :: bs, t :: ts => (startE bs ts).map (.val true t :: ·)
  | false :: bs, .sh d :: ts => (startE bs ts).map (.val false (.sh d) :: ·)
  | _, _ => none
def endE (ρ : Env) : List Bool → Nat → Option (List OT)
  | [], _ => some []
  | false :: bs, i => (endE ρ bs (i + 1)).map (.sh .none :: ·)
  | true :: bs, i => match ρ[i]? with
    | some (.val true t) => (endE ρ bs (i + 1)).map (t :: ·)
    | _ => none
def evF (tbl : Nat → Option Fd) (fu : Nat) : Nat → Cl
  | 0 => fun _ _ => none
  | k + 1 => fun f ts => match tbl f with
    | none => none
    | some fd => match startE fd.lent ts with
      | none => none
      | some ρ => match evS (evF tbl fu k) fu fd.body (ρ ++ List.replicate (fd.n - fd.lent.length) .non) with
        | some (.ret t ρ') => (endE ρ' fd.lent 0).map fun r => (t, r)
        | some (.nx ρ') => (endE ρ' fd.lent 0).map fun r => (.sh .none, r)
        | _ => none
end Pv

set_option Elab.async false
set_option linter.all false
set_option maxRecDepth 100000
set_option maxHeartbeats 4000000
/-! expressions: the evaluator's answer is kept by the hand layer's judgements -/
namespace Pv
open PySem L2

def Bk (ρ ρ' : Env) : Prop := ∀ (i : Nat) (t' : OT), ρ'[i]? = some (Slot.val true t') → ∃ t : OT, ρ[i]? = some (Slot.val true t)
/-- the state behind -/
structure Aft (K : PySem.W.Frag) (σ : L2.St) (S : Addr → Prop) (fp : Nat → Fp) (H : Hp) (ρ : Env) (S' : Addr → Prop) (fp' : Nat → Fp) (H' : Hp) (ρ' : Env) : Prop where
  fr : Fr true S fp H S' fp' H'
  bk : Bk ρ ρ'
  rs : RS K S' σ H' ρ' fp'
def ArgOk (K : PySem.W.Frag) (S : Addr → Prop) (H : Hp) (σ : L2.St) (v : V) : AV → Prop
  | .dat d => Rep K S H v d
  | .pk i => σ[i]? = some (some v)
inductive ArgsOk (K : PySem.W.Frag) (S : Addr → Prop) (H : Hp) (σ : L2.St) : List V → List AV → Prop
  | nil : ArgsOk K S H σ [] []
  | cons {v : V} {vs : List V} {a : AV} {as : List AV} : ArgOk K S H σ v a → ArgsOk K S H σ vs as → ArgsOk K S H σ (v :: vs) (a :: as)

section
variable {K : PySem.W.Frag} {S S1 S' : Addr → Prop} {H H1 H' : Hp} {fp fp1 fp' : Nat → Fp} {σ : L2.St} {ρ ρ1 ρ' : Env} {v : V} {a : AV}
theorem Bk.refl : Bk ρ ρ := fun i t h => ⟨t, h⟩
theorem Bk.trans (a : Bk ρ ρ1) (b : Bk ρ1 ρ') : Bk ρ ρ' := fun i t h => let ⟨t1, h1⟩ := b i t h; a i t1 h1
theorem Bk.set {i : Nat} {b : Bool} {t t' : OT} (e : ρ[i]? = some (.val b t)) : Bk ρ (ρ.set i (.val b t')) := fun j u h => by
  by_cases hj : j = i
  · subst hj
    have hl := (List.getElem?_eq_some_iff.mp e).1
    rw [List.getElem?_set_self hl] at h
    cases h
    exact ⟨t, e⟩
  · rw [List.getElem?_set_ne (Ne.symm hj)] at h
    exact ⟨u, h⟩
theorem Aft.refl (r : RS K S σ H ρ fp) : Aft K σ S fp H ρ S fp H ρ := ⟨Fr.refl, Bk.refl, r⟩
theorem Aft.trans (a : Aft K σ S fp H ρ S1 fp1 H1 ρ1) (b : Aft K σ S1 fp1 H1 ρ1 S' fp' H' ρ') : Aft K σ S fp H ρ S' fp' H' ρ' := ⟨a.fr.trans b.fr, a.bk.trans b.bk, b.rs⟩
theorem Aft.al (a : Aft K σ S fp H ρ S1 fp1 H1 ρ1) (b : Al S1 H1 S' H') : Aft K σ S fp H ρ S' fp1 H' ρ1 := ⟨a.fr.trans b.fr, a.bk, a.rs.al b⟩
theorem ArgOk.mono (h : ArgOk K S H σ v a) (r : RS K S σ H ρ fp) (f : Fr true S fp H S' fp' H') : ArgOk K S' H' σ v a := by
  cases a with
  | dat d => exact Rep.mono (r.ext f) h
  | pk i => exact h
theorem ArgsOk.mono (r : RS K S σ H ρ fp) (f : Fr true S fp H S' fp' H') : ∀ {vs : List V} {as : List AV}, ArgsOk K S H σ vs as → ArgsOk K S' H' σ vs as
  | _, _, .nil => .nil
  | _, _, .cons a b => .cons (a.mono r f) (ArgsOk.mono r f b)
/-- a slot's tree as it looks -/
theorem RS.look (r : RS K S σ H ρ fp) {i : Nat} {d : D} (h : σ[i]? = some (some v)) (e : fzs ρ i = some d) : Rep K AllS H v d := by
  unfold fzs at e
  cases q : ρ[i]? with
  | none => rw [q] at e; cases e
  | some s =>
    cases s with
    | non => rw [q] at e; cases e
    | val b t =>
      rw [q] at e
      obtain ⟨w, h1, h2⟩ := r.val q
      rw [h] at h1
      cases h1
      exact RepO.fz (fun _ _ => trivial) h2 e fun _ _ => trivial
theorem ArgOk.weak (h : ArgOk K S H σ v a) (r : RS K S σ H ρ fp) {d : D} (e : a.wk ρ = some d) : Rep K AllS H v d := by
  cases a with
  | dat d' => cases e; exact Rep.all h
  | pk i => exact r.look h e
theorem ArgOk.strong (h : ArgOk K S H σ v a) {d : D} (e : a.st = some d) : Rep K S H v d := by
  cases a with
  | dat d' => cases e; exact h
  | pk i => cases e
theorem ArgsOk.strong : ∀ {vs : List V} {as : List AV} {ds : List D}, ArgsOk K S H σ vs as → sts as = some ds → Reps K S H vs ds
  | _, _, _, .nil, e => by cases e; exact .nil
  | _, a :: as, _, .cons h1 h2, e => by
    unfold sts at e
    cases q1 : a.st with
    | none => rw [q1] at e; cases e
    | some d =>
      cases q2 : sts as with
      | none => rw [q1, q2] at e; cases e
      | some ds =>
        rw [q1, q2] at e
        cases e
        exact .cons (h1.strong q1) (ArgsOk.strong h2 q2)
theorem ArgsOk.weak (r : RS K S σ H ρ fp) : ∀ {vs : List V} {as : List AV} {ds : List D}, ArgsOk K S H σ vs as → wks ρ as = some ds → Reps K AllS H vs ds
  | _, _, _, .nil, e => by cases e; exact .nil
  | _, a :: as, _, .cons h1 h2, e => by
    unfold wks at e
    cases q1 : a.wk ρ with
    | none => rw [q1] at e; cases e
    | some d =>
      cases q2 : wks ρ as with
      | none => rw [q1, q2] at e; cases e
      | some ds =>
        rw [q1, q2] at e
        cases e
        exact .cons (h1.weak r q1) (ArgsOk.weak r h2 q2)
end

/-! ### readings by the evaluator -/
def rdV (K : PySem.W.Frag) (ev : Env → Res AV) : TE := fun σ H Q => ∃ S fp ρ a ρ', RS K S σ H ρ fp ∧ ev ρ = some (a, ρ') ∧ ∀ S' fp' v H', Aft K σ S fp H ρ S' fp' H' ρ' → ArgOk K S' H' σ v a → Q v H'
def rdVs (K : PySem.W.Frag) (ev : Env → Res (List AV)) : TA := fun σ H Q => ∃ S fp ρ a ρ', RS K S σ H ρ fp ∧ ev ρ = some (a, ρ') ∧ ∀ S' fp' v H', Aft K σ S fp H ρ S' fp' H' ρ' → ArgsOk K S' H' σ v a → Q v H'
def rdT (K : PySem.W.Frag) (ev : Env → Res Bool) : TT := fun σ H Q => ∃ S fp ρ a ρ', RS K S σ H ρ fp ∧ ev ρ = some (a, ρ') ∧ ∀ S' fp' H', Aft K σ S fp H ρ S' fp' H' ρ' → Q a H'
def rdO (K : PySem.W.Frag) (ev : Env → Res (Option Int)) : TO := fun σ H Q => ∃ S fp ρ a ρ', RS K S σ H ρ fp ∧ ev ρ = some (a, ρ') ∧ ∀ S' fp' H', Aft K σ S fp H ρ S' fp' H' ρ' → Q a H'

section
variable {X : Cx}
theorem _root_.L2.PE.weak {e : Expr} {t t' : TE} (h : PE X e t) (w : ∀ σ H Q, t' σ H Q → t σ H Q) : PE X e t' := ⟨fun pins s σ H Q I q => h.run pins s σ H Q I (w σ H Q q)⟩
theorem _root_.L2.PE.weakI {e : Expr} {t t' : TE} (h : PE X e t) (w : ∀ pins s σ H Q, Inv X pins σ H s → t' σ H Q → t σ H Q) : PE X e t' := ⟨fun pins s σ H Q I q => h.run pins s σ H Q I (w pins s σ H Q I q)⟩
theorem _root_.L2.PA.weak {e : List Expr} {t t' : TA} (h : PA X e t) (w : ∀ σ H Q, t' σ H Q → t σ H Q) : PA X e t' := ⟨fun pos pins s σ H Q I q => h.run pos pins s σ H Q I (w σ H Q q)⟩
theorem _root_.L2.PT.weak {e : Expr} {t t' : TT} (h : PT X e t) (w : ∀ σ H Q, t' σ H Q → t σ H Q) : PT X e t' := ⟨fun pins s σ H Q I q => h.run pins s σ H Q I (w σ H Q q)⟩
theorem _root_.L2.PW.weak {e : Expr} {t t' : TT} (h : PW X e t) (w : ∀ σ H Q, t' σ H Q → t σ H Q) : PW X e t' := ⟨fun whole pins s σ H Q I q => h.run whole pins s σ H Q I (w σ H Q q)⟩
theorem _root_.L2.PO.weak {e : Option Expr} {t t' : TO} (h : PO X e t) (w : ∀ σ H Q, t' σ H Q → t σ H Q) : PO X e t' := ⟨fun pins s σ H Q I q => h.run pins s σ H Q I (w σ H Q q)⟩
theorem _root_.L2.PS.weak {e : Stmt} {t t' : TS} (h : PS X e t) (w : ∀ D σ H, t' D σ H → t D σ H) : PS X e t' := ⟨fun pins s σ H D I q => h.run pins s σ H D I (w D σ H q)⟩
theorem _root_.L2.PSs.weak {e : List Stmt} {t t' : TS} (h : PSs X e t) (w : ∀ D σ H, t' D σ H → t D σ H) : PSs X e t' := ⟨fun pins s σ H D I q => h.run pins s σ H D I (w D σ H q)⟩

variable {cl : Cl} {e a b c : Expr} {xa xb xc : Ex} {pos p : Pos}

/-! ### names, constants -/
theorem s_var {i : Nat} {x : Str} (hN : X.N[i]? = some x) (hv : Vis X.env.scope x) (hd : (x == ("__debug__" : Str)) = false) (hcd : (x == ("__classdict__" : Str)) = false) :
    PE X (.Name x pos) (rdV X.K (evE cl (.var i))) := by
  refine (pe_var hN hv hd hcd).weak fun σ H Q h => ?_
  obtain ⟨S, fp, ρ, a, ρ', r, e, q⟩ := h
  unfold evE at e
  obtain ⟨d, ρ1, e1, e2⟩ := bnd_eq e
  cases e2
  unfold rdVar at e1
  split at e1
  · cases e1
    obtain ⟨v, h1, h2⟩ := r.sh (by assumption)
    exact ⟨v, h1, q _ _ v H (Aft.refl r) h2⟩
  · rename_i q0
    split at e1
    · rename_i d' hd'
      cases e1
      obtain ⟨r', f', v, h1, h2⟩ := r.freeze (w := true) q0 hd'
      exact ⟨v, h1, q _ _ v H ⟨f', Bk.set q0, r'⟩ h2⟩
    · cases e1
  · cases e1
theorem s_pk {i : Nat} {x : Str} (hN : X.N[i]? = some x) (hv : Vis X.env.scope x) (hd : (x == ("__debug__" : Str)) = false) (hcd : (x == ("__classdict__" : Str)) = false) :
    PE X (.Name x pos) (rdV X.K (evE cl (.pk i))) := by
  refine (pe_var hN hv hd hcd).weak fun σ H Q h => ?_
  obtain ⟨S, fp, ρ, a, ρ', r, e, q⟩ := h
  unfold evE at e
  split at e
  · cases e
    obtain ⟨v, h1, h2⟩ := r.val (by assumption)
    exact ⟨v, h1, q _ _ v H (Aft.refl r) h1⟩
  · cases e
theorem s_c {v : V} {d : D} (h : PE X e (tC v)) (r0 : ∀ S H, Rep X.K S H v d) {x : Ex} (hx : ∀ ρ, evE cl x ρ = some (.dat d, ρ)) : PE X e (rdV X.K (evE cl x)) := by
  refine h.weak fun σ H Q h => ?_
  obtain ⟨S, fp, ρ, a, ρ', r, e, q⟩ := h
  rw [hx] at e
  cases e
  exact q _ _ v H (Aft.refl r) (r0 _ _)
theorem s_non {j} : PE X (.Constant .none j pos) (rdV X.K (evE cl .non)) := s_c pe_non (fun _ _ => .non) fun ρ => by unfold evE; rfl
theorem s_bl {k j} : PE X (.Constant (.bool k) j pos) (rdV X.K (evE cl (.bl k))) := s_c pe_bl (fun _ _ => .bl k) fun ρ => by unfold evE; rfl
theorem s_int {k j} : PE X (.Constant (.int k) j pos) (rdV X.K (evE cl (.int k))) := s_c pe_int (fun _ _ => .int k) fun ρ => by unfold evE; rfl
theorem s_str {k j} : PE X (.Constant (.str k) j pos) (rdV X.K (evE cl (.str k))) := s_c pe_str (fun _ _ => .str k) fun ρ => by unfold evE; rfl
/-- a constant of the module -/
theorem s_gl {x : Str} {v : V} {u : Value} {d : D} (hg : Gl X x) (hm : X.mg x = some u) (r : RelV v u) (r0 : ∀ S H, Rep X.K S H v d) (hd : (x == ("__debug__" : Str)) = false) : PE X (.Name x pos) (rdV X.K (evE cl (.gl x d))) :=
  s_c (pe_glob hg hm r hd) r0 fun ρ => by unfold evE; rfl

/-! ### operators -/
theorem s_op {o : O2} (ha : PE X a (rdV X.K (evE cl xa))) (hb : PE X b (rdV X.K (evE cl xb))) : PE X (.BinOp a o.op b pos) (rdV X.K (evE cl (.op o xa xb))) := by
  refine (pe_op (O2.rule o) ha hb).weak fun σ H Q h => ?_
  obtain ⟨S, fp, ρ, av, ρ', r, e, q⟩ := h
  unfold evE at e
  obtain ⟨x, ρ1, e1, e⟩ := bnd_eq e
  obtain ⟨y, ρ2, e2, e⟩ := bnd_eq e
  obtain ⟨e, rfl⟩ := giv_eq e
  refine ⟨S, fp, ρ, x, ρ1, r, e1, fun S1 fp1 vx H1 A1 o1 => ⟨S1, fp1, ρ1, y, _, A1.rs, e2, fun S2 fp2 vy H2 A2 o2 => ?_⟩⟩
  cases hx : x.st with
  | none => rw [hx] at e; cases e
  | some d1 =>
    cases hy : y.st with
    | none => rw [hx, hy] at e; cases e
    | some d2 =>
      rw [hx, hy] at e
      cases hf : o.f d1 d2 with
      | none => simp [hf] at e
      | some d =>
        simp [hf] at e
        subst e
        exact ⟨S2, d1, d2, d, (o1.strong hx).mono (A1.rs.ext A2.fr), o2.strong hy, hf, fun S3 w H3 al rw => q _ _ w H3 ((A1.trans A2).al al) rw⟩
theorem s_cmp {o : C2} (hu : X.A.units + 64 < cLine) (ha : PE X a (rdV X.K (evE cl xa))) (hb : PE X b (rdV X.K (evE cl xb))) (hm : behindInMarks o.op b = false) : PE X (.Compare a [o.op] [b] pos) (rdV X.K (evE cl (.cmp o xa xb))) := by
  refine (pe_cmpR (C2.rule hu o) ha hb hm).weak fun σ H Q h => ?_
  obtain ⟨S, fp, ρ, av, ρ', r, e, q⟩ := h
  unfold evE at e
  obtain ⟨x, ρ1, e1, e⟩ := bnd_eq e
  obtain ⟨y, ρ2, e2, e⟩ := bnd_eq e
  obtain ⟨e, rfl⟩ := giv_eq e
  refine ⟨S, fp, ρ, x, ρ1, r, e1, fun S1 fp1 vx H1 A1 o1 => ⟨S1, fp1, ρ1, y, _, A1.rs, e2, fun S2 fp2 vy H2 A2 o2 => ?_⟩⟩
  cases hx : x.wk ρ' with
  | none => rw [hx] at e; cases e
  | some d1 =>
    cases hy : y.wk ρ' with
    | none => rw [hx, hy] at e; cases e
    | some d2 =>
      rw [hx, hy] at e
      cases hf : o.b d1 d2 with
      | none => simp [C2.f, hf] at e
      | some k =>
        simp [C2.f, hf] at e
        subst e
        exact ⟨d1, d2, .bool k, .bl k, (o1.mono A1.rs A2.fr).weak A2.rs hx, o2.weak A2.rs hy, by unfold C2.f; rw [hf]; rfl, rfl, q _ _ _ H2 (A1.trans A2) (.bl k)⟩
theorem s_neg (ha : PE X a (rdV X.K (evE cl xa))) : PE X (.UnaryOp .USub a pos) (rdV X.K (evE cl (.neg xa))) := by
  refine (pe_un un_neg ha).weak fun σ H Q h => ?_
  obtain ⟨S, fp, ρ, av, ρ', r, e, q⟩ := h
  unfold evE at e
  obtain ⟨x, ρ1, e1, e⟩ := bnd_eq e
  split at e
  · cases e
    refine ⟨S, fp, ρ, _, _, r, e1, fun S1 fp1 vx H1 A1 o1 => ?_⟩
    have o1 : Rep X.K S1 H1 vx (.int _) := o1
    cases o1
    exact ⟨_, rfl, q _ _ _ H1 A1 (.int _)⟩
  · cases e
theorem s_last {op} (ha : PE X a (rdV X.K (evE cl xa))) : PE X (.BoolOp op [a] pos) (rdV X.K (evE cl (.last xa))) := by
  refine (pe_one ha).weak fun σ H Q h => ?_
  obtain ⟨S, fp, ρ, av, ρ', r, e, q⟩ := h
  unfold evE at e
  exact ⟨S, fp, ρ, av, ρ', r, e, q⟩
theorem s_and {rest : List Expr} (ha : PE X a (rdV X.K (evE cl xa))) (hb : PE X (.BoolOp .And (b :: rest) pos) (rdV X.K (evE cl xb))) : PE X (.BoolOp .And (a :: b :: rest) pos) (rdV X.K (evE cl (.and xa xb))) := by
  refine (pe_and ha hb).weak fun σ H Q h => ?_
  obtain ⟨S, fp, ρ, av, ρ', r, e, q⟩ := h
  unfold evE at e
  obtain ⟨x, ρ1, e1, e⟩ := bnd_eq e
  refine ⟨S, fp, ρ, x, ρ1, r, e1, fun S1 fp1 vx H1 A1 o1 => ?_⟩
  split at e
  · have o1 : Rep X.K S1 H1 vx (.bool true) := o1
    cases o1
    refine ⟨true, rfl, ?_⟩
    exact ⟨S1, fp1, ρ1, av, ρ', A1.rs, e, fun S2 fp2 w H2 A2 o2 => q _ _ w H2 (A1.trans A2) o2⟩
  · have o1 : Rep X.K S1 H1 vx (.bool false) := o1
    cases o1
    cases e
    exact ⟨false, rfl, q _ _ _ H1 A1 (.bl false)⟩
  · cases e
theorem s_or {rest : List Expr} (ha : PE X a (rdV X.K (evE cl xa))) (hb : PE X (.BoolOp .Or (b :: rest) pos) (rdV X.K (evE cl xb))) : PE X (.BoolOp .Or (a :: b :: rest) pos) (rdV X.K (evE cl (.or xa xb))) := by
  refine (pe_or ha hb).weak fun σ H Q h => ?_
  obtain ⟨S, fp, ρ, av, ρ', r, e, q⟩ := h
  unfold evE at e
  obtain ⟨x, ρ1, e1, e⟩ := bnd_eq e
  refine ⟨S, fp, ρ, x, ρ1, r, e1, fun S1 fp1 vx H1 A1 o1 => ?_⟩
  split at e
  · have o1 : Rep X.K S1 H1 vx (.bool true) := o1
    cases o1
    cases e
    exact ⟨true, rfl, q _ _ _ H1 A1 (.bl true)⟩
  · have o1 : Rep X.K S1 H1 vx (.bool false) := o1
    cases o1
    refine ⟨false, rfl, ?_⟩
    exact ⟨S1, fp1, ρ1, av, ρ', A1.rs, e, fun S2 fp2 w H2 A2 o2 => q _ _ w H2 (A1.trans A2) o2⟩
  · cases e
theorem s_not (ha : PE X a (rdV X.K (evE cl xa))) : PE X (.UnaryOp .Not a pos) (rdV X.K (evE cl (.not xa))) := by
  refine (pe_not ha).weak fun σ H Q h => ?_
  obtain ⟨S, fp, ρ, av, ρ', r, e, q⟩ := h
  unfold evE at e
  obtain ⟨x, ρ1, e1, e⟩ := bnd_eq e
  split at e
  · cases e
    refine ⟨S, fp, ρ, _, _, r, e1, fun S1 fp1 vx H1 A1 o1 => ?_⟩
    have o1 : Rep X.K S1 H1 vx (.bool _) := o1
    cases o1
    exact ⟨_, rfl, q _ _ _ H1 A1 (.bl _)⟩
  · cases e
theorem s_ite (hc : PT X c (rdT X.K (evT cl xc))) (ha : PE X a (rdV X.K (evE cl xa))) (hb : PE X b (rdV X.K (evE cl xb))) : PE X (.IfExp c a b pos) (rdV X.K (evE cl (.ite xc xa xb))) := by
  refine (pe_ifExp hc ha hb).weak fun σ H Q h => ?_
  obtain ⟨S, fp, ρ, av, ρ', r, e, q⟩ := h
  unfold evE at e
  obtain ⟨k, ρ1, e1, e⟩ := bnd_eq e
  refine ⟨S, fp, ρ, k, ρ1, r, e1, fun S1 fp1 H1 A1 => ?_⟩
  cases k with
  | true => exact ⟨S1, fp1, ρ1, av, ρ', A1.rs, e, fun S2 fp2 w H2 A2 o2 => q _ _ w H2 (A1.trans A2) o2⟩
  | false => exact ⟨S1, fp1, ρ1, av, ρ', A1.rs, e, fun S2 fp2 w H2 A2 o2 => q _ _ w H2 (A1.trans A2) o2⟩
end
end Pv

set_option Elab.async false
set_option linter.all false
set_option maxRecDepth 100000
set_option maxHeartbeats 4000000
/-! built-in functions, by values -/
namespace Pv
open PySem L2 PyProof.Rows

def rSn (K : PySem.W.Frag) (g : List D → Option D) : List V → Hp → VK → Prop := fun xs H Q => ∃ ds d v, Reps K AllS H xs ds ∧ g ds = some d ∧ sV d = some v ∧ Q v H
def Bs.id : Bs → String
  | .len => "len" | .sum => "sum" | .abs => "abs" | .int => "int" | .max => "max" | .min => "min" | .all => "all" | .any => "any"
def Bs.v (f : Bs) : Value := if f.ty then .type f.id else .builtin f.id
def Bn.id : Bn → String
  | .list => "list" | .tuple => "tuple" | .divmod => "divmod" | .min => "min"
def Bn.v (f : Bn) : Value := if f.ty then .type f.id else .builtin f.id

/-! ### sums, greatest, least of a tuple of ints -/
section
variable {prog : Program} {w : World} {A : Around} {E : Value → Shared → Prop} {s : Shared} {l : Addr} {xs : Array (Int × Tok)}
theorem iter_intTup {Q : Value → Shared → Prop} (hl : s.heap.IsTuple l (intItems xs))
    (h : ∀ s₂ : Shared, s₂ = { s with heap := s.heap.push { cls := .type "tuple_iterator", data := .fields #[.ref l, .int 0 0] } } →
      (s₂.heap.IsTupleIter s.heap.objs.size l 0 ∧ s₂.heap.IsTuple l (intItems xs)) → (∀ b ∈ [s.heap.objs.size, l], b < s₂.heap.objs.size) → l ≠ s.heap.objs.size → Q (.ref s.heap.objs.size) s₂) :
    wpAny (model prog w) A (pyIter (.ref l)) Q E s := by
  have hlt : l < s.heap.objs.size := by obtain ⟨_, e, _⟩ := hl; exact Heap.lt_size e
  refine wpAny_pyIter_tuple hl (h _ rfl ⟨⟨_, Heap.get?_push_size _ rfl, rfl, rfl⟩, hl.push _⟩ (fun b hb => ?_) (Nat.ne_of_lt hlt))
  show b < (s.heap.push _).objs.size
  rw [Heap.size_push]
  rcases List.mem_cons.mp hb with rfl | hb
  · exact Nat.lt_succ_self _
  · rcases List.mem_cons.mp hb with rfl | hb
    · exact Nat.lt_succ_of_lt hlt
    · cases hb
theorem old_keptT {h' : Heap} (hk : ∀ b o, b ∉ [s.heap.objs.size] → (s.heap.push { cls := .type "tuple_iterator", data := .fields #[.ref l, .int 0 0] }).get? b = some o → h'.get? b = some o) :
    ∀ b o, s.heap.get? b = some o → h'.get? b = some o := fun b o e => by
  refine hk b o (fun hm => ?_) (Heap.get?_push_of_some _ e)
  rcases List.mem_cons.mp hm with e1 | hm
  · exact absurd (e1 ▸ Heap.lt_size e) (Nat.lt_irrefl _)
  · cases hm
theorem max_intTup {Q : Value → Shared → Prop} (hh : A.handled = none) (hl : s.heap.IsTuple l (intItems xs)) (hne : 0 < xs.size)
    (h : ∀ v h' tk, (intItems xs)[argBest (fun i j => decide (numAt xs i > numAt xs j)) (xs.size - 1)]? = some v → (∀ b o, s.heap.get? b = some o → h'.get? b = some o) → Q v { s with heap := h', toks := tk }) :
    wpAny (model prog w) A (call (.builtin "max") [.ref l]) Q E s := by
  refine call_max_walk (iter_intTup hl fun s₂ e st hfp hlI => ?_)
  subst e
  refine ⟨_, _, _, _, _, _, _, rfl, Walks.tuple (A := A.in1) hh _ l hlI (intItems xs), st, hfp, by simpa [intItems] using hne, CmpOf.ints_gt (numAt xs) (fun _ _ => intItems_at), fun v h' tk hP hk => ?_⟩
  exact h v h' tk (by simpa [intItems] using hP) (old_keptT hk)
theorem min_intTup {Q : Value → Shared → Prop} (hh : A.handled = none) (hl : s.heap.IsTuple l (intItems xs)) (hne : 0 < xs.size)
    (h : ∀ v h' tk, (intItems xs)[argBest (fun i j => decide (numAt xs i < numAt xs j)) (xs.size - 1)]? = some v → (∀ b o, s.heap.get? b = some o → h'.get? b = some o) → Q v { s with heap := h', toks := tk }) :
    wpAny (model prog w) A (call (.builtin "min") [.ref l]) Q E s := by
  refine call_min_walk (iter_intTup hl fun s₂ e st hfp hlI => ?_)
  subst e
  refine ⟨_, _, _, _, _, _, _, rfl, Walks.tuple (A := A.in1) hh _ l hlI (intItems xs), st, hfp, by simpa [intItems] using hne, CmpOf.ints_lt (numAt xs) (fun _ _ => intItems_at), fun v h' tk hP hk => ?_⟩
  exact h v h' tk (by simpa [intItems] using hP) (old_keptT hk)
theorem sum_intTup {Q : Value → Shared → Prop} (hh : A.handled = none) (hl : s.heap.IsTuple l (intItems xs))
    (h : ∀ h' tk t', (∀ b o, s.heap.get? b = some o → h'.get? b = some o) → Q (.int (preSum (numAt xs) xs.size) t') { s with heap := h', toks := tk }) :
    wpAny (model prog w) A (call (.builtin "sum") [.ref l]) Q E s := by
  refine call_sum_walkG (iter_intTup hl fun s₂ e st hfp hlI => ?_)
  subst e
  refine ⟨_, _, _, _, _, _, numAt xs, rfl, Walks.tuple (A := A.in1) hh _ l hlI (intItems xs), st, hfp, (fun _ _ => intItems_at), fun h' tk t' hk => ?_⟩
  have := h h' tk t' (old_keptT hk)
  simpa [intItems] using this
variable {its : List Value} {ns : List Int} {Q : Value → Shared → Prop}
theorem sum_rawT (hh : A.handled = none) (hl : s.heap.IsTuple l its.toArray) (hi : IntsAre its ns)
    (h : ∀ h' tk t', (∀ b o, s.heap.get? b = some o → h'.get? b = some o) → Q (.int ns.sum t') { s with heap := h', toks := tk }) : wpAny (model prog w) A (call (.builtin "sum") [.ref l]) Q E s := by
  obtain ⟨xs, e⟩ := hi.allInts.items
  have hn : numsOf (intItems xs).toList = ns := by rw [← e]; exact hi.numsOf
  rw [nums_intItems] at hn
  rw [e] at hl
  refine sum_intTup hh hl fun h' tk t' hk => ?_
  have := h h' tk t' hk
  rw [preSum_eq, List.take_of_length_le (by simp), hn]; exact this
theorem max_rawT (hh : A.handled = none) (hl : s.heap.IsTuple l its.toArray) (hi : IntsAre its ns) (hne : 0 < ns.length)
    (h : ∀ h' tk M t', (∀ b o, s.heap.get? b = some o → h'.get? b = some o) → M ∈ ns → (∀ a, a ∈ ns → a ≤ M) → Q (.int M t') { s with heap := h', toks := tk }) : wpAny (model prog w) A (call (.builtin "max") [.ref l]) Q E s := by
  obtain ⟨xs, e⟩ := hi.allInts.items
  have hn : numsOf (intItems xs).toList = ns := by rw [← e]; exact hi.numsOf
  rw [nums_intItems] at hn
  subst hn
  rw [e] at hl
  have hsz : 0 < xs.size := by simpa using hne
  refine max_intTup hh hl hsz fun v h' tk hv hk => ?_
  obtain ⟨t, rfl⟩ := intItems_at hv
  obtain ⟨h1, h2⟩ := argBest_gt (numAt xs) (xs.size - 1)
  refine h h' tk _ t hk ?_ fun a ha => ?_
  · rw [numAt_eq]; exact PySem.getD_mem (by rw [List.length_map, Array.length_toList]; omega)
  · obtain ⟨j, hj, rfl⟩ := mem_getD ha
    rw [List.length_map, Array.length_toList] at hj
    rw [← numAt_eq]; exact h2 j (by omega)
theorem min_rawT (hh : A.handled = none) (hl : s.heap.IsTuple l its.toArray) (hi : IntsAre its ns) (hne : 0 < ns.length)
    (h : ∀ h' tk M t', (∀ b o, s.heap.get? b = some o → h'.get? b = some o) → M ∈ ns → (∀ a, a ∈ ns → M ≤ a) → Q (.int M t') { s with heap := h', toks := tk }) : wpAny (model prog w) A (call (.builtin "min") [.ref l]) Q E s := by
  obtain ⟨xs, e⟩ := hi.allInts.items
  have hn : numsOf (intItems xs).toList = ns := by rw [← e]; exact hi.numsOf
  rw [nums_intItems] at hn
  subst hn
  rw [e] at hl
  have hsz : 0 < xs.size := by simpa using hne
  refine min_intTup hh hl hsz fun v h' tk hv hk => ?_
  obtain ⟨t, rfl⟩ := intItems_at hv
  obtain ⟨h1, h2⟩ := argBest_lt (numAt xs) (xs.size - 1)
  refine h h' tk _ t hk ?_ fun a ha => ?_
  · rw [numAt_eq]; exact PySem.getD_mem (by rw [List.length_map, Array.length_toList]; omega)
  · obtain ⟨j, hj, rfl⟩ := mem_getD ha
    rw [List.length_map, Array.length_toList] at hj
    rw [← numAt_eq]; exact h2 j (by omega)
end
theorem tupIs {h : Heap} {a : Addr} {its : Array Value} (x : IsTup h a its) : h.IsTuple a its := x

/-! ### data of ints -/
section
variable {K : PySem.W.Frag} {S : Addr → Prop} {H : Hp}
theorem ints_of : ∀ {ds : List D} {ns : List Int}, intsOf ds = some ns → ds = ns.map PyData.int
  | [], ns, e => by unfold intsOf at e; cases e; rfl
  | d :: ds, ns, e => by
    cases d <;> simp only [intsOf, reduceCtorEq] at e
    rename_i n
    cases q : intsOf ds with
    | none => rw [q] at e; cases e
    | some ms => rw [q] at e; cases e; rw [List.map_cons, ints_of q]
theorem intsOf_map (ns : List Int) : intsOf (ns.map PyData.int) = some ns := by
  induction ns with
  | nil => rfl
  | cons n r ih => simp [intsOf, ih]
theorem bools_of : ∀ {ds : List D} {ns : List Bool}, boolsOf ds = some ns → ds = ns.map PyData.bool
  | [], ns, e => by unfold boolsOf at e; cases e; rfl
  | d :: ds, ns, e => by
    cases d <;> simp only [boolsOf, reduceCtorEq] at e
    rename_i n
    cases q : boolsOf ds with
    | none => rw [q] at e; cases e
    | some ms => rw [q] at e; cases e; rw [List.map_cons, bools_of q]
theorem Reps.bools : ∀ {vs : List V} {ns : List Bool}, Reps K S H vs (ns.map PyData.bool) → vs = ns.map V.bl
  | _, [], h => by cases h; rfl
  | _, n :: r, h => by
    cases h with
    | cons a b => cases a; rw [List.map_cons, Reps.bools b]
theorem Reps.one {vs : List V} {d : D} (h : Reps K S H vs [d]) : ∃ v, vs = [v] ∧ Rep K S H v d := by
  cases h with
  | cons a b => cases b; exact ⟨_, rfl, a⟩
theorem Reps.two {vs : List V} {d e : D} (h : Reps K S H vs [d, e]) : ∃ v u, vs = [v, u] ∧ Rep K S H v d ∧ Rep K S H u e := by
  cases h with
  | cons a b =>
    obtain ⟨u, rfl, h2⟩ := Reps.one b
    exact ⟨_, _, rfl, a, h2⟩
theorem Reps.three {vs : List V} {d e f : D} (h : Reps K S H vs [d, e, f]) : ∃ v u x, vs = [v, u, x] ∧ Rep K S H v d ∧ Rep K S H u e ∧ Rep K S H x f := by
  cases h with
  | cons a b =>
    obtain ⟨u, x, rfl, h2, h3⟩ := Reps.two b
    exact ⟨_, _, _, rfl, a, h2, h3⟩
theorem fold_max : ∀ (r : List Int) (x : Int), (r.foldl (fun a b => if b > a then b else a) x) ∈ x :: r ∧ ∀ y ∈ x :: r, y ≤ r.foldl (fun a b => if b > a then b else a) x
  | [], x => ⟨List.mem_cons_self, fun y hy => by rcases List.mem_cons.mp hy with rfl | h; exact Int.le_refl _; cases h⟩
  | z :: r, x => by
    obtain ⟨h1, h2⟩ := fold_max r (if z > x then z else x)
    rw [List.foldl_cons]
    refine ⟨?_, fun y hy => ?_⟩
    · rcases List.mem_cons.mp h1 with h | h
      · rw [h]; split
        · exact List.mem_cons_of_mem _ List.mem_cons_self
        · exact List.mem_cons_self
      · exact List.mem_cons_of_mem _ (List.mem_cons_of_mem _ h)
    · have h3 := h2 (if z > x then z else x) List.mem_cons_self
      have h4 : x ≤ (if z > x then z else x) ∧ z ≤ (if z > x then z else x) := by split <;> omega
      rcases List.mem_cons.mp hy with rfl | hy
      · exact Int.le_trans h4.1 h3
      · rcases List.mem_cons.mp hy with rfl | hy
        · exact Int.le_trans h4.2 h3
        · exact h2 y (List.mem_cons_of_mem _ hy)
theorem fold_min : ∀ (r : List Int) (x : Int), (r.foldl (fun a b => if b < a then b else a) x) ∈ x :: r ∧ ∀ y ∈ x :: r, r.foldl (fun a b => if b < a then b else a) x ≤ y
  | [], x => ⟨List.mem_cons_self, fun y hy => by rcases List.mem_cons.mp hy with rfl | h; exact Int.le_refl _; cases h⟩
  | z :: r, x => by
    obtain ⟨h1, h2⟩ := fold_min r (if z < x then z else x)
    rw [List.foldl_cons]
    refine ⟨?_, fun y hy => ?_⟩
    · rcases List.mem_cons.mp h1 with h | h
      · rw [h]; split
        · exact List.mem_cons_of_mem _ List.mem_cons_self
        · exact List.mem_cons_self
      · exact List.mem_cons_of_mem _ (List.mem_cons_of_mem _ h)
    · have h3 := h2 (if z < x then z else x) List.mem_cons_self
      have h4 : (if z < x then z else x) ≤ x ∧ (if z < x then z else x) ≤ z := by split <;> omega
      rcases List.mem_cons.mp hy with rfl | hy
      · exact Int.le_trans h3 h4.1
      · rcases List.mem_cons.mp hy with rfl | hy
        · exact Int.le_trans h3 h4.2
        · exact h2 y (List.mem_cons_of_mem _ hy)
theorem maxL_is {ns : List Int} {m k : Int} (e : maxL ns = some k) (h1 : m ∈ ns) (h2 : ∀ y ∈ ns, y ≤ m) : m = k := by
  cases ns with
  | nil => cases e
  | cons x r =>
    cases e
    obtain ⟨h3, h4⟩ := fold_max r x
    have := h2 _ h3
    have := h4 _ h1
    omega
theorem minL_is {ns : List Int} {m k : Int} (e : minL ns = some k) (h1 : m ∈ ns) (h2 : ∀ y ∈ ns, m ≤ y) : m = k := by
  cases ns with
  | nil => cases e
  | cons x r =>
    cases e
    obtain ⟨h3, h4⟩ := fold_min r x
    have := h2 _ h3
    have := h4 _ h1
    omega
theorem maxL_pos {ns : List Int} {k : Int} (e : maxL ns = some k) : 0 < ns.length := by cases ns <;> simp_all [maxL]
theorem minL_pos {ns : List Int} {k : Int} (e : minL ns = some k) : 0 < ns.length := by cases ns <;> simp_all [minL]
/-- the items of a list or tuple -/
theorem rep_items {v : V} {d : D} {xs : List D} (r : Rep K S H v d) (e : itemsOf d = some xs) : ∃ a vs, v = .ref a ∧ (SqL K H a vs ∨ SqT K H a vs) ∧ Reps K S H vs xs := by
  cases d <;> simp only [itemsOf, reduceCtorEq] at e <;> cases e
  · cases r with
    | lst l q => exact ⟨_, _, rfl, .inl l.sq, q⟩
  · cases r with
    | tup l q => exact ⟨_, _, rfl, .inr l.sq, q⟩
end
section
variable {X : Cx}
theorem call_max3 (hc : X.calm = true) : CallR X (.builtin "max") (fun xs H Q => ∃ i j k, xs = [.int i, .int j, .int k] ∧ Q (.int (if k > (if j > i then j else i) then k else (if j > i then j else i))) H) := by
  intro pins s σ H xs us Q I rs h
  obtain ⟨i, j, k, rfl, q⟩ := h
  cases rs with
  | cons r1 rs =>
    obtain ⟨t2, t3, e⟩ := Vals.int2 rs
    subst e
    obtain ⟨t1, rfl⟩ := r1
    refine max_three_ints (I.ok.hd hc) fun h' tk hk => ?_
    by_cases h1 : j > i
    · rw [if_pos h1] at q ⊢
      by_cases h2 : k > j
      · rw [if_pos h2] at q ⊢; exact ⟨.int k, H, I.kept hk, ⟨_, rfl⟩, q⟩
      · rw [if_neg h2] at q ⊢; exact ⟨.int j, H, I.kept hk, ⟨_, rfl⟩, q⟩
    · rw [if_neg h1] at q ⊢
      by_cases h2 : k > i
      · rw [if_pos h2] at q ⊢; exact ⟨.int k, H, I.kept hk, ⟨_, rfl⟩, q⟩
      · rw [if_neg h2] at q ⊢; exact ⟨.int i, H, I.kept hk, ⟨_, rfl⟩, q⟩
theorem Bs.rule (hc : X.calm = true) : ∀ f : Bs, CallR X f.v (rSn X.K f.f) := by
  intro f pins s σ H xs us Q I rs h
  obtain ⟨ds, d, v, r, e, ev, q⟩ := h
  have hh := I.ok.hd hc
  have agg : ∀ {d1 : D} {g : List Int → Option D}, ds = [d1] → ((itemsOf d1).bind fun xs => (intsOf xs).bind g) = some d → ∃ a ns, xs = [V.ref a] ∧ (SqL X.K H a (ns.map V.int) ∨ SqT X.K H a (ns.map V.int)) ∧ g ns = some d := by
    intro d1 g ed e0
    subst ed
    obtain ⟨v1, rfl, r1⟩ := Reps.one r
    cases q1 : itemsOf d1 with
    | none => rw [q1] at e0; cases e0
    | some ys =>
      rw [q1] at e0
      cases q2 : intsOf ys with
      | none => simp [q2] at e0
      | some ns =>
        simp [q2] at e0
        obtain ⟨a, vs, rfl, hs, rr⟩ := rep_items r1 q1
        rw [ints_of q2] at rr
        rw [rr.ints] at hs
        exact ⟨a, ns, rfl, hs, e0⟩
  cases f with
  | len =>
    unfold Bs.f at e
    split at e <;> first | contradiction | skip
    · cases e; cases ev
      obtain ⟨v1, rfl, r1⟩ := Reps.one r
      cases r1 with
      | lst l rr => exact call_len_seq pins s σ H _ us Q I rs ⟨_, _, rfl, .inl l.sq, by rw [rr.length]; exact q⟩
    · cases e; cases ev
      obtain ⟨v1, rfl, r1⟩ := Reps.one r
      cases r1 with
      | tup l rr => exact call_len_seq pins s σ H _ us Q I rs ⟨_, _, rfl, .inr l.sq, by rw [rr.length]; exact q⟩
    · split at e
      · cases e; cases ev
        obtain ⟨v1, rfl, r1⟩ := Reps.one r
        cases r1
        exact call_len_str pins s σ H _ us Q I rs ⟨_, rfl, by assumption, q⟩
      · cases e
  | sum =>
    unfold Bs.f at e
    split at e <;> first | contradiction | skip
    rename_i d1 _
    obtain ⟨a, ns, rfl, hs, e2⟩ := agg (g := fun ns => some (.int ns.sum)) rfl (by rw [← e]; cases itemsOf d1 <;> simp <;> (rename_i z; cases intsOf z <;> rfl))
    cases e2; cases ev
    rcases hs with hs | hs
    · exact cr_sum hc pins s σ H _ us Q I rs ⟨a, ns, rfl, hs, q⟩
    · obtain ⟨its, rv, hl, _⟩ := I.tuple hs
      rw [Vals.ref1 rs]
      exact sum_rawT hh (tupIs hl) rv.ints fun h' tk t' hk => ⟨.int _, H, I.kept hk, ⟨_, rfl⟩, q⟩
  | abs =>
    unfold Bs.f at e
    split at e <;> first | contradiction | skip
    cases e; cases ev
    obtain ⟨v1, rfl, r1⟩ := Reps.one r
    cases r1
    exact call_abs pins s σ H _ us Q I rs ⟨_, rfl, q⟩
  | int =>
    unfold Bs.f at e
    split at e <;> first | contradiction | skip
    · cases e; cases ev
      obtain ⟨v1, rfl, r1⟩ := Reps.one r
      cases r1
      exact call_int1 pins s σ H _ us Q I rs (.inl ⟨_, rfl, q⟩)
    · cases e; cases ev
      obtain ⟨v1, rfl, r1⟩ := Reps.one r
      cases r1
      exact call_int1 pins s σ H _ us Q I rs (.inr ⟨_, rfl, q⟩)
  | max =>
    unfold Bs.f at e
    split at e <;> first | contradiction | skip
    · cases e; cases ev
      obtain ⟨v1, v2, rfl, r1, r2⟩ := Reps.two r
      cases r1; cases r2
      exact call_max2 hc pins s σ H _ us Q I rs ⟨_, _, rfl, q⟩
    · cases e; cases ev
      obtain ⟨v1, v2, v3, rfl, r1, r2, r3⟩ := Reps.three r
      cases r1; cases r2; cases r3
      exact call_max3 hc pins s σ H _ us Q I rs ⟨_, _, _, rfl, q⟩
    · obtain ⟨a, ns, rfl, hs, e2⟩ := agg rfl e
      cases q3 : maxL ns with
      | none => simp [q3] at e2
      | some k =>
        simp [q3] at e2
        subst e2; cases ev
        rcases hs with hs | hs
        · exact cr_max hc pins s σ H _ us Q I rs ⟨a, ns, rfl, hs, maxL_pos q3, fun m h1 h2 => by rw [maxL_is q3 h1 h2]; exact q⟩
        · obtain ⟨its, rv, hl, _⟩ := I.tuple hs
          rw [Vals.ref1 rs]
          exact max_rawT hh (tupIs hl) rv.ints (maxL_pos q3) fun h' tk m t' hk h1 h2 => ⟨.int _, H, I.kept hk, ⟨_, rfl⟩, by rw [maxL_is q3 h1 h2]; exact q⟩
  | min =>
    unfold Bs.f at e
    split at e <;> first | contradiction | skip
    · cases e; cases ev
      obtain ⟨v1, v2, rfl, r1, r2⟩ := Reps.two r
      cases r1; cases r2
      exact call_min2 hc pins s σ H _ us Q I rs ⟨_, _, rfl, q⟩
    · obtain ⟨a, ns, rfl, hs, e2⟩ := agg rfl e
      cases q3 : minL ns with
      | none => simp [q3] at e2
      | some k =>
        simp [q3] at e2
        subst e2; cases ev
        rcases hs with hs | hs
        · exact cr_min hc pins s σ H _ us Q I rs ⟨a, ns, rfl, hs, minL_pos q3, fun m h1 h2 => by rw [minL_is q3 h1 h2]; exact q⟩
        · obtain ⟨its, rv, hl, _⟩ := I.tuple hs
          rw [Vals.ref1 rs]
          exact min_rawT hh (tupIs hl) rv.ints (minL_pos q3) fun h' tk m t' hk h1 h2 => ⟨.int _, H, I.kept hk, ⟨_, rfl⟩, by rw [minL_is q3 h1 h2]; exact q⟩
  | all =>
    unfold Bs.f at e
    split at e <;> first | contradiction | skip
    rename_i ys _
    cases q2 : boolsOf ys with
    | none => rw [q2] at e; cases e
    | some bs =>
      rw [q2] at e
      cases e; cases ev
      obtain ⟨v1, rfl, r1⟩ := Reps.one r
      rw [bools_of q2] at r1
      cases r1 with
      | lst l rr =>
        have hs := l.sq
        rw [rr.bools] at hs
        exact cr_all hc pins s σ H _ us Q I rs ⟨_, bs, rfl, hs, q⟩
  | any =>
    unfold Bs.f at e
    split at e <;> first | contradiction | skip
    rename_i ys _
    cases q2 : boolsOf ys with
    | none => rw [q2] at e; cases e
    | some bs =>
      rw [q2] at e
      cases e; cases ev
      obtain ⟨v1, rfl, r1⟩ := Reps.one r
      rw [bools_of q2] at r1
      cases r1 with
      | lst l rr =>
        have hs := l.sq
        rw [rr.bools] at hs
        exact cr_any hc pins s σ H _ us Q I rs ⟨_, bs, rfl, hs, q⟩
theorem Bn.rule (hc : X.calm = true) (hu : X.A.units + 64 < cLine) : ∀ f : Bn, CallR X f.v (rDn X.K f.f) := by
  intro f pins s σ H xs us Q I rs h
  obtain ⟨S, ds, d, r, e, q⟩ := h
  cases f with
  | list =>
    unfold Bn.f at e
    split at e <;> first | contradiction | skip
    · cases e
      obtain ⟨v1, rfl, r1⟩ := Reps.one r
      cases r1 with
      | lst l rr => exact call_list_of pins s σ H _ us Q I rs ⟨_, _, rfl, .inl l.sq, fun p hp => q _ _ _ (Al.one hp) (rep_lst hp rr)⟩
    · cases e
      obtain ⟨v1, rfl, r1⟩ := Reps.one r
      cases r1 with
      | tup l rr => exact call_list_of pins s σ H _ us Q I rs ⟨_, _, rfl, .inr l.sq, fun p hp => q _ _ _ (Al.one hp) (rep_lst hp rr)⟩
  | tuple =>
    unfold Bn.f at e
    split at e <;> first | contradiction | skip
    · cases e
      obtain ⟨v1, rfl, r1⟩ := Reps.one r
      cases r1 with
      | lst l rr => exact call_tuple_of pins s σ H _ us Q I rs ⟨_, _, rfl, .inl ⟨l.sq, fun p hp => q _ _ _ (Al.one hp) (rep_tup hp rr)⟩⟩
    · cases e
      obtain ⟨v1, rfl, r1⟩ := Reps.one r
      cases r1 with
      | tup l rr => exact call_tuple_of pins s σ H _ us Q I rs ⟨_, _, rfl, .inr ⟨l.sq, q.here (.tup l rr)⟩⟩
  | divmod =>
    unfold Bn.f at e
    split at e <;> first | contradiction | skip
    split at e
    · cases e
      obtain ⟨v1, v2, rfl, r1, r2⟩ := Reps.two r
      cases r1; cases r2
      exact call_divmod pins s σ H _ us Q I rs ⟨_, _, rfl, by assumption, fun p hp => q _ _ _ (Al.one hp) (rep_tup hp (.cons (.int _) (.cons (.int _) .nil)))⟩
    · cases e
  | min =>
    have e : minF ds = some d := e
    unfold minF at e
    split at e <;> first | contradiction | skip
    split at e
    · rename_i hm
      cases e
      obtain ⟨v1, rfl, r1⟩ := Reps.one r
      cases r1 with
      | lst l rr =>
        cases rs with
        | cons ru rt =>
          cases rt
          cases ru
          exact call_minT hc hu I l.sq rr hm.1 hm.2 fun v rv => q.here rv
    · cases e
end
end Pv

set_option Elab.async false
set_option linter.all false
set_option maxRecDepth 100000
set_option maxHeartbeats 4000000
/-! items, slices, displays, built-in calls, pops, tests -/
namespace Pv
open PySem L2

def notStar : Expr → Bool
  | .Starred _ _ => false
  | _ => true
def notSlice : Expr → Bool
  | .Slice _ _ _ _ => false
  | _ => true
theorem starEach_cons {e : Expr} {es : List Expr} {env : PySem.Env} (h : notStar e = true) : starEach (e :: es) env = (false, eval e env) :: starEach es env := by
  cases e <;> first | rfl | cases h
theorem starEach_none {env : PySem.Env} {pos : Pos} : ∀ {es : List Expr}, es.all notStar = true → (backTo pos (starEach es env)).any (·.1) = false
  | [], _ => rfl
  | e :: es, h => by
    rw [List.all_cons, Bool.and_eq_true] at h
    rw [starEach_cons h.1]
    have ih := starEach_none (env := env) (pos := pos) h.2
    unfold backTo at ih ⊢
    rw [List.map_cons, List.any_cons, ih]; rfl
theorem plainIx_of {b : Expr} (h : notSlice b = true) : PlainIx b := by
  intro o i
  cases b <;> first | rfl | cases h

section
variable {K : PySem.W.Frag} {S : Addr → Prop} {H : Hp} {G : Fp}
theorem Reps.atI {vs : List V} {ds : List D} {i : Int} {d : D} (r : Reps K S H vs ds) (e : L2.atI ds i = some d) : ∃ v, L2.atI vs i = some v ∧ Rep K S H v d := by
  unfold L2.atI at e ⊢
  rw [r.length]
  cases q : ixN ds.length i with
  | none => rw [q] at e; cases e
  | some j =>
    rw [q] at e
    obtain ⟨v, h1, h2⟩ := r.get e
    exact ⟨v, h1, h2⟩
theorem RepOs.get : ∀ {ts : List OT} {vs : List V} {G : Fp} {j : Nat} {t : OT}, RepOs K S H vs ts G → ts[j]? = some t → ∃ v G1, vs[j]? = some v ∧ RepO K S H v t G1
  | [], _, _, _, _, _, e => by simp at e
  | t :: ts, [], _, _, _, h, _ => by unfold RepOs at h; exact h.elim
  | t :: ts, v :: vs, G, 0, u, h, e => by
    unfold RepOs at h
    obtain ⟨G1, G2, h1, h2, h3, h4⟩ := h
    simp at e
    subst e
    exact ⟨v, G1, rfl, h3⟩
  | t :: ts, v :: vs, G, j + 1, u, h, e => by
    unfold RepOs at h
    obtain ⟨G1, G2, h1, h2, h3, h4⟩ := h
    obtain ⟨w, G3, h5, h6⟩ := RepOs.get (j := j) h4 (by simpa using e)
    exact ⟨w, G3, by simpa using h5, h6⟩
theorem RepOs.atI {vs : List V} {ts : List OT} {i : Int} {t : OT} (r : RepOs K S H vs ts G) (e : L2.atI ts i = some t) : ∃ v G1, L2.atI vs i = some v ∧ RepO K S H v t G1 := by
  unfold L2.atI at e ⊢
  rw [r.length]
  cases q : ixN ts.length i with
  | none => rw [q] at e; cases e
  | some j =>
    rw [q] at e
    exact r.get e
theorem ix_rep {v : V} {d e : D} {i : Int} {Q : VK} (r : Rep K S H v d) (h : ixD d (.int i) = some e) (q : ∀ u, Rep K S H u e → Q u H) : rIx K v (.int i) H Q := by
  cases d <;> simp only [ixD, reduceCtorEq] at h
  case list xs =>
    cases r with
    | lst l rr =>
      obtain ⟨u, h1, h2⟩ := rr.atI h
      exact .inl ⟨_, _, i, u, rfl, rfl, l.sq, h1, q u h2⟩
  case tuple xs =>
    cases r with
    | tup l rr =>
      obtain ⟨u, h1, h2⟩ := rr.atI h
      exact .inr (.inl ⟨_, _, i, u, rfl, rfl, l.sq, h1, q u h2⟩)
  case str z =>
    cases r
    split at h
    · rename_i hz
      cases q0 : L2.atI z.cps.toList i with
      | none => rw [q0] at h; cases h
      | some c =>
        rw [q0] at h
        cases h
        exact .inr (.inr ⟨z, i, c, rfl, rfl, hz, q0, q _ (.str _)⟩)
    · cases h
end

section
variable {X : Cx} {cl : Cl} {e a b c n : Expr} {es : List Expr} {xa xb xc xn : Ex} {xs : Exs} {pos p : Pos}
theorem s_ix (ha : PE X a (rdV X.K (evE cl xa))) (hb : PE X b (rdV X.K (evE cl xb))) (hs : notSlice b = true) : PE X (.Subscript a b pos) (rdV X.K (evE cl (.ix xa xb))) := by
  refine (pe_ix ix_seq ha hb (plainIx_of hs)).weak fun σ H Q h => ?_
  obtain ⟨S, fp, ρ, av, ρ', r, e, q⟩ := h
  unfold evE at e
  obtain ⟨x, ρ1, e1, e⟩ := bnd_eq e
  obtain ⟨y, ρ2, e2, e⟩ := bnd_eq e
  obtain ⟨e, rfl⟩ := giv_eq e
  refine ⟨S, fp, ρ, x, ρ1, r, e1, fun S1 fp1 vx H1 A1 o1 => ⟨S1, fp1, ρ1, y, _, A1.rs, e2, fun S2 fp2 vy H2 A2 o2 => ?_⟩⟩
  cases hy : y.st with
  | none => rw [hy] at e; cases e
  | some di =>
    rw [hy] at e
    cases hf : x.ix ρ' di with
    | none => simp [hf] at e
    | some d =>
      simp [hf] at e
      subst e
      have ri := o2.strong hy
      have o1' := o1.mono A1.rs A2.fr
      have fin : ∀ u, Rep X.K S2 H2 u d → Q u H2 := fun u ru => q _ _ u H2 (A1.trans A2) ru
      have isint : ∃ i, di = .int i := by
        unfold AV.ix at hf
        cases x with
        | dat d0 => cases d0 <;> cases di <;> simp_all [ixD]
        | pk j =>
          simp only at hf
          split at hf
          · rename_i d0 _; cases d0 <;> cases di <;> simp_all [ixD]
          · cases di <;> simp_all
          · cases hf
      obtain ⟨i, rfl⟩ := isint
      cases ri
      cases x with
      | dat d0 => exact ix_rep o1' hf fin
      | pk j =>
        have hj : σ[j]? = some (some vx) := o1'
        unfold AV.ix at hf
        simp only at hf
        split at hf
        · rename_i b0 d0 q0
          obtain ⟨u, h1, h2⟩ := A2.rs.sh q0
          rw [hj] at h1; cases h1
          exact ix_rep h2 hf fin
        · rename_i b0 ts q0
          obtain ⟨u, h1, h2⟩ := A2.rs.val q0
          rw [hj] at h1; cases h1
          split at hf
          · rename_i d' q1
            cases hf
            unfold RepO at h2
            obtain ⟨l, vs, G', rfl, h3, _, _, h4⟩ := h2
            obtain ⟨w, G1, h5, h6⟩ := h4.atI q1
            unfold RepO at h6
            exact .inl ⟨l, vs, i, w, rfl, rfl, .inl (.inl h3), h5, fin w h6.2⟩
          · cases hf
        · cases hf
theorem s_nil : PA X [] (rdVs X.K (evEs cl .nil)) := by
  refine pa_nil.weak fun σ H Q h => ?_
  obtain ⟨S, fp, ρ, av, ρ', r, e, q⟩ := h
  unfold evEs at e
  cases e
  exact q _ _ _ H (Aft.refl r) .nil
theorem s_cons (ha : PE X a (rdV X.K (evE cl xa))) (hr : PA X es (rdVs X.K (evEs cl xs))) (hs : notStar a = true) : PA X (a :: es) (rdVs X.K (evEs cl (.cons xa xs))) := by
  refine (pa_cons ha hr (starEach_cons hs)).weak fun σ H Q h => ?_
  obtain ⟨S, fp, ρ, av, ρ', r, e, q⟩ := h
  unfold evEs at e
  obtain ⟨x, ρ1, e1, e⟩ := bnd_eq e
  obtain ⟨ys, ρ2, e2, e⟩ := bnd_eq e
  cases e
  exact ⟨S, fp, ρ, x, ρ1, r, e1, fun S1 fp1 vx H1 A1 o1 => ⟨S1, fp1, ρ1, ys, _, A1.rs, e2, fun S2 fp2 vy H2 A2 o2 => q _ _ _ H2 (A1.trans A2) (.cons (o1.mono A1.rs A2.fr) o2)⟩⟩
theorem lst_of {as : List AV} {ds : List D} (h : lstD as = some ds) : sts as = some ds ∧ ds.length ≤ sizeLine := by
  unfold lstD at h
  cases q : sts as with
  | none => rw [q] at h; cases h
  | some es =>
    rw [q] at h
    simp only [Option.bind_some] at h
    split at h
    · cases h; exact ⟨rfl, by assumption⟩
    · cases h
theorem s_lst (h : PA X es (rdVs X.K (evEs cl xs))) : PE X (.List es pos) (rdV X.K (evE cl (.lst xs))) := by
  refine (pe_lst h).weak fun σ H Q h => ?_
  obtain ⟨S, fp, ρ, av, ρ', r, e, q⟩ := h
  unfold evE at e
  obtain ⟨ys, ρ1, e1, e⟩ := bnd_eq e
  obtain ⟨e, rfl⟩ := giv_eq e
  cases hl : lstD ys with
  | none => rw [hl] at e; cases e
  | some ds =>
    rw [hl] at e
    cases e
    obtain ⟨h1, h2⟩ := lst_of hl
    refine ⟨S, fp, ρ, ys, _, r, e1, fun S1 fp1 vs H1 A1 o1 => ?_⟩
    have rr := o1.strong h1
    exact ⟨by rw [rr.length]; exact h2, fun p hp => q _ _ _ _ (A1.al (Al.one hp)) (rep_lst hp rr)⟩
theorem s_tup {k} (h : PA X es (rdVs X.K (evEs cl xs))) : PE X (.Tuple es k pos) (rdV X.K (evE cl (.tup xs))) := by
  refine (pe_tup h).weak fun σ H Q h => ?_
  obtain ⟨S, fp, ρ, av, ρ', r, e, q⟩ := h
  unfold evE at e
  obtain ⟨ys, ρ1, e1, e⟩ := bnd_eq e
  obtain ⟨e, rfl⟩ := giv_eq e
  cases hl : sts ys with
  | none => rw [hl] at e; cases e
  | some ds =>
    rw [hl] at e
    simp only [Option.bind_some] at e
    split at e
    · cases e
      refine ⟨S, fp, ρ, ys, _, r, e1, fun S1 fp1 vs H1 A1 o1 => ?_⟩
      have rr := o1.strong hl
      exact ⟨by rw [rr.length]; assumption, fun p hp => q _ _ _ _ (A1.al (Al.one hp)) (rep_tup hp rr)⟩
    · cases e
theorem reps_replicate {K : PySem.W.Frag} {S : Addr → Prop} {H : Hp} {v : V} {d : D} (r : Rep K S H v d) : ∀ n, Reps K S H (List.replicate n [v]).flatten (List.replicate n d)
  | 0 => .nil
  | n + 1 => by
    rw [List.replicate_succ, List.replicate_succ, List.flatten_cons]
    exact .cons r (reps_replicate r n)
/-- what [a] * n gives, and the new list -/
theorem rep_core {σ : L2.St} {H : Hp} {Q : VK} {S : Addr → Prop} {fp : Nat → Fp} {ρ ρ1 ρ2 : Env} {x y : AV} {ds : List D} (r : RS X.K S σ H ρ fp) (e1 : evE cl xa ρ = some (x, ρ1)) (e2 : evE cl xn ρ1 = some (y, ρ2)) (hd : repD x y = some ds)
    (q : ∀ S' fp' H' vs p, Aft X.K σ S fp H ρ S' fp' H' ρ2 → Reps X.K S' H' vs ds → H' p = none → Q (.ref p) (upd H' p (.lst vs))) :
    tOp rRep (tLst (tCons (rdV X.K (evE cl xa)) tNil)) (rdV X.K (evE cl xn)) σ H Q := by
  cases x with
  | pk j => simp [repD] at hd
  | dat d0 =>
    cases y with
    | pk j => simp [repD] at hd
    | dat d1 =>
      cases d1 <;> simp [repD] at hd
      rename_i k
      obtain ⟨⟨hk1, hk2, hk3⟩, rfl⟩ := hd
      refine ⟨S, fp, ρ, _, ρ1, r, e1, fun S1 fp1 vx H1 A1 o1 => ⟨by show 1 ≤ sizeLine; decide, fun p hp => ?_⟩⟩
      have r1 : RS X.K S1 σ (upd H1 p (.lst [vx])) ρ1 fp1 := A1.rs.grow (upd_grow hp) (fun _ s => s) fun a s => .inl s
      have f1 : Fr true S1 fp1 H1 S1 fp1 (upd H1 p (.lst [vx])) := Fr.grow (upd_grow hp) (fun _ s => s) fun a s => .inl s
      refine ⟨S1, fp1, ρ1, _, ρ2, r1, e2, fun S2 fp2 vy H2 A2 o2 => ?_⟩
      have o2 : Rep X.K S2 H2 vy (.int k) := o2
      cases o2
      have hH2 : H2 p = some (.lst [vx]) := A2.fr.keep p _ upd_same fun _ i hi => by
        obtain ⟨o, eo⟩ := A1.rs.flive i p hi
        rw [hp] at eo; cases eo
      have ov : Rep X.K S2 H2 vx d0 := Rep.mono ((A1.rs.ext f1).trans (r1.ext A2.fr)) o1
      refine ⟨p, k, [vx], rfl, rfl, hH2, hk1, hk2, by simpa using hk3, fun p2 hp2 => ?_⟩
      exact q S2 fp2 H2 _ p2 (A1.trans (Aft.trans ⟨f1, Bk.refl, r1⟩ A2)) (reps_replicate ov _) hp2
theorem s_rep {lp} (ha : PE X a (rdV X.K (evE cl xa))) (hn : PE X n (rdV X.K (evE cl xn))) (hs : notStar a = true) : PE X (.BinOp (.List [a] lp) .Mult n pos) (rdV X.K (evE cl (.rep xa xn))) := by
  refine (pe_op op_rep (pe_lst (pa_cons ha pa_nil (starEach_cons hs))) hn).weak fun σ H Q h => ?_
  obtain ⟨S, fp, ρ, av, ρ', r, e, q⟩ := h
  unfold evE at e
  obtain ⟨x, ρ1, e1, e⟩ := bnd_eq e
  obtain ⟨y, ρ2, e2, e⟩ := bnd_eq e
  obtain ⟨e, rfl⟩ := giv_eq e
  cases hd : repD x y with
  | none => rw [hd] at e; cases e
  | some ds =>
    rw [hd] at e
    cases e
    exact rep_core r e1 e2 hd fun S' fp' H' vs p A rr hp => q _ _ _ _ (A.al (Al.one hp)) (rep_lst hp rr)

/-! slices -/
theorem s_no : PO X none (rdO X.K (evO cl .no)) := by
  refine po_none.weak fun σ H Q h => ?_
  obtain ⟨S, fp, ρ, av, ρ', r, e, q⟩ := h
  unfold evO at e
  cases e
  exact q _ _ H (Aft.refl r)
theorem s_yes (ha : PE X a (rdV X.K (evE cl xa))) : PO X (some a) (rdO X.K (evO cl (.yes xa))) := by
  refine (po_some ha).weak fun σ H Q h => ?_
  obtain ⟨S, fp, ρ, av, ρ', r, e, q⟩ := h
  unfold evO at e
  obtain ⟨x, ρ1, e1, e⟩ := bnd_eq e
  split at e
  · cases e
    refine ⟨S, fp, ρ, _, _, r, e1, fun S1 fp1 vx H1 A1 o1 => ?_⟩
    have o1 : Rep X.K S1 H1 vx (.int _) := o1
    cases o1
    exact ⟨_, rfl, q _ _ H1 A1⟩
  · cases e
def rSlD (K : PySem.W.Frag) : V → Option Int → Option Int → Hp → VK → Prop := fun x lo hi H Q => ∃ S d e, Rep K S H x d ∧ slD d lo hi = some e ∧ Give K S H e Q
theorem Reps.cut {K : PySem.W.Frag} {S : Addr → Prop} {H : Hp} {vs : List V} {ds : List D} (r : Reps K S H vs ds) (lo hi : Option Int) : Reps K S H (cutV vs lo hi) (cutD ds lo hi) := by
  unfold cutV cutD
  rw [r.length]
  exact (r.drop _).take _
theorem cutD_all {ds : List D} {lo hi : Option Int} (h : HT.sIx ds.length 0 lo = 0 ∧ HT.sIx ds.length ds.length hi = ds.length) : cutD ds lo hi = ds := by
  unfold cutD
  rw [h.1, h.2]
  simp
theorem sl_D : SlR X (rSlD X.K) := by
  intro pins s σ H x v vl vu lo hi sl Q I rx hs pl pu h
  obtain ⟨S, d, e, r, he, q⟩ := h
  cases d <;> simp only [slD, reduceCtorEq] at he
  case list xs =>
    cases he
    cases r with
    | lst l rr => exact sl_list pins s σ H _ v vl vu lo hi sl Q I rx hs pl pu ⟨_, _, rfl, l.sq, fun p hp => q _ _ _ (Al.one hp) (rep_lst hp (rr.cut lo hi))⟩
  case tuple xs =>
    cases he
    cases r with
    | tup l rr =>
      refine sl_tupA pins s σ H _ v vl vu lo hi sl Q I rx hs pl pu ⟨_, _, rfl, l.sq, fun hw => ?_, fun _ p hp => q _ _ _ (Al.one hp) (rep_tup hp (rr.cut lo hi))⟩
      rw [rr.length] at hw
      rw [cutD_all hw] at q
      exact q.here (.tup l rr)
  case str z =>
    cases r
    split at he
    · cases he
      exact sl_str pins s σ H _ v vl vu lo hi sl Q I rx hs pl pu ⟨z, rfl, by assumption, q.here (.str _)⟩
    · cases he
theorem s_sl {lo hi : Option Expr} {xl xh : Eo} {p2} (ha : PE X a (rdV X.K (evE cl xa))) (hl : PO X lo (rdO X.K (evO cl xl))) (hh : PO X hi (rdO X.K (evO cl xh))) : PE X (.Subscript a (.Slice lo hi none p2) pos) (rdV X.K (evE cl (.sl xa xl xh))) := by
  refine (pe_slice sl_D ha hl hh).weak fun σ H Q h => ?_
  obtain ⟨S, fp, ρ, av, ρ', r, e, q⟩ := h
  unfold evE at e
  obtain ⟨x, ρ1, e1, e⟩ := bnd_eq e
  obtain ⟨l, ρ2, e2, e⟩ := bnd_eq e
  obtain ⟨u, ρ3, e3, e⟩ := bnd_eq e
  obtain ⟨e, rfl⟩ := giv_eq e
  cases hx : x.st with
  | none => rw [hx] at e; cases e
  | some d =>
    rw [hx] at e
    cases hd : slD d l u with
    | none => simp [hd] at e
    | some d2 =>
      simp [hd] at e
      subst e
      exact ⟨S, fp, ρ, x, ρ1, r, e1, fun S1 fp1 vx H1 A1 o1 => ⟨S1, fp1, ρ1, l, ρ2, A1.rs, e2, fun S2 fp2 H2 A2 => ⟨S2, fp2, ρ2, u, _, A2.rs, e3, fun S3 fp3 H3 A3 =>
        ⟨S3, d, d2, (o1.strong hx).mono ((A1.rs.ext A2.fr).trans (A2.rs.ext A3.fr)), hd, fun S4 w H4 al rw => q _ _ w H4 (((A1.trans A2).trans A3).al al) rw⟩⟩⟩⟩
/-! built-in calls -/
theorem s_bs {f : Bs} (hc : X.calm = true) (ha : PA X (a :: es) (rdVs X.K (evEs cl xs))) (hg : Gl X f.name) (hm : X.mg f.name = none) (hs : (a :: es).all notStar = true) :
    PE X (.Call (.Name f.name p) (a :: es) [] pos) (rdV X.K (evE cl (.bs f xs))) := by
  rw [List.all_cons, Bool.and_eq_true] at hs
  have key : PE X (.Call (.Name f.name p) (a :: es) [] pos) (tCB (rSn X.K f.f) (rdVs X.K (evEs cl xs))) := by
    have hr := Bs.rule hc f
    cases f
    case int => exact pe_callTy (T := "int") hr hg hm (by decide +kernel) ha (by decide +kernel) (by decide +kernel) (starEach_cons hs.1) (starEach_none hs.2)
    all_goals exact pe_callB hr hg hm (by decide +kernel) ha (by decide +kernel) (by decide +kernel) (starEach_cons hs.1) (starEach_none hs.2)
  refine key.weak fun σ H Q h => ?_
  obtain ⟨S, fp, ρ, av, ρ', r, e, q⟩ := h
  unfold evE at e
  obtain ⟨ys, ρ1, e1, e⟩ := bnd_eq e
  obtain ⟨e, rfl⟩ := giv_eq e
  refine ⟨S, fp, ρ, ys, _, r, e1, fun S1 fp1 vs H1 A1 o1 => ?_⟩
  cases hw : wks ρ' ys with
  | none => rw [hw] at e; cases e
  | some ds =>
    rw [hw] at e
    cases hf : f.f ds with
    | none => simp [hf] at e
    | some d =>
      simp [hf] at e
      subst e
      have sc : ∃ v, sV d = some v := by
        cases f <;> unfold Bs.f at hf <;> split at hf <;> first
          | contradiction
          | (cases hf; exact ⟨_, rfl⟩)
          | (split at hf <;> first | (cases hf; exact ⟨_, rfl⟩) | cases hf)
          | (simp only [Option.bind_eq_some_iff, Option.map_eq_some_iff] at hf; obtain ⟨_, _, _, _, h⟩ := hf; first | (subst h; exact ⟨_, rfl⟩) | (obtain ⟨_, h⟩ := h; subst h; exact ⟨_, rfl⟩))
          | (simp only [Option.bind_eq_some_iff, Option.map_eq_some_iff] at hf; obtain ⟨_, _, _, _, _, _, h⟩ := hf; subst h; exact ⟨_, rfl⟩)
          | (simp only [Option.map_eq_some_iff] at hf; obtain ⟨_, _, h⟩ := hf; subst h; exact ⟨_, rfl⟩)
      obtain ⟨v, hv⟩ := sc
      exact ⟨ds, d, v, o1.weak A1.rs hw, hf, hv, q _ _ v H1 A1 (sV_rep hv)⟩
theorem s_bn {f : Bn} (hc : X.calm = true) (hu : X.A.units + 64 < cLine) (ha : PA X (a :: es) (rdVs X.K (evEs cl xs))) (hg : Gl X f.name) (hm : X.mg f.name = none) (hs : (a :: es).all notStar = true) :
    PE X (.Call (.Name f.name p) (a :: es) [] pos) (rdV X.K (evE cl (.bn f xs))) := by
  rw [List.all_cons, Bool.and_eq_true] at hs
  have key : PE X (.Call (.Name f.name p) (a :: es) [] pos) (tCB (rDn X.K f.f) (rdVs X.K (evEs cl xs))) := by
    have hr := Bn.rule (X := X) hc hu f
    cases f
    case min => exact pe_callB hr hg hm (by decide +kernel) ha (by decide +kernel) (by decide +kernel) (starEach_cons hs.1) (starEach_none hs.2)
    case divmod => exact pe_callB hr hg hm (by decide +kernel) ha (by decide +kernel) (by decide +kernel) (starEach_cons hs.1) (starEach_none hs.2)
    case list => exact pe_callTy (T := "list") hr hg hm (by decide +kernel) ha (by decide +kernel) (by decide +kernel) (starEach_cons hs.1) (starEach_none hs.2)
    case tuple => exact pe_callTy (T := "tuple") hr hg hm (by decide +kernel) ha (by decide +kernel) (by decide +kernel) (starEach_cons hs.1) (starEach_none hs.2)
  refine key.weak fun σ H Q h => ?_
  obtain ⟨S, fp, ρ, av, ρ', r, e, q⟩ := h
  unfold evE at e
  obtain ⟨ys, ρ1, e1, e⟩ := bnd_eq e
  obtain ⟨e, rfl⟩ := giv_eq e
  refine ⟨S, fp, ρ, ys, _, r, e1, fun S1 fp1 vs H1 A1 o1 => ?_⟩
  cases hw : sts ys with
  | none => rw [hw] at e; cases e
  | some ds =>
    rw [hw] at e
    cases hf : f.f ds with
    | none => simp [hf] at e
    | some d =>
      simp [hf] at e
      subst e
      exact ⟨S1, ds, d, o1.strong hw, hf, fun S2 w H2 al rw => q _ _ w H2 (A1.al al) rw⟩
end
end Pv

set_option Elab.async false
set_option linter.all false
set_option maxRecDepth 100000
set_option maxHeartbeats 4000000
/-! lists of one's own, written -/
namespace Pv
open PySem L2

section
variable {K : PySem.W.Frag} {S : Addr → Prop} {H : Hp} {G : Fp} {v : V} {d : D}
theorem repOs_cons {vs : List V} {t : OT} {ts : List OT} {G1 G2 : Fp} (a : RepO K S H v t G1) (b : RepOs K S H vs ts G2) (dis : ∀ x, G1 x → G2 x → False) : RepOs K S H (v :: vs) (t :: ts) (fun x => G1 x ∨ G2 x) := by
  unfold RepOs
  exact ⟨G1, G2, dis, fun _ => Iff.rfl, a, b⟩
theorem repO_sh (r : Rep K S H v d) : RepO K S H v (.sh d) (fun _ => False) := by
  unfold RepO
  exact ⟨fun _ h => h, r⟩
theorem RepOs.snoc (r : Rep K S H v d) : ∀ {ts : List OT} {vs : List V} {G : Fp}, RepOs K S H vs ts G → RepOs K S H (vs ++ [v]) (ts ++ [.sh d]) G
  | [], [], G, h => by
    unfold RepOs at h
    exact (repOs_cons (repO_sh r) (by unfold RepOs; exact fun _ h => h) fun _ h _ => h).eqv fun x => by simpa using h x
  | t :: ts, w :: vs, G, h => by
    unfold RepOs at h
    obtain ⟨G1, G2, h1, h2, h3, h4⟩ := h
    exact (repOs_cons h3 (RepOs.snoc r h4) h1).eqv fun x => (h2 x).symm
  | [], _ :: _, _, h => by unfold RepOs at h; exact h.elim
  | _ :: _, [], _, h => by unfold RepOs at h; exact h.elim
theorem RepOs.more {us : List V} {ds : List D} (r : Reps K S H us ds) : ∀ {ts : List OT} {vs : List V} {G : Fp}, RepOs K S H vs ts G → RepOs K S H (vs ++ us) (ts ++ ds.map .sh) G
  | [], [], G, h => by
    unfold RepOs at h
    exact (RepOs.of_sh r).eqv fun x => by simpa using h x
  | t :: ts, w :: vs, G, h => by
    unfold RepOs at h
    obtain ⟨G1, G2, h1, h2, h3, h4⟩ := h
    exact (repOs_cons h3 (RepOs.more r h4) h1).eqv fun x => (h2 x).symm
  | [], _ :: _, _, h => by unfold RepOs at h; exact h.elim
  | _ :: _, [], _, h => by unfold RepOs at h; exact h.elim
theorem RepOs.erase : ∀ {ts : List OT} {vs : List V} {G : Fp} (j : Nat), RepOs K S H vs ts G → ∃ G' : Fp, (∀ x, G' x → G x) ∧ RepOs K S H (vs.eraseIdx j) (ts.eraseIdx j) G'
  | [], [], G, _, h => ⟨G, fun _ h => h, h⟩
  | t :: ts, w :: vs, G, 0, h => by
    unfold RepOs at h
    obtain ⟨G1, G2, h1, h2, h3, h4⟩ := h
    exact ⟨G2, fun x h => (h2 x).mpr (.inr h), h4⟩
  | t :: ts, w :: vs, G, j + 1, h => by
    unfold RepOs at h
    obtain ⟨G1, G2, h1, h2, h3, h4⟩ := h
    obtain ⟨G', h5, h6⟩ := RepOs.erase j h4
    exact ⟨fun x => G1 x ∨ G' x, fun x h => (h2 x).mpr (h.imp id (h5 x)), repOs_cons h3 h6 fun x a b => h1 x a (h5 x b)⟩
  | [], _ :: _, _, _, h => by unfold RepOs at h; exact h.elim
  | _ :: _, [], _, _, h => by unfold RepOs at h; exact h.elim
theorem RepOs.put (r : Rep K S H v d) : ∀ {ts : List OT} {vs : List V} {G : Fp} (j : Nat), RepOs K S H vs ts G → ∃ G' : Fp, (∀ x, G' x → G x) ∧ RepOs K S H (vs.set j v) (ts.set j (.sh d)) G'
  | [], [], G, _, h => ⟨G, fun _ h => h, h⟩
  | t :: ts, w :: vs, G, 0, h => by
    unfold RepOs at h
    obtain ⟨G1, G2, h1, h2, h3, h4⟩ := h
    exact ⟨fun x => False ∨ G2 x, fun x h => (h2 x).mpr (.inr (h.resolve_left id)), repOs_cons (repO_sh r) h4 fun _ h _ => h⟩
  | t :: ts, w :: vs, G, j + 1, h => by
    unfold RepOs at h
    obtain ⟨G1, G2, h1, h2, h3, h4⟩ := h
    obtain ⟨G', h5, h6⟩ := RepOs.put r j h4
    exact ⟨fun x => G1 x ∨ G' x, fun x h => (h2 x).mpr (h.imp id (h5 x)), repOs_cons h3 h6 fun x a b => h1 x a (h5 x b)⟩
  | [], _ :: _, _, _, h => by unfold RepOs at h; exact h.elim
  | _ :: _, [], _, _, h => by unfold RepOs at h; exact h.elim
theorem RepOs.insert (r : Rep K S H v d) : ∀ {ts : List OT} {vs : List V} {G : Fp} (j : Nat), RepOs K S H vs ts G → RepOs K S H (vs.take j ++ [v] ++ vs.drop j) (ts.take j ++ [.sh d] ++ ts.drop j) G
  | ts, vs, G, 0, h => by
    simp only [List.take_zero, List.drop_zero, List.nil_append, List.singleton_append]
    exact (repOs_cons (repO_sh r) h fun _ h _ => h).eqv fun x => by simp
  | [], [], G, _ + 1, h => by
    simp only [List.take_nil, List.drop_nil, List.nil_append, List.append_nil]
    exact (repOs_cons (repO_sh r) h fun _ h _ => h).eqv fun x => by simp
  | t :: ts, w :: vs, G, j + 1, h => by
    unfold RepOs at h
    obtain ⟨G1, G2, h1, h2, h3, h4⟩ := h
    simp only [List.take_succ_cons, List.drop_succ_cons, List.cons_append]
    exact (repOs_cons h3 (by simpa using RepOs.insert r j h4) h1).eqv fun x => (h2 x).symm
  | [], _ :: _, _, _ + 1, h => by unfold RepOs at h; exact h.elim
  | _ :: _, [], _, _ + 1, h => by unfold RepOs at h; exact h.elim
theorem RepOs.dropLast {ts : List OT} {vs : List V} (h : RepOs K S H vs ts G) : ∃ G' : Fp, (∀ x, G' x → G x) ∧ RepOs K S H vs.dropLast ts.dropLast G' := by
  have e1 : ∀ {α : Type} (l : List α), l.dropLast = l.eraseIdx (l.length - 1) := fun l => by rw [List.eraseIdx_length_sub_one]
  rw [e1 vs, e1 ts, h.length]
  exact h.erase _
end

section
variable {K : PySem.W.Frag} {σ : L2.St} {S : Addr → Prop} {fp : Nat → Fp} {H : Hp} {ρ : Env}
/-- a slot's own list: where it stands, and what it is to write it -/
theorem RS.list (r : RS K S σ H ρ fp) {i : Nat} {b : Bool} {ts : List OT} (e : ρ[i]? = some (.val b (.lst ts))) :
    ∃ a vs G', σ[i]? = some (some (.ref a)) ∧ H a = some (.lst vs) ∧ RepOs K S H vs ts G' ∧
      ∀ vs' ts' (G2 : Fp), (∀ x, G2 x → G' x) → RepOs K S H vs' ts' G2 → Aft K σ S fp H ρ S (setF fp i fun x => x = a ∨ G2 x) (upd H a (.lst vs')) (ρ.set i (.val b (.lst ts'))) := by
  obtain ⟨v, h1, h2⟩ := r.val e
  unfold RepO at h2
  obtain ⟨a, vs, G', rfl, h3, h4, h5, h6⟩ := h2
  have ai : fp i a := (h5 a).mpr (.inl rfl)
  refine ⟨a, vs, G', h1, h3, h6, fun vs' ts' G2 sub rr => ?_⟩
  have kp : ∀ x o, H x = some o → ¬ fp i x → upd H a (.lst vs') x = some o := fun x o ex nx => by
    rw [upd_ne (fun z => nx (by rw [z]; exact ai))]; exact ex
  have lv : ∀ x o, H x = some o → ∃ o', upd H a (.lst vs') x = some o' := fun x o ex => by
    by_cases hx : x = a
    · subst hx; exact ⟨_, upd_same⟩
    · exact ⟨o, by rw [upd_ne hx]; exact ex⟩
  have ng : ¬ G2 a := fun g => h4 (sub a g)
  have rr' : RepOs K S (upd H a (.lst vs')) vs' ts' G2 := rr.mono ⟨fun x o s ex => by
    rw [upd_ne (fun z => r.out i a ai (by rw [← z]; exact s))]; exact ex, fun _ s => s⟩ fun x o g ex => by
    rw [upd_ne (fun z => ng (by rw [← z]; exact g))]; exact ex
  have rO : RepO K S (upd H a (.lst vs')) (.ref a) (.lst ts') (fun x => x = a ∨ G2 x) := by
    unfold RepO
    exact ⟨a, vs', G2, rfl, upd_same, ng, fun _ => Iff.rfl, rr'⟩
  have hG : ∀ x, (x = a ∨ G2 x) → fp i x := fun x h => h.elim (fun z => by rw [z]; exact ai) fun z => (h5 x).mpr (.inr (sub x z))
  exact ⟨Fr.write (w := true) Fr.refl kp lv fun x h => .inl (hG x h), Bk.set e, r.write e h1 kp lv (fun x h => .inl (hG x h)) rO⟩
end
section
variable {X : Cx} {cl : Cl} {e a b c n : Expr} {es : List Expr} {xa xb xc xn : Ex} {xs : Exs} {pos p apos cpos : Pos}
theorem hfew0 {e : Expr} {es : List Expr} {env : PySem.Env} (h : (e :: es).all notStar = true) (hl : (e :: es).length < 30) : ((backTo cpos (starEach (e :: es) env)).all (fun x => !x.1) && (backToKw cpos (keywordEach [] env)).all (fun x => x.1.isSome)
      && decide ((e :: es).length + ([] : List Keyword).length + (if ([] : List Keyword).isEmpty then 0 else 1) < 30)) = true := by
  have h1 := starEach_none (env := env) (pos := cpos) h
  have h2 : (backTo cpos (starEach (e :: es) env)).all (fun x => !x.1) = true := by
    rw [List.all_eq_true]
    intro x hx
    cases q : x.1 with
    | false => rfl
    | true =>
      have : (backTo cpos (starEach (e :: es) env)).any (·.1) = true := List.any_eq_true.mpr ⟨x, hx, q⟩
      rw [h1] at this; cases this
  rw [h2]
  have h3 : decide ((e :: es).length + ([] : List Keyword).length + (if ([] : List Keyword).isEmpty then 0 else 1) < 30) = true := decide_eq_true (by simpa using hl)
  rw [h3]
  rfl
/-- x.pop() -/
theorem s_pop {i : Nat} {x : Str} (hN : X.N[i]? = some x) (hv : Vis X.env.scope x) (hd : (x == ("__debug__" : Str)) = false) (hcd : (x == ("__classdict__" : Str)) = false) (hl : (apos.endLine == cpos.line) = true) :
    PE X (.Call (.Attribute (.Name x p) "pop" apos) [] [] cpos) (rdV X.K (evE cl (.pop i))) := by
  refine (pe_bm0 PySem.F.plainAttrs_list PySem.F.slot_list_pop PySem.F.type_list_pop mt_pop (pe_var hN hv hd hcd) rfl hl).weak fun σ H Q h => ?_
  obtain ⟨S, fp, ρ, av, ρ', r, e, q⟩ := h
  unfold evE at e
  split at e
  · rename_i b ts q0
    split at e
    · rename_i d q1
      cases e
      obtain ⟨a, vs, G', h1, h2, h3, h4⟩ := r.list q0
      have hlen := h3.length
      have q1' : ts[ts.length - 1]? = some (.sh d) := by rw [← List.getLast?_eq_getElem?]; exact q1
      obtain ⟨w, G1, h5, h6⟩ := h3.get q1'
      unfold RepO at h6
      obtain ⟨G2, h7, h8⟩ := h3.dropLast
      have A := h4 _ _ G2 h7 h8
      exact ⟨_, h1, .inl ⟨rfl, _, .inl (.inl h2)⟩, a, vs, w, rfl, rfl, h2, by rw [hlen]; exact h5, q _ _ w _ A (h6.2.mono (r.ext A.fr))⟩
    · cases e
  · cases e
theorem isLst_of {ρ : Env} {i : Nat} (h : isLst ρ i = true) : ∃ b ts, ρ[i]? = some (.val b (.lst ts)) := by
  unfold isLst at h
  split at h
  · exact ⟨_, _, by assumption⟩
  · cases h
/-- x.pop(e) -/
theorem s_popi {i : Nat} {x : Str} (hN : X.N[i]? = some x) (hv : Vis X.env.scope x) (hd : (x == ("__debug__" : Str)) = false) (hcd : (x == ("__classdict__" : Str)) = false) (ha : PE X a (rdV X.K (evE cl xa))) (hs : notStar a = true) (hl : (apos.endLine == cpos.line) = true) :
    PE X (.Call (.Attribute (.Name x p) "pop" apos) [a] [] cpos) (rdV X.K (evE cl (.popi i xa))) := by
  refine (pe_bm PySem.F.plainAttrs_list PySem.F.slot_list_pop PySem.F.type_list_pop mt_popAt (pe_var hN hv hd hcd) (pa_cons ha pa_nil (starEach_cons hs)) rfl (hfew0 (by simpa using hs) (by simp)) hl (starEach_cons hs) rfl).weak fun σ H Q h => ?_
  obtain ⟨S, fp, ρ, av, ρ', r, e, q⟩ := h
  unfold evE at e
  split at e
  · rename_i hlst
    obtain ⟨b0, ts0, q9⟩ := isLst_of hlst
    obtain ⟨a0, vs0, G0, g1, g2, _, _⟩ := r.list q9
    obtain ⟨k, ρ1, e1, e⟩ := bnd_eq e
    split at e
    · rename_i k0 b ts q0
      split at e
      · rename_i hk
        unfold rngOk at hk
        rw [Bool.and_eq_true, decide_eq_true_eq, decide_eq_true_eq] at hk
        split at e
        · rename_i j q2
          split at e
          · rename_i d q1
            cases e
            refine ⟨_, g1, .inl ⟨rfl, _, .inl (.inl g2)⟩, S, fp, ρ, _, ρ1, r, e1, fun S1 fp1 vx H1 A1 o1 => ?_⟩
            have o1 : Rep X.K S1 H1 vx (.int k0) := o1
            cases o1
            obtain ⟨l, vs, G', h1, h2, h3, h4⟩ := A1.rs.list q0
            rw [g1] at h1
            cases h1
            have hlen := h3.length
            obtain ⟨w, G1, h5, h6⟩ := h3.get q1
            unfold RepO at h6
            obtain ⟨G2, h7, h8⟩ := h3.erase j
            have A := h4 _ _ G2 h7 h8
            obtain ⟨z1, z2, z3, z4⟩ := ixN_seq q2
            exact ⟨a0, vs, k0, j, w, rfl, rfl, h2, by omega, by omega, by rw [hlen]; exact z1, h5, q _ _ w _ (A1.trans A) (h6.2.mono (A1.rs.ext A.fr))⟩
          · cases e
        · cases e
      · cases e
    · cases e
  · cases e
end
end Pv

set_option Elab.async false
set_option linter.all false
set_option maxRecDepth 100000
set_option maxHeartbeats 4000000
/-! tests, targets, statements -/
namespace Pv
open PySem L2

section
variable {X : Cx} {cl : Cl} {e a b c n : Expr} {es : List Expr} {xa xb xc xn : Ex} {xs : Exs} {pos p apos cpos : Pos}
/-! ### tests -/
theorem tw_and1 (h : PT X a (rdT X.K (evT cl xa))) : PW X (.BoolOp .And [a] pos) (rdT X.K (evT cl (.last xa))) := (pw_and1 h).weak fun σ H Q q => by
  obtain ⟨S, fp, ρ, k, ρ', r, e, q⟩ := q
  unfold evT at e
  exact ⟨S, fp, ρ, k, ρ', r, e, q⟩
theorem tw_or1 (h : PT X a (rdT X.K (evT cl xa))) : PW X (.BoolOp .Or [a] pos) (rdT X.K (evT cl (.last xa))) := (pw_or1 h).weak fun σ H Q q => by
  obtain ⟨S, fp, ρ, k, ρ', r, e, q⟩ := q
  unfold evT at e
  exact ⟨S, fp, ρ, k, ρ', r, e, q⟩
theorem tw_and {rest : List Expr} (ha : PT X a (rdT X.K (evT cl xa))) (hb : PW X (.BoolOp .And (b :: rest) pos) (rdT X.K (evT cl xb))) : PW X (.BoolOp .And (a :: b :: rest) pos) (rdT X.K (evT cl (.and xa xb))) := by
  refine (pw_and ha hb).weak fun σ H Q h => ?_
  obtain ⟨S, fp, ρ, k, ρ', r, e, q⟩ := h
  unfold evT at e
  obtain ⟨j, ρ1, e1, e⟩ := bnd_eq e
  refine ⟨S, fp, ρ, j, ρ1, r, e1, fun S1 fp1 H1 A1 => ?_⟩
  cases j with
  | true => exact ⟨S1, fp1, ρ1, k, ρ', A1.rs, e, fun S2 fp2 H2 A2 => q _ _ H2 (A1.trans A2)⟩
  | false => cases e; exact q _ _ H1 A1
theorem tw_or {rest : List Expr} (ha : PT X a (rdT X.K (evT cl xa))) (hb : PW X (.BoolOp .Or (b :: rest) pos) (rdT X.K (evT cl xb))) : PW X (.BoolOp .Or (a :: b :: rest) pos) (rdT X.K (evT cl (.or xa xb))) := by
  refine (pw_or ha hb).weak fun σ H Q h => ?_
  obtain ⟨S, fp, ρ, k, ρ', r, e, q⟩ := h
  unfold evT at e
  obtain ⟨j, ρ1, e1, e⟩ := bnd_eq e
  refine ⟨S, fp, ρ, j, ρ1, r, e1, fun S1 fp1 H1 A1 => ?_⟩
  cases j with
  | true => cases e; exact q _ _ H1 A1
  | false => exact ⟨S1, fp1, ρ1, k, ρ', A1.rs, e, fun S2 fp2 H2 A2 => q _ _ H2 (A1.trans A2)⟩
theorem tt_not (h : PT X a (rdT X.K (evT cl xa))) : PT X (.UnaryOp .Not a pos) (rdT X.K (evT cl (.not xa))) := (pt_not h).weak fun σ H Q q => by
  obtain ⟨S, fp, ρ, k, ρ', r, e, q⟩ := q
  unfold evT at e
  obtain ⟨j, ρ1, e1, e⟩ := bnd_eq e
  cases e
  exact ⟨S, fp, ρ, j, _, r, e1, fun S1 fp1 H1 A1 => q _ _ H1 A1⟩
/-- what is no and, or, not -/
def plainT : Ex → Bool
  | .and _ _ => false | .or _ _ => false | .not _ => false | .last _ => false
  | _ => true
theorem evT_plain (h : plainT xa = true) (ρ : Env) : evT cl xa ρ = bnd (evE cl xa ρ) fun x ρ => giv ((x.wk ρ).bind truD) ρ := by
  cases xa <;> first | (unfold evT; rfl) | cases h
theorem tt_cmp {o : C2} (hu : X.A.units + 64 < cLine) (ha : PE X a (rdV X.K (evE cl xa))) (hb : PE X b (rdV X.K (evE cl xb))) (hm : behindInMarks o.op b = false) : PT X (.Compare a [o.op] [b] pos) (rdT X.K (evT cl (.cmp o xa xb))) := by
  refine (pt_cmpR (C2.rule hu o) ha hb hm).weak fun σ H Q h => ?_
  obtain ⟨S, fp, ρ, k, ρ', r, e, q⟩ := h
  rw [evT_plain rfl] at e
  obtain ⟨z, ρ3, e, e3⟩ := bnd_eq e
  obtain ⟨e3, rfl⟩ := giv_eq e3
  unfold evE at e
  obtain ⟨x, ρ1, e1, e⟩ := bnd_eq e
  obtain ⟨y, ρ2, e2, e⟩ := bnd_eq e
  obtain ⟨e, rfl⟩ := giv_eq e
  refine ⟨S, fp, ρ, x, ρ1, r, e1, fun S1 fp1 vx H1 A1 o1 => ⟨S1, fp1, ρ1, y, _, A1.rs, e2, fun S2 fp2 vy H2 A2 o2 => ?_⟩⟩
  cases hx : x.wk ρ' with
  | none => rw [hx] at e; cases e
  | some d1 =>
    cases hy : y.wk ρ' with
    | none => rw [hx, hy] at e; cases e
    | some d2 =>
      rw [hx, hy] at e
      cases hf : o.b d1 d2 with
      | none => simp [C2.f, hf] at e
      | some j =>
        simp [C2.f, hf] at e
        subst e
        have e4 : some j = some k := e3
        cases e4
        exact ⟨d1, d2, .bool _, .bl _, (o1.mono A1.rs A2.fr).weak A2.rs hx, o2.weak A2.rs hy, by unfold C2.f; rw [hf]; rfl, rfl, _, rfl, q _ _ H2 (A1.trans A2)⟩
def plainE : Expr → Bool
  | .UnaryOp .Not _ _ => false | .BoolOp _ _ _ => false | .IfExp _ _ _ _ => false | .Compare _ _ _ _ => false
  | _ => true
theorem isTrue_of (h : plainE e = true) : ∀ whole, isTrue e X.env whole = (do let v ← whole; standAt e.pos; holding [v] (truthy v)) := by
  intro whole
  cases e <;> first | rfl | (cases h; done) | skip
  all_goals (rename_i o _ _; cases o <;> first | rfl | cases h)
theorem truV_of {K : PySem.W.Frag} {H : Hp} {v : V} {d : D} {k : Bool} (r : Rep K AllS H v d) (h : truD d = some k) : TruV K v H k := by
  cases d <;> simp only [truD, reduceCtorEq] at h <;> cases h <;> cases r
  · rfl
  · rfl
  · rfl
  · rename_i a vs l rr
    refine .inl ⟨vs, l.sq, ?_⟩
    cases rr <;> rfl
  · rename_i a vs l rr
    refine .inr (.inl ⟨vs, l.sq, ?_⟩)
    cases rr <;> rfl
theorem tt_tru (ha : PE X a (rdV X.K (evE cl xa))) (hp : plainT xa = true) (he : plainE a = true) : PT X a (rdT X.K (evT cl xa)) := by
  refine (pt_truth ha (isTrue_of he)).weak fun σ H Q h => ?_
  obtain ⟨S, fp, ρ, k, ρ', r, e, q⟩ := h
  rw [evT_plain hp] at e
  obtain ⟨z, ρ3, e, e3⟩ := bnd_eq e
  obtain ⟨e3, rfl⟩ := giv_eq e3
  refine ⟨S, fp, ρ, z, _, r, e, fun S1 fp1 vx H1 A1 o1 => ?_⟩
  cases hz : z.wk ρ' with
  | none => rw [hz] at e3; cases e3
  | some d =>
    rw [hz] at e3
    exact ⟨k, truV_of (o1.weak A1.rs hz) e3, q _ _ H1 A1⟩
end

/-! ### the state behind a statement -/
def BkS (ρ : Env) (σ : L2.St) (ρ' : Env) (σ' : L2.St) : Prop := ∀ (i : Nat) (t' : OT), ρ'[i]? = some (Slot.val true t') → (∃ t : OT, ρ[i]? = some (Slot.val true t)) ∧ σ'[i]? = σ[i]?
structure AftS (K : PySem.W.Frag) (S : Addr → Prop) (fp : Nat → Fp) (H : Hp) (ρ : Env) (σ : L2.St) (S' : Addr → Prop) (fp' : Nat → Fp) (H' : Hp) (ρ' : Env) (σ' : L2.St) : Prop where
  fr : Fr true S fp H S' fp' H'
  bk : BkS ρ σ ρ' σ'
  rs : RS K S' σ' H' ρ' fp'
section
variable {K : PySem.W.Frag} {S S1 S' : Addr → Prop} {H H1 H' : Hp} {fp fp1 fp' : Nat → Fp} {σ σ1 σ' : L2.St} {ρ ρ1 ρ' : Env} {v : V}
theorem AftS.refl (r : RS K S σ H ρ fp) : AftS K S fp H ρ σ S fp H ρ σ := ⟨Fr.refl, fun i t h => ⟨⟨t, h⟩, rfl⟩, r⟩
theorem AftS.trans (a : AftS K S fp H ρ σ S1 fp1 H1 ρ1 σ1) (b : AftS K S1 fp1 H1 ρ1 σ1 S' fp' H' ρ' σ') : AftS K S fp H ρ σ S' fp' H' ρ' σ' :=
  ⟨a.fr.trans b.fr, fun i t h => by
    obtain ⟨⟨t1, h1⟩, h2⟩ := b.bk i t h
    obtain ⟨h3, h4⟩ := a.bk i t1 h1
    exact ⟨h3, h2.trans h4⟩, b.rs⟩
theorem Aft.s (a : Aft K σ S fp H ρ S' fp' H' ρ') : AftS K S fp H ρ σ S' fp' H' ρ' σ := ⟨a.fr, fun i t h => ⟨a.bk i t h, rfl⟩, a.rs⟩
theorem isLent_false {i : Nat} (h : isLent ρ i = false) (t : OT) : ρ[i]? ≠ some (Slot.val true t) := by
  intro e
  unfold isLent at h
  rw [e] at h
  cases h
/-- a name is stored -/
theorem AftS.set (r : RS K S σ H ρ fp) {t : OT} {G : Fp} {S0 : Addr → Prop} {fp0 : Nat → Fp} {H0 : Hp} {ρ0 : Env} {σ0 : L2.St} (a : AftS K S0 fp0 H0 ρ0 σ0 S fp H ρ σ) (h : Hand K S fp H v t G) (hG : ∀ a, G a → (∃ j, fp0 j a) ∨ H0 a = none) {i : Nat} (hi : i < ρ.length) (hl : isLent ρ i = false) :
    AftS K S0 fp0 H0 ρ0 σ0 S (setF fp i G) H (ρ.set i (.val false t)) (σ.set i (some v)) := by
  refine ⟨a.fr.set hG, fun j t' e => ?_, r.set h hi false⟩
  by_cases hj : j = i
  · subst hj
    rw [List.getElem?_set_self hi] at e
    cases e
  · rw [List.getElem?_set_ne (Ne.symm hj)] at e
    rw [List.getElem?_set_ne (Ne.symm hj)]
    exact a.bk j t' e
theorem AftS.put {d : D} {S0 : Addr → Prop} {fp0 : Nat → Fp} {H0 : Hp} {ρ0 : Env} {σ0 : L2.St} (a : AftS K S0 fp0 H0 ρ0 σ0 S fp H ρ σ) (h : Rep K S H v d) {i : Nat} (e : putE ρ i d = some ρ') :
    AftS K S0 fp0 H0 ρ0 σ0 S (setF fp i fun _ => False) H ρ' (σ.set i (some v)) := by
  unfold putE at e
  split at e
  · rename_i hh
    cases e
    exact AftS.set a.rs a (Hand.of_rep h) (fun _ z => z.elim) hh.1 hh.2
  · cases e
end

/-! ### targets -/
/-- what a target is handed, and what stands behind -/
def rgT (K : PySem.W.Frag) (t : Tg) : TG := fun v σ H Q => ∃ S fp ρ d ρ', RS K S σ H ρ fp ∧ Rep K S H v d ∧ tgE ρ t d = some ρ' ∧ ∀ fp' σ', AftS K S fp H ρ σ S fp' H ρ' σ' → (∀ j, j ∉ t.slots → σ'[j]? = σ[j]?) → Q σ' H
def rgTs (K : PySem.W.Frag) (is : List Nat) : TGs := fun vs σ H Q => ∃ S fp ρ ds ρ', RS K S σ H ρ fp ∧ Reps K S H vs ds ∧ putsE ρ is ds = some ρ' ∧ ∀ fp' σ', AftS K S fp H ρ σ S fp' H ρ' σ' → (∀ j, j ∉ is → σ'[j]? = σ[j]?) → Q σ' H
section
variable {X : Cx} {cl : Cl} {e a b c n : Expr} {es : List Expr} {xa xb xc xn : Ex} {xs : Exs} {pos p apos cpos : Pos}
theorem _root_.L2.PG.weak {tg : Expr} {t t' : TG} (h : PG X tg t) (w : ∀ v σ H Q, t' v σ H Q → t v σ H Q) : PG X tg t' := ⟨fun pins s σ H v u Q I r q => h.run pins s σ H v u Q I r (w v σ H Q q)⟩
theorem _root_.L2.PGs.weak {tg : List Expr} {t t' : TGs} (h : PGs X tg t) (w : ∀ v σ H Q, t' v σ H Q → t v σ H Q) : PGs X tg t' := ⟨fun pins s σ H v u Q I r q => h.run pins s σ H v u Q I r (w v σ H Q q)⟩
theorem g_one {i : Nat} {x : Str} (hN : X.N.Nodup) (hi : X.N[i]? = some x) (hx : Loc X.env.scope x) (hf : X.fn x = true ∨ X.env.scope.names.lookup x = some .local) : PG X (.Name x pos) (rgT X.K (.one i)) := by
  refine (pg_name hN hi hx hf).weak fun v σ H Q h => ?_
  obtain ⟨S, fp, ρ, d, ρ', r, rv, e, q⟩ := h
  exact q _ _ ((AftS.refl r).put rv e) fun j hj => List.getElem?_set_ne (fun z => hj (by simp [Tg.slots, z]))
theorem g_nil : PGs X [] (rgTs X.K []) := by
  refine pgs_nil.weak fun vs σ H Q h => ?_
  obtain ⟨S, fp, ρ, ds, ρ', r, rv, e, q⟩ := h
  cases ds with
  | nil =>
    cases rv
    cases e
    exact ⟨rfl, q _ _ (AftS.refl r) fun _ _ => rfl⟩
  | cons d ds => unfold putsE at e; cases e
theorem g_cons {i : Nat} {is : List Nat} {x : Str} {es : List Expr} (hN : X.N.Nodup) (hi : X.N[i]? = some x) (hx : Loc X.env.scope x) (hf : X.fn x = true ∨ X.env.scope.names.lookup x = some .local) (h2 : PGs X es (rgTs X.K is)) :
    PGs X (.Name x pos :: es) (rgTs X.K (i :: is)) := by
  refine (pgs_cons (pg_name hN hi hx hf) h2).weak fun vs σ H Q h => ?_
  obtain ⟨S, fp, ρ, ds, ρ', r, rv, e, q⟩ := h
  cases ds with
  | nil => unfold putsE at e; cases e
  | cons d ds =>
    unfold putsE at e
    cases e1 : putE ρ i d with
    | none => rw [e1] at e; cases e
    | some ρ1 =>
      rw [e1] at e
      cases rv with
      | cons r1 r2 =>
        have A := (AftS.refl r).put r1 e1
        exact ⟨_, _, rfl, S, _, ρ1, ds, ρ', A.rs, r2, e, fun fp' σ' A2 hσ => q _ _ (A.trans A2) fun j hj => (hσ j (fun z => hj (List.mem_cons_of_mem _ z))).trans (List.getElem?_set_ne (fun z => hj (by rw [← z]; exact List.mem_cons_self)))⟩
theorem putsE_len : ∀ {is : List Nat} {ds : List D} {ρ ρ' : Env}, putsE ρ is ds = some ρ' → is.length = ds.length
  | [], [], _, _, _ => rfl
  | i :: is, d :: ds, ρ, ρ', e => by
    unfold putsE at e
    cases e1 : putE ρ i d with
    | none => rw [e1] at e; cases e
    | some ρ1 => rw [e1] at e; rw [List.length_cons, List.length_cons, putsE_len e]
  | [], _ :: _, _, _, e => by unfold putsE at e; cases e
  | _ :: _, [], _, _, e => by unfold putsE at e; cases e
theorem assignEach_names {env : PySem.Env} : ∀ {es : List Expr}, es.all notStar = true → (assignEach es env).length = es.length ∧ (assignEach es env).findIdx? (·.1) = none
  | [], _ => ⟨rfl, rfl⟩
  | e :: es, h => by
    rw [List.all_cons, Bool.and_eq_true] at h
    obtain ⟨h1, h2⟩ := assignEach_names (env := env) h.2
    have e1 : assignEach (e :: es) env = (false, assign e env) :: assignEach es env := by
      cases e <;> first | rfl | (cases h.1)
    rw [e1]
    refine ⟨by rw [List.length_cons, List.length_cons, h1], ?_⟩
    rw [List.findIdx?_cons, h2]; rfl
theorem g_tup {is : List Nat} {k : Nat} {es : List Expr} (hc : X.calm = true) (h : PGs X es (rgTs X.K is)) (hs : es.all notStar = true) (hl : is.length = es.length) : PG X (.Tuple es k pos) (rgT X.K (.tup is)) := by
  obtain ⟨h1, h2⟩ := assignEach_names (env := X.env) hs
  refine (pg_tup hc h h1 h2).weak fun v σ H Q h => ?_
  obtain ⟨S, fp, ρ, d, ρ', r, rv, e, q⟩ := h
  unfold tgE at e
  split at e
  · rename_i hq; cases hq
  · rename_i is2 ds hq
    cases hq
    cases rv with
    | tup l rr =>
      exact ⟨_, _, rfl, l.sq, by rw [rr.length, ← putsE_len e, hl], S, fp, ρ, ds, ρ', r, rr, e, q⟩
  · cases e
end
end Pv

set_option Elab.async false
set_option linter.all false
set_option maxRecDepth 100000
set_option maxHeartbeats 4000000
/-! statements -/
namespace Pv
open PySem L2

/-- what is wanted behind: by the way that the evaluator ends -/
def Wish (K : PySem.W.Frag) (S : Addr → Prop) (fp : Nat → Fp) (H : Hp) (ρ : Env) (σ : L2.St) (D : Ends) : Fl → Prop
  | .nx ρ' => ∀ S' fp' H' σ', AftS K S fp H ρ σ S' fp' H' ρ' σ' → D.nx σ' H'
  | .brk ρ' => ∀ S' fp' H' σ', AftS K S fp H ρ σ S' fp' H' ρ' σ' → D.bk σ' H'
  | .cont ρ' => ∀ S' fp' H' σ', AftS K S fp H ρ σ S' fp' H' ρ' σ' → D.ct σ' H'
  | .ret t ρ' => ∀ S' fp' H' σ' v G, AftS K S fp H ρ σ S' fp' H' ρ' σ' → Hand K S' fp' H' v t G → (∀ a, G a → (∃ j, fp j a) ∨ H a = none) → D.rt v H'
def rdS (K : PySem.W.Frag) (ev : Env → Option Fl) : TS := fun D σ H => ∃ S fp ρ fl, RS K S σ H ρ fp ∧ ev ρ = some fl ∧ Wish K S fp H ρ σ D fl
section
variable {K : PySem.W.Frag} {S S1 : Addr → Prop} {H H1 : Hp} {fp fp1 : Nat → Fp} {σ σ1 : L2.St} {ρ ρ1 : Env} {D : Ends} {fl : Fl}
theorem Wish.after (a : AftS K S fp H ρ σ S1 fp1 H1 ρ1 σ1) (w : Wish K S fp H ρ σ D fl) : Wish K S1 fp1 H1 ρ1 σ1 D fl := by
  cases fl with
  | nx ρ' => exact fun S' fp' H' σ' A => w _ _ _ _ (a.trans A)
  | brk ρ' => exact fun S' fp' H' σ' A => w _ _ _ _ (a.trans A)
  | cont ρ' => exact fun S' fp' H' σ' A => w _ _ _ _ (a.trans A)
  | ret t ρ' => exact fun S' fp' H' σ' v G A h hG => w _ _ _ _ v G (a.trans A) h fun x g => (hG x g).elim (fun ⟨j, z⟩ => a.fr.newF j x z) fun z => .inr (none_of_live a.fr.live z)
end
section
variable {X : Cx}
theorem list_extendW (l : Addr) (items : Array Value) (n : Nat) (b : Addr) (items2 : Array Value) (n2 : Nat) (dd2 : Option Addr) (sl2 : Array (Option Value)) (hc0 : ¬(!items.isEmpty && Builtin.List.listTooLong (items.size + items2.size)) = true) (hc1 : items.size ≤ sizeLine) (hs2 : items.size + items2.size ≤ sizeLine + 1) :
    Meets (Builtin.«list.extend» ⟨[.ref l, .ref b], []⟩) (fun _ R s => s.heap.get? l = some { cls := .type "list", dict := none, data := .seq items n, slots := #[] } ∧ s.heap.get? b = some { cls := .type "list", dict := dd2, data := .seq items2 n2, slots := sl2 } ∧ R (.ok (.ret Value.none)) { s with heap := s.heap.update l (Obj.mapSeq fun x => x ++ items2), toks := s.toks }) :=
  .of_wp fun prog w A R s h => by
    obtain ⟨hp, g, d, tk, os⟩ := s; obtain ⟨hl, hb, h⟩ := h; have f1 := AutoSeq1.idx_int; have f2 := AutoSeq1.sub_tuple_tuple; have f3 := AutoSeq1.sub_list_list; have f4 := AutoSeq1.sub_tuple_list; have f5 := AutoSeq1.sub_list_tuple;
    have hz' : (items ++ items2).size ≤ sizeLine + 1 := by rw [Array.size_append]; exact hs2
    wp_walk using (wpAny_updateSeq hl rfl (hz := hc1) (_hz' := hz')), wpAny_loadPart' hl, wpAny_loadPart' hb; exact ⟨_, rfl, h⟩
/-- xs.extend(ys), ys a list that is read -/
theorem mt_extendA : MtR X "list.extend" (fun x vs H Q => ∃ l b xs zs, x = .ref l ∧ vs = [.ref b] ∧ H l = some (.lst xs) ∧ SqL X.K H b zs ∧ xs.length + zs.length ≤ sizeLine ∧ Q .non (upd H l (.lst (xs ++ zs)))) := by
  intro pins s σ H x vs v us Q I rx rv h
  obtain ⟨l, b, xs, zs, rfl, rfl, hH, hB, hz, q⟩ := h
  cases rx
  obtain ⟨u, rfl, ru⟩ := rv.one
  cases ru
  obtain ⟨z, its, n, r, hl, e⟩ := I.lstM hH
  obtain ⟨its2, r2, ⟨⟨cls2, dd2, data2, sl2⟩, n2, ho2, hc2, hd02, hd2⟩, _⟩ := I.list hB
  simp only at hc2 hd2
  subst hc2 hd2
  have hl2 := r2.length
  have hsz : its.toArray.size + its2.toArray.size ≤ sizeLine := by rw [List.size_toArray, List.size_toArray]; omega
  have hlong : ¬ (!its.toArray.isEmpty && Builtin.List.listTooLong (its.toArray.size + its2.toArray.size)) = true := by
    rw [notLongL hsz, Bool.and_false]
    exact Bool.false_ne_true
  refine call_meets F.slot_list_extend ⟨_, e, rfl⟩ F.entry_list_extend (F.args_list_extend_2 _ _)
    (list_extendW l its.toArray n b its2.toArray n2 dd2 sl2 hlong (by rw [List.size_toArray]; omega) (by omega)) ⟨e, ho2, ?_⟩
  refine ⟨.non, _, I.lset (its' := its ++ its2) hH e (by simp) (r.append r2) ?_, rfl, q⟩
  rw [List.length_append]
  omega
end
section
variable {X : Cx} {cl : Cl} {fu : Nat} {e a b c n : Expr} {es : List Expr} {xa xb xc xe xn xk : Ex} {xs : Exs} {pos p apos cpos tpos : Pos} {sa sb : St} {st : Stmt} {rest : List Stmt}
theorem ss_nil : PSs X [] (rdS X.K (evS cl fu .nil)) := by
  refine pss_nil.weak fun D σ H h => ?_
  obtain ⟨S, fp, ρ, fl, r, e, w⟩ := h
  unfold evS at e
  cases e
  exact w _ _ _ _ (AftS.refl r)
theorem ss_cons (h1 : PS X st (rdS X.K (evS cl fu sa))) (h2 : PSs X rest (rdS X.K (evS cl fu sb))) : PSs X (st :: rest) (rdS X.K (evS cl fu (.seq sa sb))) := by
  refine (pss_cons h1 h2).weak fun D σ H h => ?_
  obtain ⟨S, fp, ρ, fl, r, e, w⟩ := h
  unfold evS at e
  cases e1 : evS cl fu sa ρ with
  | none => rw [e1] at e; cases e
  | some f1 =>
    rw [e1] at e
    cases f1 with
    | nx ρ1 => exact ⟨S, fp, ρ, _, r, e1, fun S1 fp1 H1 σ1 A => ⟨S1, fp1, ρ1, fl, A.rs, e, w.after A⟩⟩
    | brk ρ' => cases e; exact ⟨S, fp, ρ, _, r, e1, w⟩
    | cont ρ' => cases e; exact ⟨S, fp, ρ, _, r, e1, w⟩
    | ret t ρ' => cases e; exact ⟨S, fp, ρ, _, r, e1, w⟩
theorem s_pass : PS X (.Pass pos) (rdS X.K (evS cl fu .pass)) := by
  refine ps_pass.weak fun D σ H h => ?_
  obtain ⟨S, fp, ρ, fl, r, e, w⟩ := h
  unfold evS at e
  cases e
  exact w _ _ _ _ (AftS.refl r)
def notComp : Expr → Bool
  | .ListComp _ _ _ _ => false | .SetComp _ _ _ _ => false | .DictComp _ _ _ _ _ => false
  | _ => true
theorem swaps_none (h : notComp e = true) {t : Option Expr} {l : Nat} {env : PySem.Env} : swapsWith e t l env = pure false := by
  cases e <;> first | rfl | cases h
theorem swapsSole_none (h : notComp e = true) {t : Expr} {l : Nat} {env : PySem.Env} : swapsWithSole [t] e l env = pure false := swaps_none h
theorem s_ex (ha : PE X a (rdV X.K (evE cl xa))) (h : notComp a = true) : PS X (.Expr a pos) (rdS X.K (evS cl fu (.ex xa))) := by
  refine (ps_expr ha (swaps_none h)).weak fun D σ H h => ?_
  obtain ⟨S, fp, ρ, fl, r, e, w⟩ := h
  unfold evS at e
  obtain ⟨x, ρ1, e1, e⟩ := bnd_eq e
  cases e
  exact ⟨S, fp, ρ, x, _, r, e1, fun S1 fp1 v H1 A _ => w _ _ _ _ A.s⟩
def notVar : Ex → Bool
  | .var _ => false
  | _ => true
theorem s_ret (ha : PE X a (rdV X.K (evE cl xa))) (hv : notVar xa = true) : PS X (.Return (some a) pos) (rdS X.K (evS cl fu (.ret xa))) := by
  refine (ps_ret ha).weak fun D σ H h => ?_
  obtain ⟨S, fp, ρ, fl, r, e, w⟩ := h
  have e' : (bnd (evE cl xa ρ) fun x ρ => match x with
    | .dat d => some (.ret (.sh d) ρ)
    | _ => none) = some fl := by
    cases xa <;> first | (cases hv; done) | (unfold evS at e; exact e)
  obtain ⟨x, ρ1, e1, e⟩ := bnd_eq e'
  split at e
  · cases e
    exact ⟨S, fp, ρ, _, _, r, e1, fun S1 fp1 v H1 A o => w _ _ _ _ v _ A.s (Hand.of_rep o) fun _ z => z.elim⟩
  · cases e
theorem s_retv {i : Nat} {x : Str} (hN : X.N[i]? = some x) (hv : Vis X.env.scope x) (hd : (x == ("__debug__" : Str)) = false) (hcd : (x == ("__classdict__" : Str)) = false) : PS X (.Return (some (.Name x p)) pos) (rdS X.K (evS cl fu (.ret (.var i)))) := by
  refine (ps_ret (pe_var hN hv hd hcd)).weak fun D σ H h => ?_
  obtain ⟨S, fp, ρ, fl, r, e, w⟩ := h
  unfold evS at e
  split at e
  · rename_i t q0
    cases e
    obtain ⟨v, h1, h2⟩ := r.val q0
    refine ⟨v, h1, ?_⟩
    have r' := r.drop (i := i) (some v)
    have hs : σ.set i (some v) = σ := by
      apply List.ext_getElem?
      intro j
      by_cases hj : j = i
      · subst hj
        rw [List.getElem?_set_self (List.getElem?_eq_some_iff.mp h1).1, h1]
      · rw [List.getElem?_set_ne (Ne.symm hj)]
    rw [hs] at r'
    refine w S (setF fp i fun _ => False) H σ v (fp i) ⟨Fr.set Fr.refl fun _ z => z.elim, fun j t' ej => ?_, r'⟩ ⟨h2, r.out i, fun j a g hj => ?_⟩ fun a g => .inl ⟨i, g⟩
    · by_cases hj : j = i
      · subst hj
        rw [List.getElem?_set_self (List.getElem?_eq_some_iff.mp q0).1] at ej
        cases ej
      · rw [List.getElem?_set_ne (Ne.symm hj)] at ej
        exact ⟨⟨t', ej⟩, rfl⟩
    · by_cases hji : j = i
      · subst hji; rw [setF_same] at hj; exact hj
      · rw [setF_ne hji] at hj; exact hji (r.dis j i a hj g)
  · rename_i d q0
    cases e
    obtain ⟨v, h1, h2⟩ := r.sh q0
    exact ⟨v, h1, w S fp H σ v _ (AftS.refl r) (Hand.of_rep h2) fun _ z => z.elim⟩
  · cases e
theorem s_retN : PS X (.Return none pos) (rdS X.K (evS cl fu .retN)) := by
  refine ps_retN.weak fun D σ H h => ?_
  obtain ⟨S, fp, ρ, fl, r, e, w⟩ := h
  unfold evS at e
  cases e
  exact w S fp H σ .non _ (AftS.refl r) (Hand.of_rep .non) fun _ z => z.elim
theorem s_if {pa pb : List Stmt} (hc : PT X c (rdT X.K (evT cl xc))) (ha : PSs X pa (rdS X.K (evS cl fu sa))) (hb : PSs X pb (rdS X.K (evS cl fu sb))) : PS X (.If c pa pb pos) (rdS X.K (evS cl fu (.ifs xc sa sb))) := by
  refine (ps_if hc ha hb).weak fun D σ H h => ?_
  obtain ⟨S, fp, ρ, fl, r, e, w⟩ := h
  unfold evS at e
  obtain ⟨k, ρ1, e1, e⟩ := bnd_eq e
  refine ⟨S, fp, ρ, k, ρ1, r, e1, fun S1 fp1 H1 A => ?_⟩
  cases k with
  | true => exact ⟨S1, fp1, ρ1, fl, A.rs, e, w.after A.s⟩
  | false => exact ⟨S1, fp1, ρ1, fl, A.rs, e, w.after A.s⟩
/-- targets = e, the value shared -/
theorem s_asg {tg : Expr} {t : Tg} (ha : PE X a (rdV X.K (evE cl xa))) (hg : PG X tg (rgT X.K t)) (hs : swapsWithSole [tg] a pos.line X.env = pure false) (hw : swappedStores [tg] a X.env = pure none) (ht : notStar tg = true) :
    PS X (.Assign [tg] a pos) (rdS X.K (evS cl fu (.asg t xa))) := by
  refine (ps_asg ha hg hs hw (by cases tg <;> first | rfl | cases ht)).weak fun D σ H h => ?_
  obtain ⟨S, fp, ρ, fl, r, e, w⟩ := h
  unfold evS at e
  obtain ⟨x, ρ1, e1, e⟩ := bnd_eq e
  split at e
  · rename_i d
    cases q : tgE ρ1 t d with
    | none => rw [q] at e; cases e
    | some ρ2 =>
      rw [q] at e
      cases e
      exact ⟨S, fp, ρ, _, ρ1, r, e1, fun S1 fp1 v H1 A o => ⟨S1, fp1, ρ1, d, ρ2, A.rs, o, q, fun fp2 σ2 A2 _ => w _ _ _ _ (A.s.trans A2)⟩⟩
  · cases e
/-- a, b = x, y by swapped stores -/
theorem s_par2 {i j : Nat} {x y : Str} {px py pt : Pos} {kt k2 pt2} (hc : X.calm = true) (hN : X.N.Nodup) (hi : X.N[i]? = some x) (hj : X.N[j]? = some y) (hij : i ≠ j)
    (hx : X.env.scope.names.lookup x = some .local) (hy : X.env.scope.names.lookup y = some .local) (ha : PA X [a, b] (rdVs X.K (evEs cl xs)))
    (hw : swappedStores [.Tuple [.Name x px, .Name y py] kt pt] (.Tuple [a, b] k2 pt2) X.env = pure (some [x, y])) :
    PS X (.Assign [.Tuple [.Name x px, .Name y py] kt pt] (.Tuple [a, b] k2 pt2) pos) (rdS X.K (evS cl fu (.par [i, j] xs))) := by
  refine (ps_par hc hN hi hj hij hx hy ha hw).weak fun D σ H h => ?_
  obtain ⟨S, fp, ρ, fl, r, e, w⟩ := h
  unfold evS at e
  obtain ⟨ys, ρ1, e1, e⟩ := bnd_eq e
  cases q : sts ys with
  | none => rw [q] at e; cases e
  | some ds =>
    rw [q] at e
    simp only [Option.bind_some] at e
    cases q2 : putsE ρ1 [i, j] ds with
    | none => rw [q2] at e; cases e
    | some ρ2 =>
      rw [q2] at e
      cases e
      refine ⟨S, fp, ρ, ys, ρ1, r, e1, fun S1 fp1 vs H1 A o => ?_⟩
      have rr := o.strong q
      match ds, q2, rr with
      | [], q2, _ => unfold putsE at q2; cases q2
      | [d], q2, _ => unfold putsE at q2; cases h1 : putE ρ1 i d <;> rw [h1] at q2 <;> first | cases q2 | (simp only [Option.bind_some] at q2; unfold putsE at q2; cases q2)
      | [d1, d2], q2, rr =>
        obtain ⟨v1, v2, rfl, r1, r2⟩ := Reps.two rr
        unfold putsE at q2
        cases h1 : putE ρ1 i d1 with
        | none => rw [h1] at q2; cases q2
        | some ρ3 =>
          rw [h1] at q2
          simp only [Option.bind_some] at q2
          unfold putsE at q2
          cases h2 : putE ρ3 j d2 with
          | none => rw [h2] at q2; cases q2
          | some ρ4 =>
            rw [h2] at q2
            simp only [Option.bind_some] at q2
            unfold putsE at q2
            cases q2
            have A1 := A.s.put r1 h1
            exact ⟨v1, v2, rfl, w _ _ _ _ (A1.put r2 h2)⟩
      | d1 :: d2 :: d3 :: ds, q2, _ =>
        have := putsE_len q2
        simp at this
theorem s_par3 {i j l : Nat} {x y z : Str} {px py pz pt : Pos} {kt k2 pt2} (hc : X.calm = true) (hN : X.N.Nodup) (hi : X.N[i]? = some x) (hj : X.N[j]? = some y) (hl : X.N[l]? = some z) (hij : i ≠ j) (hil : i ≠ l) (hjl : j ≠ l)
    (hx : X.env.scope.names.lookup x = some .local) (hy : X.env.scope.names.lookup y = some .local) (hz : X.env.scope.names.lookup z = some .local) (ha : PA X [a, b, c] (rdVs X.K (evEs cl xs)))
    (hw : swappedStores [.Tuple [.Name x px, .Name y py, .Name z pz] kt pt] (.Tuple [a, b, c] k2 pt2) X.env = pure (some [x, y, z])) :
    PS X (.Assign [.Tuple [.Name x px, .Name y py, .Name z pz] kt pt] (.Tuple [a, b, c] k2 pt2) pos) (rdS X.K (evS cl fu (.par [i, j, l] xs))) := by
  refine (ps_par3 hc hN hi hj hl hij hil hjl hx hy hz ha hw).weak fun D σ H h => ?_
  obtain ⟨S, fp, ρ, fl, r, e, w⟩ := h
  unfold evS at e
  obtain ⟨ys, ρ1, e1, e⟩ := bnd_eq e
  cases q : sts ys with
  | none => rw [q] at e; cases e
  | some ds =>
    rw [q] at e
    simp only [Option.bind_some] at e
    cases q2 : putsE ρ1 [i, j, l] ds with
    | none => rw [q2] at e; cases e
    | some ρ2 =>
      rw [q2] at e
      cases e
      refine ⟨S, fp, ρ, ys, ρ1, r, e1, fun S1 fp1 vs H1 A o => ?_⟩
      have rr := o.strong q
      have hlen := putsE_len q2
      match ds, q2, rr, hlen with
      | [], _, _, h => simp at h
      | [_], _, _, h => simp at h
      | [_, _], _, _, h => simp at h
      | [d1, d2, d3], q2, rr, _ =>
        obtain ⟨v1, v2, v3, rfl, r1, r2, r3⟩ := Reps.three rr
        unfold putsE at q2
        cases h1 : putE ρ1 i d1 with
        | none => rw [h1] at q2; cases q2
        | some ρ3 =>
          rw [h1] at q2
          simp only [Option.bind_some] at q2
          unfold putsE at q2
          cases h2 : putE ρ3 j d2 with
          | none => rw [h2] at q2; cases q2
          | some ρ4 =>
            rw [h2] at q2
            simp only [Option.bind_some] at q2
            unfold putsE at q2
            cases h3 : putE ρ4 l d3 with
            | none => rw [h3] at q2; cases q2
            | some ρ5 =>
              rw [h3] at q2
              simp only [Option.bind_some] at q2
              unfold putsE at q2
              cases q2
              have A1 := A.s.put r1 h1
              have A2 := A1.put r2 h2
              exact ⟨v1, v2, v3, rfl, w _ _ _ _ (A2.put r3 h3)⟩
      | _ :: _ :: _ :: _ :: _, _, _, h => simp at h
/-- name op= e -/
def O2.ipOk : O2 → Bool
  | .add => true | .sub => true | _ => false
theorem s_aug {i : Nat} {x : Str} {o : O2} {pos' : Pos} (hN : X.N.Nodup) (hi : X.N[i]? = some x) (hx : Loc X.env.scope x) (hf : X.fn x = true ∨ X.env.scope.names.lookup x = some .local) (he : PE X e (rdV X.K (evE cl xe))) (ho : o.ipOk = true) :
    PS X (.AugAssign (.Name x pos') o.op e pos) (rdS X.K (evS cl fu (.aug i o xe))) := by
  have key : ∀ (f : Int → Int → Int), PIp X o.op (ipI f) → (∀ (a b : Int) (ρ : Env), (match o with
      | .add => (putE ρ i (.int (a + b))).map Fl.nx
      | .sub => (putE ρ i (.int (a - b))).map .nx
      | _ => none) = (putE ρ i (.int (f a b))).map .nx) → PS X (.AugAssign (.Name x pos') o.op e pos) (rdS X.K (evS cl fu (.aug i o xe))) := by
    intro f hp hof
    refine (ps_aug hN hi hx he hp hf).weak fun D σ H h => ?_
    obtain ⟨S, fp, ρ, fl, r, e, w⟩ := h
    unfold evS at e
    obtain ⟨d, ρ0, e0, e⟩ := bnd_eq e
    obtain ⟨y, ρ1, e1, e⟩ := bnd_eq e
    have base : ∃ v, σ[i]? = some (some v) ∧ ∃ S0 fp0, Aft X.K σ S fp H ρ S0 fp0 H ρ0 ∧ Rep X.K S0 H v d := by
      unfold rdVar at e0
      split at e0
      · cases e0
        obtain ⟨v, h1, h2⟩ := r.sh (by assumption)
        exact ⟨v, h1, S, fp, Aft.refl r, h2⟩
      · rename_i q0
        split at e0
        · rename_i d' hd'
          cases e0
          obtain ⟨r', f', v, h1, h2⟩ := r.freeze (w := true) q0 hd'
          exact ⟨v, h1, _, _, ⟨f', Bk.set q0, r'⟩, h2⟩
        · cases e0
      · cases e0
    obtain ⟨v, h1, S0, fp0, A0, r0⟩ := base
    obtain ⟨a0, b0, rfl, rfl⟩ : ∃ a0 b0, d = .int a0 ∧ y = .dat (.int b0) := by
      cases d <;> cases y <;> first | (cases e; done) | skip
      rename_i dy
      cases dy <;> first | (cases e; done) | exact ⟨_, _, rfl, rfl⟩
    have e := (hof a0 b0 ρ1).symm.trans e
    cases q : putE ρ1 i (.int (f a0 b0)) with
    | none => rw [q] at e; cases e
    | some ρ2 =>
      rw [q] at e
      cases e
      cases r0
      refine ⟨_, h1, S0, fp0, ρ0, _, ρ1, A0.rs, e1, fun S1 fp1 u H1 A o1 => ?_⟩
      have o1 : Rep X.K S1 H1 u (.int b0) := o1
      cases o1
      exact ⟨a0, b0, rfl, rfl, w _ _ _ _ (AftS.put (A0.trans A).s (.int (f a0 b0)) q)⟩
  cases o <;> first | (cases ho; done) | exact key _ ip_add fun _ _ _ => rfl | exact key _ ip_sub fun _ _ _ => rfl
/-- x[k] = e, a list of one's own -/
theorem s_setix {i : Nat} {x : Str} {k : Expr} (hN : X.N[i]? = some x) (hv : Vis X.env.scope x) (hd : (x == ("__debug__" : Str)) = false) (hcd : (x == ("__classdict__" : Str)) = false) (he : PE X e (rdV X.K (evE cl xe))) (hk : PE X k (rdV X.K (evE cl xk)))
    (hs : notComp e = true) (hsk : notSlice k = true) (hw : swappedStores [.Subscript (.Name x p) k tpos] e X.env = pure none) : PS X (.Assign [.Subscript (.Name x p) k tpos] e pos) (rdS X.K (evS cl fu (.setix i xk xe))) := by
  refine (ps_asg he (pg_sub (pe_var hN hv hd hcd) hk set_list (fun v => by cases k <;> first | rfl | cases hsk)) (swapsSole_none hs) hw rfl).weak fun D σ H h => ?_
  obtain ⟨S, fp, ρ, fl, r, e, w⟩ := h
  unfold evS at e
  obtain ⟨y, ρ1, e1, e⟩ := bnd_eq e
  split at e
  · rename_i hlst
    obtain ⟨z, ρ2, e2, e⟩ := bnd_eq e
    split at e
    · rename_i d n0 b ts q0 _
      split at e
      · rename_i j q1
        cases e
        refine ⟨S, fp, ρ, _, ρ1, r, e1, fun S1 fp1 u H1 A1 o1 => ?_⟩
        obtain ⟨b1, ts1, q2⟩ := isLst_of hlst
        obtain ⟨a0, vs0, G0, g1, g2, _, _⟩ := A1.rs.list q2
        refine ⟨_, g1, S1, fp1, ρ1, _, ρ2, A1.rs, e2, fun S2 fp2 u2 H2 A2 o2 => ?_⟩
        have o2 : Rep X.K S2 H2 u2 (.int n0) := o2
        cases o2
        have o1' : Rep X.K S2 H2 u d := Rep.mono (A1.rs.ext A2.fr) o1
        obtain ⟨l, vs, G', h1, h2, h3, h4⟩ := A2.rs.list q0
        rw [g1] at h1
        cases h1
        obtain ⟨G2, h7, h8⟩ := h3.put o1' j
        have A := h4 _ _ G2 h7 h8
        exact ⟨a0, vs, n0, j, rfl, rfl, h2, by rw [h3.length]; exact q1, w _ _ _ _ ((A1.trans A2).trans A).s⟩
      · cases e
    · cases e
  · cases e
/-- x.append(e) -/
theorem s_app {i : Nat} {x : Str} (hN : X.N[i]? = some x) (hv : Vis X.env.scope x) (hd : (x == ("__debug__" : Str)) = false) (hcd : (x == ("__classdict__" : Str)) = false) (ha : PE X a (rdV X.K (evE cl xa))) (hs : notStar a = true) (hl : (apos.endLine == cpos.line) = true) :
    PS X (.Expr (.Call (.Attribute (.Name x p) "append" apos) [a] [] cpos) pos) (rdS X.K (evS cl fu (.app i xa))) := by
  refine (ps_expr (pe_bm PySem.F.plainAttrs_list PySem.F.slot_list_append PySem.F.type_list_append mt_append (pe_var hN hv hd hcd) (pa_cons ha pa_nil (starEach_cons hs)) rfl (hfew0 (by simpa using hs) (by simp)) hl (starEach_cons hs) rfl) rfl).weak fun D σ H h => ?_
  obtain ⟨S, fp, ρ, fl, r, e, w⟩ := h
  unfold evS at e
  split at e
  · rename_i hlst
    obtain ⟨b0, ts0, q9⟩ := isLst_of hlst
    obtain ⟨a0, vs0, G0, g1, g2, _, _⟩ := r.list q9
    obtain ⟨k, ρ1, e1, e⟩ := bnd_eq e
    split at e
    · rename_i d b ts q0
      split at e
      · rename_i hz
        cases e
        refine ⟨_, g1, .inl ⟨rfl, _, .inl (.inl g2)⟩, S, fp, ρ, _, ρ1, r, e1, fun S1 fp1 vx H1 A1 o1 => ?_⟩
        obtain ⟨l, vs, G', h1, h2, h3, h4⟩ := A1.rs.list q0
        rw [g1] at h1
        cases h1
        have A := h4 _ _ G' (fun _ h => h) (h3.snoc o1)
        exact ⟨a0, vs, vx, rfl, rfl, h2, by rw [h3.length]; exact hz, w _ _ _ _ (A1.trans A).s⟩
      · cases e
    · cases e
  · cases e
/-- x.extend(e), e a list -/
theorem s_ext {i : Nat} {x : Str} (hN : X.N[i]? = some x) (hv : Vis X.env.scope x) (hd : (x == ("__debug__" : Str)) = false) (hcd : (x == ("__classdict__" : Str)) = false) (ha : PE X a (rdV X.K (evE cl xa))) (hs : notStar a = true) (hl : (apos.endLine == cpos.line) = true) :
    PS X (.Expr (.Call (.Attribute (.Name x p) "extend" apos) [a] [] cpos) pos) (rdS X.K (evS cl fu (.ext i xa))) := by
  refine (ps_expr (pe_bm PySem.F.plainAttrs_list PySem.F.slot_list_extend PySem.F.type_list_extend mt_extendA (pe_var hN hv hd hcd) (pa_cons ha pa_nil (starEach_cons hs)) rfl (hfew0 (by simpa using hs) (by simp)) hl (starEach_cons hs) rfl) rfl).weak fun D σ H h => ?_
  obtain ⟨S, fp, ρ, fl, r, e, w⟩ := h
  unfold evS at e
  split at e
  · rename_i hlst
    obtain ⟨b0, ts0, q9⟩ := isLst_of hlst
    obtain ⟨a0, vs0, G0, g1, g2, _, _⟩ := r.list q9
    obtain ⟨k, ρ1, e1, e⟩ := bnd_eq e
    split at e
    · rename_i ds b ts q0
      split at e
      · rename_i hz
        cases e
        refine ⟨_, g1, .inl ⟨rfl, _, .inl (.inl g2)⟩, S, fp, ρ, _, ρ1, r, e1, fun S1 fp1 vx H1 A1 o1 => ?_⟩
        obtain ⟨l, vs, G', h1, h2, h3, h4⟩ := A1.rs.list q0
        rw [g1] at h1
        cases h1
        have o1 : Rep X.K S1 H1 vx (.list ds) := o1
        cases o1 with
        | lst la rr =>
          have A := h4 _ _ G' (fun _ h => h) (h3.more rr)
          exact ⟨a0, _, vs, _, rfl, rfl, h2, la.sq, by rw [h3.length, rr.length]; exact hz, w _ _ _ _ (A1.trans A).s⟩
      · cases e
    · cases e
  · cases e
/-- x.insert(k, e) -/
theorem s_ins {i : Nat} {x : Str} {k : Expr} (hN : X.N[i]? = some x) (hv : Vis X.env.scope x) (hd : (x == ("__debug__" : Str)) = false) (hcd : (x == ("__classdict__" : Str)) = false) (hk : PE X k (rdV X.K (evE cl xk))) (ha : PE X a (rdV X.K (evE cl xa))) (hs : notStar a = true) (hsk : notStar k = true) (hl : (apos.endLine == cpos.line) = true) :
    PS X (.Expr (.Call (.Attribute (.Name x p) "insert" apos) [k, a] [] cpos) pos) (rdS X.K (evS cl fu (.ins i xk xa))) := by
  refine (ps_expr (pe_bm PySem.F.plainAttrs_list PySem.F.slot_list_insert PySem.F.type_list_insert mt_insert (pe_var hN hv hd hcd) (pa_cons hk (pa_cons ha pa_nil (starEach_cons hs)) (starEach_cons hsk)) rfl (hfew0 (by simp [hs, hsk]) (by simp)) hl (starEach_cons hsk) (starEach_none (by simp [hs]))) rfl).weak fun D σ H h => ?_
  obtain ⟨S, fp, ρ, fl, r, e, w⟩ := h
  unfold evS at e
  split at e
  · rename_i hlst
    obtain ⟨b0, ts0, q9⟩ := isLst_of hlst
    obtain ⟨a0, vs0, G0, g1, g2, _, _⟩ := r.list q9
    obtain ⟨y, ρ1, e1, e⟩ := bnd_eq e
    obtain ⟨z, ρ2, e2, e⟩ := bnd_eq e
    split at e
    · rename_i d n0 b ts q0 _
      split at e
      · rename_i hz
        cases e
        refine ⟨_, g1, .inl ⟨rfl, _, .inl (.inl g2)⟩, S, fp, ρ, _, ρ1, r, e1, fun S1 fp1 vy H1 A1 o1 => ⟨S1, fp1, ρ1, _, ρ2, A1.rs, e2, fun S2 fp2 vx H2 A2 o2 => ?_⟩⟩
        have o1 : Rep X.K S1 H1 vy (.int n0) := o1
        cases o1
        obtain ⟨l, vs, G', h1, h2, h3, h4⟩ := A2.rs.list q0
        rw [g1] at h1
        cases h1
        have A := h4 _ _ G' (fun _ h => h) (h3.insert o2 n0.toNat)
        have hs := sizeLine_eq
        exact ⟨a0, vs, n0, vx, rfl, rfl, h2, by rw [h3.length]; exact hz.1, hz.2.1, by have := hz.1; have := hz.2.2; omega, w _ _ _ _ ((A1.trans A2).trans A).s⟩
      · cases e
    · cases e
  · cases e
end
end Pv

set_option Elab.async false
set_option linter.all false
set_option maxRecDepth 100000
set_option maxHeartbeats 4000000
/-! loops, comprehensions -/
namespace Pv
open PySem L2

/-- an iterable that yields these data, whatever is done meanwhile to what is not shared -/
def ItOk (K : PySem.W.Frag) (S : Addr → Prop) (H : Hp) (J : L2.It) (ds : List D) : Prop := ∀ S' H', Ext S H S' H' →
  (∀ i d, ds[i]? = some d → J.go i H' ∧ ∀ x H'', J.yld i H' x H'' → ∃ S'', Al S' H' S'' H'' ∧ Rep K S'' H'' x d) ∧ J.stop ds.length H'
def rdI (K : PySem.W.Frag) (ev : Env → Res (List D)) : TI := fun σ H R => ∃ S fp ρ ds ρ', RS K S σ H ρ fp ∧ ev ρ = some (ds, ρ') ∧ ∀ S' fp' H' J, Aft K σ S fp H ρ S' fp' H' ρ' → ItOk K S' H' J ds → R J H'
section
variable {K : PySem.W.Frag} {S S1 S' S2 : Addr → Prop} {H H1 H' H2 : Hp} {fp fp1 fp' : Nat → Fp} {σ σ1 σ' : L2.St} {ρ ρ1 ρ' : Env} {v : V} {J : L2.It} {ds : List D}
theorem ItOk.mono (h : ItOk K S H J ds) (e : Ext S H S' H') : ItOk K S' H' J ds := fun S2 H2 e2 => h S2 H2 (e.trans e2)
theorem AftS.al (a : AftS K S fp H ρ σ S1 fp1 H1 ρ1 σ1) (b : Al S1 H1 S' H') : AftS K S fp H ρ σ S' fp1 H' ρ1 σ1 := ⟨a.fr.trans b.fr, a.bk, a.rs.al b⟩
theorem AftS.ext (a : AftS K S fp H ρ σ S1 fp1 H1 ρ1 σ1) (r : RS K S σ H ρ fp) : Ext S H S1 H1 := r.ext a.fr
end
section
variable {X : Cx} {cl : Cl} {fu : Nat} {tg iter : Expr} {body : List Stmt} {pos : Pos} {t : Tg} {it : Pv.It} {sb : St} {c : Expr} {xc : Ex}
theorem s_for (hp : PassesOwn (model X.prog X.w) X.A X.env X.xe) (hc : X.calm = true) (hi : PI X tg iter (rdI X.K (evI cl it))) (hg : PG X tg (rgT X.K t)) (hb : PSs X body (rdS X.K (evS cl fu sb)))
    (hs : ∀ x, foldedSetIterable iter X.env x = pure x) : PS X (.For tg iter body [] pos) (rdS X.K (evS cl fu (.for_ t it sb))) := by
  refine (ps_for hp hc hi hg hb hs).weak fun D σ H h => ?_
  obtain ⟨S, fp, ρ, fl, r, e, w⟩ := h
  unfold evS at e
  obtain ⟨ds, ρ1, e1, e⟩ := bnd_eq e
  refine ⟨S, fp, ρ, ds, ρ1, r, e1, fun S1 fp1 H1 J A1 ok => ?_⟩
  refine ⟨fun i m σ' H' => m = ds.length - i ∧ i ≤ ds.length ∧ ∃ S' fp' ρ', AftS X.K S fp H ρ σ S' fp' H' ρ' σ' ∧ Ext S1 H1 S' H' ∧ forE (evS cl fu sb) t (ds.drop i) ρ' = some fl,
    ⟨ds.length, by simp, Nat.zero_le _, S1, fp1, ρ1, A1.s, Ext.refl, by simpa using e⟩, ?_⟩
  rintro i m σ' H' ⟨rfl, hi, S', fp', ρ', A, ex, ef⟩
  obtain ⟨ok1, ok2⟩ := ok S' H' ex
  by_cases hlt : i < ds.length
  · have hdrop : ds.drop i = ds[i] :: ds.drop (i + 1) := List.drop_eq_getElem_cons hlt
    rw [hdrop] at ef
    unfold forE at ef
    obtain ⟨go, yl⟩ := ok1 i ds[i] (by simp [hlt])
    cases q1 : tgE ρ' t ds[i] with
    | none => rw [q1] at ef; cases ef
    | some ρ2 =>
      rw [q1] at ef
      simp only at ef
      refine .inr ⟨go, fun σ3 H3 => ∃ S3 fp3 ρ3, AftS X.K S fp H ρ σ S3 fp3 H3 ρ3 σ3 ∧ Ext S1 H1 S3 H3 ∧ forE (evS cl fu sb) t (ds.drop (i + 1)) ρ3 = some fl, fun σ3 H3 ⟨S3, fp3, ρ3, A3, ex3, ef3⟩ => ⟨ds.length - (i + 1), by omega, rfl, by omega, S3, fp3, ρ3, A3, ex3, ef3⟩, fun x H'' y => ?_⟩
      obtain ⟨S2, al, rx⟩ := yl x H'' y
      have A2 := A.al al
      refine ⟨S2, fp', ρ', ds[i], ρ2, A2.rs, rx, q1, fun fp3 σ3 A3 _ => ?_⟩
      cases q2 : evS cl fu sb ρ2 with
      | none => rw [q2] at ef; cases ef
      | some f2 =>
        rw [q2] at ef
        refine ⟨S2, fp3, ρ2, f2, A3.rs, q2, ?_⟩
        have ex2 : Ext S1 H1 S2 H'' := ex.trans al.ext
        cases f2 with
        | nx ρ3 => exact fun S4 fp4 H4 σ4 A4 => ⟨S4, fp4, ρ3, (A2.trans A3).trans A4, ex2.trans (A4.ext A3.rs), ef⟩
        | cont ρ3 => exact fun S4 fp4 H4 σ4 A4 => ⟨S4, fp4, ρ3, (A2.trans A3).trans A4, ex2.trans (A4.ext A3.rs), ef⟩
        | brk ρ3 =>
          cases ef
          exact fun S4 fp4 H4 σ4 A4 => w _ _ _ _ ((A2.trans A3).trans A4)
        | ret u ρ3 =>
          cases ef
          exact Wish.after (A2.trans A3) w
  · have hi' : i = ds.length := by omega
    subst hi'
    rw [List.drop_length] at ef
    unfold forE at ef
    cases ef
    exact .inl ⟨ok2, w _ _ _ _ A⟩
theorem s_whl (hp : PassesOwn (model X.prog X.w) X.A X.env X.xe) (hc : PT X c (rdT X.K (evT cl xc))) (hb : PSs X body (rdS X.K (evS cl fu sb))) : PS X (.While c body [] pos) (rdS X.K (evS cl fu (.whl xc sb))) := by
  refine (ps_while hp hc hb).weak fun D σ H h => ?_
  obtain ⟨S, fp, ρ, fl, r, e, w⟩ := h
  unfold evS at e
  refine ⟨fun n σ' H' => ∃ S' fp' ρ', AftS X.K S fp H ρ σ S' fp' H' ρ' σ' ∧ whlE (evT cl xc) (evS cl fu sb) n ρ' = some fl, ⟨fu, S, fp, ρ, AftS.refl r, e⟩, ?_⟩
  rintro n σ' H' ⟨S', fp', ρ', A, ef⟩
  cases n with
  | zero => unfold whlE at ef; cases ef
  | succ n =>
    unfold whlE at ef
    cases q1 : evT cl xc ρ' with
    | none => rw [q1] at ef; cases ef
    | some p =>
      obtain ⟨k, ρ1⟩ := p
      rw [q1] at ef
      refine ⟨S', fp', ρ', k, ρ1, A.rs, q1, fun S1 fp1 H1 A1 => ?_⟩
      cases k with
      | false =>
        cases ef
        exact w _ _ _ _ (A.trans A1.s)
      | true =>
        simp only at ef
        cases q2 : evS cl fu sb ρ1 with
        | none => rw [q2] at ef; cases ef
        | some f2 =>
          rw [q2] at ef
          refine ⟨fun σ3 H3 => ∃ S3 fp3 ρ3, AftS X.K S fp H ρ σ S3 fp3 H3 ρ3 σ3 ∧ whlE (evT cl xc) (evS cl fu sb) n ρ3 = some fl, fun σ3 H3 z => ⟨n, Nat.lt_succ_self _, z⟩, S1, fp1, ρ1, f2, A1.rs, q2, ?_⟩
          have A2 := A.trans A1.s
          cases f2 with
          | nx ρ3 => exact fun S4 fp4 H4 σ4 A4 => ⟨S4, fp4, ρ3, A2.trans A4, ef⟩
          | cont ρ3 => exact fun S4 fp4 H4 σ4 A4 => ⟨S4, fp4, ρ3, A2.trans A4, ef⟩
          | brk ρ3 =>
            cases ef
            exact fun S4 fp4 H4 σ4 A4 => w _ _ _ _ (A2.trans A4)
          | ret u ρ3 =>
            cases ef
            exact Wish.after A2 w
end

/-! ### comprehensions: the block's own names -/
section
variable {K : PySem.W.Frag} {S S1 S' S2 : Addr → Prop} {H H1 H' H2 : Hp} {fp fp1 fp' : Nat → Fp} {σ σ1 σ' : L2.St} {ρ ρ1 ρ' : Env}
theorem wipeE_len : ∀ vs : List Nat, (wipeE ρ vs).length = ρ.length
  | [] => rfl
  | v :: vs => by unfold wipeE; rw [List.length_set, wipeE_len vs]
theorem wipeE_get {i : Nat} : ∀ {vs : List Nat}, i ∉ vs → (wipeE ρ vs)[i]? = ρ[i]?
  | [], _ => rfl
  | v :: vs, h => by
    unfold wipeE
    rw [List.getElem?_set_ne (fun z => h (by rw [z]; exact List.mem_cons_self)), wipeE_get (fun z => h (List.mem_cons_of_mem _ z))]
theorem wipe_get {i : Nat} : ∀ {vs : List Nat}, i ∉ vs → (wipe σ vs)[i]? = σ[i]?
  | [], _ => rfl
  | v :: vs, h => by
    unfold wipe
    rw [List.getElem?_set_ne (fun z => h (by rw [z]; exact List.mem_cons_self)), wipe_get (fun z => h (List.mem_cons_of_mem _ z))]
theorem wipe_in {i : Nat} : ∀ {vs : List Nat}, i ∈ vs → i < σ.length → (wipe σ vs)[i]? = some none
  | v :: vs, h, hl => by
    unfold wipe
    by_cases hi : i = v
    · subst hi; rw [List.getElem?_set_self (by rw [wipe_length]; exact hl)]
    · rw [List.getElem?_set_ne (Ne.symm hi)]
      exact wipe_in ((List.mem_cons.mp h).resolve_left hi) hl
theorem wipeE_in {i : Nat} : ∀ {vs : List Nat}, i ∈ vs → i < ρ.length → (wipeE ρ vs)[i]? = some Slot.non
  | v :: vs, h, hl => by
    unfold wipeE
    by_cases hi : i = v
    · subst hi; rw [List.getElem?_set_self (by rw [wipeE_len]; exact hl)]
    · rw [List.getElem?_set_ne (Ne.symm hi)]
      exact wipeE_in ((List.mem_cons.mp h).resolve_left hi) hl
theorem wipe_agree {vs : List Nat} (hl : σ'.length = σ.length) (h : ∀ j, j ∉ vs → σ'[j]? = σ[j]?) : wipe σ' vs = wipe σ vs := by
  apply List.ext_getElem?
  intro i
  by_cases hi : i ∈ vs
  · by_cases hb : i < σ.length
    · rw [wipe_in hi hb, wipe_in hi (by rw [hl]; exact hb)]
    · rw [List.getElem?_eq_none (by rw [wipe_length, hl]; omega), List.getElem?_eq_none (by rw [wipe_length]; omega)]
  · rw [wipe_get hi, wipe_get hi, h i hi]
theorem RS.wipe (r : RS K S σ H ρ fp) : ∀ vs : List Nat, ∃ fp', RS K S (wipe σ vs) H (wipeE ρ vs) fp' ∧ ∀ i a, fp' i a → fp i a
  | [] => ⟨fp, r, fun _ _ h => h⟩
  | v :: vs => by
    obtain ⟨fp1, r1, h1⟩ := RS.wipe r vs
    refine ⟨setF fp1 v fun _ => False, r1.drop none, fun i a h => ?_⟩
    by_cases hi : i = v
    · subst hi; rw [setF_same] at h; exact h.elim
    · rw [setF_ne hi] at h; exact h1 i a h
/-- a state by another one's values: where they part the slot is empty -/
theorem RS.agree (r : RS K S σ H ρ fp) (hl : σ'.length = σ.length) (h : ∀ i : Nat, ρ[i]? = some Slot.non ∨ σ'[i]? = σ[i]?) : RS K S σ' H ρ fp := by
  refine ⟨r.len.trans hl.symm, r.live, fun i s e => ?_, r.out, r.dis, r.lim⟩
  have q := r.slot i s e
  rcases h i with z | z
  · rw [z] at e
    cases e
    exact q
  · rw [z]; exact q
theorem Fr.less {w : Bool} (f : Fr w S fp H S1 fp1 H1) (h : ∀ i a, fp' i a → fp1 i a) : Fr w S fp H S1 fp' H1 := ⟨f.keep, f.live, f.sub, f.newS, fun i a g => f.newF i a (h i a g)⟩
theorem bk_wipe {vs : List Nat} : Bk ρ (wipeE ρ vs) := fun i t h => by
  by_cases hi : i ∈ vs
  · by_cases hb : i < ρ.length
    · rw [wipeE_in hi hb] at h; cases h
    · rw [List.getElem?_eq_none (by rw [wipeE_len]; omega)] at h; cases h
  · rw [wipeE_get hi] at h; exact ⟨t, h⟩
/-- the block's empty slots -/
theorem Aft.wiped (r : RS K S σ H ρ fp) (vs : List Nat) : ∃ fp', Aft K σ S fp H ρ S fp' H (wipeE ρ vs) ∧ Fr true S fp H S fp' H ∧ RS K S (wipe σ vs) H (wipeE ρ vs) fp' := by
  obtain ⟨fp', r', h⟩ := r.wipe vs
  have f : Fr true S fp H S fp' H := Fr.less Fr.refl h
  refine ⟨fp', ⟨f, bk_wipe, r'.agree (wipe_length σ vs).symm fun i => ?_⟩, f, r'⟩
  by_cases hi : i ∈ vs
  · by_cases hb : i < ρ.length
    · exact .inl (wipeE_in hi hb)
    · exact .inr (by rw [List.getElem?_eq_none (by rw [← r.len]; omega), List.getElem?_eq_none (by rw [wipe_length, ← r.len]; omega)])
  · exact .inr (wipe_get hi).symm
/-- an object that is no one's stays so -/
structure Mine (S : Addr → Prop) (fp : Nat → Fp) (H : Hp) (D : Addr) (o : HO) : Prop where
  at_ : H D = some o
  ns : ¬ S D
  nf : ∀ i, ¬ fp i D
theorem Mine.fr {D : Addr} {o : HO} (m : Mine S fp H D o) (f : Fr true S fp H S' fp' H') : Mine S' fp' H' D o := by
  refine ⟨f.keep D o m.at_ fun _ => m.nf, fun s => ?_, fun i g => ?_⟩
  · rcases f.newS D s with z | ⟨i, z⟩ | z
    · exact m.ns z
    · exact m.nf i z
    · rw [m.at_] at z; cases z
  · rcases f.newF i D g with ⟨j, z⟩ | z
    · exact m.nf j z
    · rw [m.at_] at z; cases z
/-- .. it is written -/
theorem Mine.put {D : Addr} {o u : HO} (m : Mine S fp H D o) (r : RS K S σ H ρ fp) : RS K S σ (upd H D u) ρ fp ∧ Mine S fp (upd H D u) D u ∧ Ext S H S (upd H D u) := by
  have ex : Ext S H S (upd H D u) := ⟨fun a o s e => by rw [upd_ne (fun z => m.ns (by rw [← z]; exact s))]; exact e, fun _ s => s⟩
  refine ⟨⟨r.len, fun a s => ?_, fun i s e => (r.slot i s e).mono ex fun a o g e => by rw [upd_ne (fun z => m.nf i (by rw [← z]; exact g))]; exact e, r.out, r.dis, r.lim⟩, ⟨upd_same, m.ns, m.nf⟩, ex⟩
  obtain ⟨o, e⟩ := r.live a s
  exact ⟨o, ex.keep a o s e⟩
theorem Fr.mine {S0 : Addr → Prop} {fp0 : Nat → Fp} {H0 : Hp} {D : Addr} {u : HO} (f : Fr true S0 fp0 H0 S fp H) (h : H0 D = none) : Fr true S0 fp0 H0 S fp (upd H D u) := by
  refine ⟨fun a o e k => ?_, fun a o e => ?_, f.sub, f.newS, f.newF⟩
  · rw [upd_ne (fun z => by rw [z, h] at e; cases e)]
    exact f.keep a o e k
  · obtain ⟨o', e'⟩ := f.live a o e
    by_cases ha : a = D
    · subst ha; exact ⟨_, upd_same⟩
    · exact ⟨o', by rw [upd_ne ha]; exact e'⟩
end
end Pv

set_option Elab.async false
set_option linter.all false
set_option maxRecDepth 100000
set_option maxHeartbeats 4000000
/-! comprehensions -/
namespace Pv
open PySem L2

/-- a comprehension's turn, by the evaluator -/
def eltE (cl : Cl) (c : Eo) (e : Ex) : Env → Res (Option D) := fun ρ => bnd (evC cl c ρ) fun k ρ => match k with
  | true => bnd (evE cl e ρ) fun x ρ => giv (x.st.map some) ρ
  | false => some (none, ρ)
theorem putE_len {ρ ρ' : Env} {i : Nat} {d : D} (e : putE ρ i d = some ρ') : ρ'.length = ρ.length := by
  unfold putE at e
  split at e
  · cases e; rw [List.length_set]
  · cases e
theorem putsE_lenE : ∀ {is : List Nat} {ds : List D} {ρ ρ' : Env}, putsE ρ is ds = some ρ' → ρ'.length = ρ.length
  | [], [], _, _, e => by cases e; rfl
  | i :: is, d :: ds, ρ, ρ', e => by
    unfold putsE at e
    cases e1 : putE ρ i d with
    | none => rw [e1] at e; cases e
    | some ρ1 => rw [e1] at e; rw [putsE_lenE (show putsE ρ1 is ds = some ρ' from e), putE_len e1]
  | [], _ :: _, _, _, e => by unfold putsE at e; cases e
  | _ :: _, [], _, _, e => by unfold putsE at e; cases e
theorem tgE_len {t : Tg} {ρ ρ' : Env} {d : D} (e : tgE ρ t d = some ρ') : ρ'.length = ρ.length := by
  unfold tgE at e
  split at e
  · exact putE_len e
  · exact putsE_lenE e
  · cases e
section
variable {K : PySem.W.Frag} {cl : Cl} {it : Pv.It} {t : Tg} {c : Eo} {xe : Ex} {σ : L2.St} {H : Hp} {Q : VK} {S : Addr → Prop} {fp : Nat → Fp} {ρ ρ1 ρ2 : Env} {ds ys : List D}
theorem comp_core (r : RS K S σ H ρ fp) (e1 : evI cl it ρ = some (ds, ρ1)) (e2 : compE (eltE cl c xe) t t.slots ds [] ρ1 = some (ys, ρ2))
    (q : ∀ S' fp' H' D vs, Aft K σ S fp H ρ S' fp' H' (wipeE ρ2 t.slots) → Reps K S' H' vs ys → Mine S' fp' H' D (.lst vs) → H D = none → Q (.ref D) H') :
    tLc (rdI K (evI cl it)) (rgT K t) (rdT K (evC cl c)) (rdV K (evE cl xe)) t.slots σ H Q := by
  refine ⟨S, fp, ρ, ds, ρ1, r, e1, fun S1 fp1 H1 J A1 ok D hD => ?_⟩
  have hD0 : H D = none := none_of_live A1.fr.live hD
  have kp := upd_grow (H := H1) (p := D) (u := HO.lst []) hD
  have A0 : Aft K σ S1 fp1 H1 ρ1 S1 fp1 (upd H1 D (.lst [])) ρ1 := ⟨Fr.grow kp (fun _ s => s) fun a s => .inl s, Bk.refl, A1.rs.grow kp (fun _ s => s) fun a s => .inl s⟩
  have M0 : Mine S1 fp1 (upd H1 D (.lst [])) D (.lst []) := ⟨upd_same, fun s => (by obtain ⟨o, eo⟩ := A1.rs.live D s; rw [hD] at eo; cases eo), fun i g => (by obtain ⟨o, eo⟩ := A1.rs.flive i D g; rw [hD] at eo; cases eo)⟩
  refine ⟨fun i m H' => m = ds.length - i ∧ i ≤ ds.length ∧ ∃ S' fp' ρ' acc vs, Aft K σ S fp H ρ S' fp' H' ρ' ∧ Ext S1 H1 S' H' ∧ Reps K S' H' vs acc ∧ Mine S' fp' H' D (.lst vs) ∧ compE (eltE cl c xe) t t.slots (ds.drop i) acc ρ' = some (ys, ρ2),
    ⟨ds.length, by simp, Nat.zero_le _, S1, fp1, ρ1, [], [], A1.trans A0, ⟨fun a o _ e => kp a o e, fun _ s => s⟩, .nil, M0, by simpa using e2⟩, ?_⟩
  rintro i m H' ⟨rfl, hi, S', fp', ρ', acc, vs, A, ex, rr, M, ec⟩
  obtain ⟨ok1, ok2⟩ := ok S' H' ex
  by_cases hlt : i < ds.length
  · have hdrop : ds.drop i = ds[i] :: ds.drop (i + 1) := List.drop_eq_getElem_cons hlt
    rw [hdrop] at ec
    unfold compE at ec
    obtain ⟨go, yl⟩ := ok1 i ds[i] (by simp [hlt])
    cases q1 : tgE (wipeE ρ' t.slots) t ds[i] with
    | none => rw [q1] at ec; cases ec
    | some ρ3 =>
      rw [q1] at ec
      simp only at ec
      obtain ⟨o, ρ4, ee, ec⟩ := bnd_eq ec
      unfold eltE at ee
      obtain ⟨k, ρ5, e5, ee⟩ := bnd_eq ee
      refine .inr ⟨go, fun H3 => ∃ S3 fp3 ρ3 acc3 vs3, Aft K σ S fp H ρ S3 fp3 H3 ρ3 ∧ Ext S1 H1 S3 H3 ∧ Reps K S3 H3 vs3 acc3 ∧ Mine S3 fp3 H3 D (.lst vs3) ∧ compE (eltE cl c xe) t t.slots (ds.drop (i + 1)) acc3 ρ3 = some (ys, ρ2),
        fun H3 z => ⟨ds.length - (i + 1), by omega, rfl, by omega, z⟩, fun x H'' y => ?_⟩
      obtain ⟨S2, al, rx⟩ := yl x H'' y
      have A2 := A.al al
      have M2 : Mine S2 fp' H'' D (.lst vs) := M.fr (Al.fr al)
      obtain ⟨fpw, Aw, fw, rw'⟩ := Aft.wiped A2.rs t.slots
      have Mw : Mine S2 fpw H'' D (.lst vs) := M2.fr fw
      refine ⟨S2, fpw, _, ds[i], ρ3, rw', rx, q1, fun fp4 σ4 A4 hσ => ?_⟩
      have hl4 : σ4.length = σ.length := by
        rw [← A4.rs.len, tgE_len q1, wipeE_len, A2.rs.len]
      have hw : wipe σ4 t.slots = wipe σ t.slots := wipe_agree hl4 fun j hj => (hσ j hj).trans (wipe_get hj)
      refine ⟨hw, S2, fp4, ρ3, k, ρ5, A4.rs, e5, fun S5 fp5 H5 A5 => ?_⟩
      -- the state behind a turn, by the outer values
      have back : ∀ {S6 fp6 H6 ρ6}, RS K S6 σ4 H6 ρ6 fp6 → Fr true S2 fpw H'' S6 fp6 H6 → Bk (wipeE ρ' t.slots) ρ6 → ∃ fp7, Aft K σ S fp H ρ S6 fp7 H6 (wipeE ρ6 t.slots) ∧ Fr true S2 fpw H'' S6 fp7 H6 := by
        intro S6 fp6 H6 ρ6 r6 f6 b6
        obtain ⟨fp7, r7, h7⟩ := r6.wipe t.slots
        rw [hw] at r7
        have f7 : Fr true S2 fpw H'' S6 fp7 H6 := f6.less h7
        refine ⟨fp7, ⟨(A2.fr.trans fw).trans f7, (A2.bk.trans bk_wipe).trans (b6.trans bk_wipe), r7.agree (wipe_length σ _).symm fun j => ?_⟩, f7⟩
        by_cases hj : j ∈ t.slots
        · by_cases hb : j < ρ6.length
          · exact .inl (wipeE_in hj hb)
          · have hb' : σ.length ≤ j := by rw [← hl4, ← r6.len]; omega
            exact .inr (by rw [List.getElem?_eq_none hb', List.getElem?_eq_none (by rw [wipe_length]; exact hb')])
        · exact .inr (wipe_get hj).symm
      have b3 : Bk (wipeE ρ' t.slots) ρ3 := fun j u h => (A4.bk j u h).1
      have f5 : Fr true S2 fpw H'' S5 fp5 H5 := A4.fr.trans A5.fr
      cases k with
      | false =>
        cases ee
        show ∃ S3 fp3 ρ3 acc3 vs3, _
        obtain ⟨fp7, A7, f7⟩ := back A5.rs f5 (b3.trans A5.bk)
        have ex7 : Ext S2 H'' S5 H5 := rw'.ext f7
        exact ⟨S5, fp7, _, acc, vs, A7, (ex.trans al.ext).trans ex7, rr.mono (al.ext.trans ex7), Mw.fr f7, ec⟩
      | true =>
        obtain ⟨z, ρ6, e6, ee⟩ := bnd_eq ee
        obtain ⟨ee, rfl⟩ := giv_eq ee
        show rdV K (evE cl xe) σ4 H5 _
        refine ⟨S5, fp5, ρ5, z, _, A5.rs, e6, fun S6 fp6 y6 H6 A6 o6 => ?_⟩
        cases hz : z.st with
        | none => rw [hz] at ee; cases ee
        | some d6 =>
          rw [hz] at ee
          cases ee
          simp only at ec
          split at ec
          · rename_i hsz
            have f6 : Fr true S2 fpw H'' S6 fp6 H6 := f5.trans A6.fr
            obtain ⟨fp7, A7, f7⟩ := back A6.rs f6 ((b3.trans A5.bk).trans A6.bk)
            have ex7 : Ext S2 H'' S6 H6 := rw'.ext f7
            have M7 := Mw.fr f7
            obtain ⟨r8, M8, ex8⟩ := M7.put (u := .lst (vs ++ [y6])) A7.rs
            have rr7 : Reps K S6 H6 vs acc := rr.mono (al.ext.trans ex7)
            refine ⟨vs, M7.at_, by rw [rr.length]; exact hsz, S6, fp7, _, acc ++ [d6], vs ++ [y6], ⟨A7.fr.mine hD0, A7.bk, r8⟩, ((ex.trans al.ext).trans ex7).trans ex8, (rr7.mono ex8).append (.cons ((o6.strong hz).mono ex8) .nil), M8, ec⟩
          · cases ec
  · have hi' : i = ds.length := by omega
    subst hi'
    rw [List.drop_length] at ec
    unfold compE at ec
    cases ec
    obtain ⟨fp7, A7, f7, _⟩ := Aft.wiped A.rs t.slots
    exact .inl ⟨ok2, q S' fp7 H' D vs (A.trans A7) rr (M.fr f7) hD0⟩
/-- what is no one's is shared -/
theorem Mine.share {S1 : Addr → Prop} {fp1 : Nat → Fp} {H1 : Hp} {D : Addr} {u : HO} (m : Mine S1 fp1 H1 D u) (A : Aft K σ S fp H ρ S1 fp1 H1 ρ1) (h : H D = none) : Aft K σ S fp H ρ (Sp1 S1 D) fp1 H1 ρ1 := by
  refine ⟨⟨A.fr.keep, A.fr.live, fun a s => .inl (A.fr.sub a s), fun a s => s.elim (A.fr.newS a) fun z => by subst z; exact .inr (.inr h), A.fr.newF⟩, A.bk,
    ⟨A.rs.len, fun a s => s.elim (A.rs.live a) fun z => by subst z; exact ⟨_, m.at_⟩, fun i s e => (A.rs.slot i s e).mono ⟨fun _ _ _ e => e, fun _ s => .inl s⟩ fun _ _ _ e => e, fun i a g s => s.elim (A.rs.out i a g) fun z => by subst z; exact m.nf i g, A.rs.dis, A.rs.lim⟩⟩
theorem Mine.rep {S1 : Addr → Prop} {fp1 : Nat → Fp} {H1 : Hp} {D : Addr} {vs : List V} {ds : List Pv.D} (m : Mine S1 fp1 H1 D (.lst vs)) (r : Reps K S1 H1 vs ds) : Rep K (Sp1 S1 D) H1 (.ref D) (.list ds) :=
  .lst (.inl ⟨.inr rfl, .inl m.at_⟩) (r.mono ⟨fun _ _ _ e => e, fun _ s => .inl s⟩)
theorem Mine.hand {S1 : Addr → Prop} {fp1 : Nat → Fp} {H1 : Hp} {D : Addr} {vs : List V} {ds : List Pv.D} (m : Mine S1 fp1 H1 D (.lst vs)) (r : Reps K S1 H1 vs ds) : Hand K S1 fp1 H1 (.ref D) (.lst (ds.map .sh)) (fun a => a = D) := by
  refine ⟨?_, fun a g => by subst g; exact m.ns, fun i a g => by subst g; exact m.nf i⟩
  unfold RepO
  exact ⟨D, vs, fun _ => False, rfl, m.at_, fun h => h, fun x => by simp, RepOs.of_sh r⟩
end
section
variable {X : Cx} {cl : Cl} {fu : Nat} {tg iter elt cnd : Expr} {pos spos py : Pos} {t : Tg} {it : Pv.It} {xc : Eo} {xe xt : Ex} {ifs : List Expr} {scope : Scope} {own : List (Str × Nat)}
theorem _root_.L2.PTs.weak {e : List Expr} {t t' : TT} (h : PTs X e t) (w : ∀ σ H Q, t' σ H Q → t σ H Q) : PTs X e t' := ⟨fun pins s σ H Q I q => h.run pins s σ H Q I (w σ H Q q)⟩
theorem s_cno : PTs X [] (rdT X.K (evC cl .no)) := pts_nil.weak fun σ H Q h => by
  obtain ⟨S, fp, ρ, k, ρ', r, e, q⟩ := h
  unfold evC at e
  cases e
  exact q _ _ H (Aft.refl r)
theorem s_cyes (h : PT X cnd (rdT X.K (evT cl xt))) : PTs X [cnd] (rdT X.K (evC cl (.yes xt))) := (pts_one h).weak fun σ H Q h => by
  obtain ⟨S, fp, ρ, k, ρ', r, e, q⟩ := h
  unfold evC at e
  exact ⟨S, fp, ρ, k, ρ', r, e, q⟩
theorem evE_comp (ρ : Env) : evE cl (.comp t it xc xe) ρ = bnd (evI cl it ρ) fun ds ρ => bnd (compE (eltE cl xc xe) t t.slots ds [] ρ) fun ys ρ => some (.dat (.list ys), wipeE ρ t.slots) := by
  rw [evE]
  rfl
theorem comp_sh {σ : L2.St} {H : Hp} {Q : VK} (h : rdV X.K (evE cl (.comp t it xc xe)) σ H Q) : tLc (rdI X.K (evI cl it)) (rgT X.K t) (rdT X.K (evC cl xc)) (rdV X.K (evE cl xe)) t.slots σ H Q := by
  obtain ⟨S, fp, ρ, av, ρ', r, e, q⟩ := h
  rw [evE_comp] at e
  obtain ⟨ds, ρ1, e1, e⟩ := bnd_eq e
  obtain ⟨ys, ρ2, e2, e⟩ := bnd_eq e
  cases e
  exact comp_core r e1 e2 fun S' fp' H' D vs A rr M hD => q _ _ _ _ (M.share A hD) (M.rep rr)
theorem s_comp (hc : X.calm = true) (hN : X.N.Nodup) (hi : PI X tg iter (rdI X.K (evI cl it))) (ok : BlkOk X.N X.env.scope scope own) (ho : own.map (·.2) = t.slots)
    (hg : ∀ (s : Shared) (H : Hp) (C : Addr) (cls : List (Str × Addr)) (fp : List Addr), PG (X.blk s H scope (compEnvC scope cls C X.env) fp) tg (rgT X.K t))
    (ht : ∀ (s : Shared) (H : Hp) (C : Addr) (cls : List (Str × Addr)) (fp : List Addr), PTs (X.blk s H scope (compEnvC scope cls C X.env) fp) ifs (rdT X.K (evC cl xc)))
    (he : ∀ (s : Shared) (H : Hp) (C : Addr) (cls : List (Str × Addr)) (fp : List Addr), PE (X.blk s H scope (compEnvC scope cls C X.env) fp) elt (rdV X.K (evE cl xe)))
    (hs : ∀ x, foldedSetIterable iter X.env x = pure x) : PE X (.ListComp elt [⟨tg, iter, ifs, 0⟩] scope pos) (rdV X.K (evE cl (.comp t it xc xe))) := by
  refine (pe_lc hc hN hi ok hg ht he hs).weak fun σ H Q h => ?_
  rw [ho]
  exact comp_sh h
end
end Pv

set_option Elab.async false
set_option linter.all false
set_option maxRecDepth 100000
set_option maxHeartbeats 4000000
/-! iterables; lists as one's own -/
namespace Pv
open PySem L2 PyProof.Rows

/-! ### enumerate of a tuple -/
set_option maxHeartbeats 1000000 in
theorem meets_enumerate_newB1 {v : Value} {o : Obj} {H : Heap → Prop} (B : Begins v o H) :
    Meets (Builtin.«enumerate.__new__» ⟨[.type "enumerate", v], []⟩) (fun _ R s => H s.heap ∧
      R (.ok (.ret (.ref (s.heap.push o).objs.size))) { s with heap := (s.heap.push o).push { cls := .type "enumerate", data := .fields #[.none, .bool false, .ref s.heap.objs.size, rawInt 0, .none, .none] } }) :=
  .of_wp fun prog w A R s h => by
    obtain ⟨hp, g, d, tk, os⟩ := s; obtain ⟨h1, h⟩ := h
    have hsub := sub_enumerate
    have q1 : ∀ {A' : Around} {E : Value → Shared → Prop} {Q : Value → Shared → Prop}, Q (.ref hp.objs.size) ⟨hp.push o, g, d, tk, os⟩ → wpAny (model prog w) A' (pyIter v) Q E ⟨hp, g, d, tk, os⟩ :=
      fun q => B.iter prog w _ _ ⟨hp, g, d, tk, os⟩ _ h1 q
    wp_walk using q1
    refine wpAny_stack_any fun st => wpAny_pure ?_
    split
    · rename_i c _ _ _ _ _
      cases (c == Value.type "enumerate")
      · wp_walk using q1
        exact ⟨_, rfl, h⟩
      · wp_walk using q1
        exact ⟨_, rfl, h⟩
    · wp_walk using q1
      exact ⟨_, rfl, h⟩
theorem call_enumerate_tuple {prog : Program} {w : World} {A : Around} {E : Value → Shared → Prop} {s : Shared} {l : Addr} {items : Array Value} {Q : Value → Shared → Prop} (hL : s.heap.IsTuple l items)
    (h : ∀ h', IsEnum h' (s.heap.objs.size + 1) s.heap.objs.size 0 .none → h'.IsTupleIter s.heap.objs.size l 0 → h'.objs.size = s.heap.objs.size + 2 →
      (∀ b o, s.heap.get? b = some o → h'.get? b = some o) → Q (.ref (s.heap.objs.size + 1)) { s with heap := h' }) :
    wpAny (model prog w) A (call (.type "enumerate") [.ref l]) Q E s := by
  refine callType_new F.called_enumerate (by decide) (F.typeCall_enumerate_1 _) (F.newCall_enumerate_1 _) (fun obj => F.args_object_init_2 obj _) F.entry_enumerate_new
    (meets_enumerate_newB1 (begins_tuple l items)) ⟨hL, ?_⟩
  have hz : (s.heap.push { cls := .type "tuple_iterator", data := .fields #[.ref l, .int 0 0] }).objs.size = s.heap.objs.size + 1 := Heap.size_push ..
  show _ ∧ _
  rw [hz]
  have he : IsEnum ((s.heap.push { cls := .type "tuple_iterator", data := .fields #[.ref l, .int 0 0] }).push
      { cls := .type "enumerate", data := .fields #[.none, .bool false, .ref s.heap.objs.size, rawInt 0, .none, .none] }) (s.heap.objs.size + 1) s.heap.objs.size 0 .none := by
    have := Heap.get?_push_size (s.heap.push { cls := .type "tuple_iterator", data := .fields #[.ref l, .int 0 0] })
      (o := { cls := .type "enumerate", data := .fields #[.none, .bool false, .ref s.heap.objs.size, rawInt 0, .none, .none] }) rfl
    rw [hz] at this; exact this
  refine ⟨⟨_, he, rfl⟩, h _ he ⟨_, Heap.get?_push_of_some _ (Heap.get?_push_size _ rfl), rfl, rfl⟩ (by rw [Heap.size_push, hz]) fun b o x => Heap.get?_push_of_some _ (Heap.get?_push_of_some _ x)⟩
/-- the tuple at a, each item in a new pair -/
def IteT (K : PySem.W.Frag) (a : Addr) : L2.It :=
  ⟨fun i H => ∃ (xs : List V) (x : V), SqT K H a xs ∧ xs[i]? = some x, fun i H v H' => ∃ T x, v = .ref T ∧ H T = none ∧ H' = upd H T (.tup [.int (i : Nat), x]) ∧ ∀ xs, SqT K H a xs → xs[i]? = some x, fun i H => ∃ xs : List V, SqT K H a xs ∧ xs.length ≤ i⟩
theorem turn_enumT {P : Program} {w : World} {K : PySem.W.Frag} {elts : List Expr} {kk : Nat} {tpos : Pos} (a e it : Addr) (hae : a ≠ e) (hai : a ≠ it) (its : Array Value) :
    Turn P w K (.Tuple elts kk tpos) (IteT K a) [e, it] e (fun i h => (∃ old, IsEnum h e it ((i : Nat) : Int) old) ∧ h.IsTupleIter it a i ∧ e ≠ it) where
  mem := by simp
  obj := fun i h st b hb => by
    obtain ⟨⟨old, he⟩, ⟨o, ho, hc, hd⟩, _⟩ := st
    have e' : b = e ∨ b = it := by simpa using hb
    rcases e' with z | z
    · rw [z]; exact ⟨_, he, fun v q => nomatch q⟩
    · rw [z]; exact ⟨o, ho, fun v q => by rw [hd] at q; cases q⟩
  keep := fun i h h' st k => let ⟨⟨old, he⟩, hi, hne⟩ := st; ⟨⟨old, k e (by simp) _ he⟩, hi.at fun o q => k it (by simp) o q, hne⟩
  item := by
    intro X hP hw hK hc i pins s σ H E I hf st hg
    subst hP hw hK
    obtain ⟨⟨old, he⟩, hit, hne⟩ := st
    obtain ⟨xs, x, hq, hx⟩ := hg
    obtain ⟨its, rv, p, hz⟩ := I.tuple hq
    obtain ⟨u, hu, ru⟩ := rv.get hx
    have hel : e < s.heap.objs.size := Heap.lt_size he
    have hil : it < s.heap.objs.size := by obtain ⟨_, q, _⟩ := hit; exact Heap.lt_size q
    have hll : i < its.toArray.size := by
      have := (List.getElem?_eq_some_iff.mp hu).1
      simpa using this
    refine wpAny_pyNext_enum_itemD (Draws.tuple (A := X.A.in1) (I.ok.hd hc) it a hai its.toArray) he ⟨hit, tupIs p⟩ hll hne (by simp [hne, Ne.symm hae]) fun x' h' tk hP ho hit' hT hsz hk => ?_
    obtain rfl : u = x' := by
      have : its.toArray[i]? = some u := by simpa using hu
      rw [this] at hP
      exact Option.some.inj hP
    refine ⟨_, rfl, wpAny_letOwnedTupleGo_enum (s := { s with heap := h', toks := tk + 1 }) ho fun h'' he' sb => ?_⟩
    have hT2 : h''.get? s.heap.objs.size = some { cls := .type "tuple", data := .seq #[.int i tk, u] } := (sb.2 _ (Nat.ne_of_gt hel)).trans hT
    have new : ObjOk X.prog X.w (upd H s.heap.objs.size (.tup [.int (i : Nat), x])) h'' s.heap.objs.size (.tup [.int (i : Nat), x]) :=
      ⟨by show 2 ≤ sizeLine; decide, [.int i tk, u], .cons ⟨_, rfl⟩ (.cons ru .nil), ⟨_, hT2, rfl, _, rfl⟩⟩
    have I1 : Inv X pins σ (upd H s.heap.objs.size (.tup [.int (i : Nat), x])) { s with heap := h'', toks := tk + 1 } :=
      I.turnedNew (ch := [e, it]) (fun b ob hb q => (sb.2 b (fun z => hb (by simp [z]))).trans (hk b ob (fun z => hb (by simp [z])) (fun z => hb (by simp [z])) q)) hf (Nat.le_refl _) new
    refine ⟨.ref s.heap.objs.size, _, I1, rfl, ⟨_, x, rfl, I.hok.fresh (Nat.le_refl _), rfl, fun ys hy => by rw [I.tuple_inj hy hq]; exact hx⟩, ⟨⟨u, ?_⟩, hit'.1.at fun o q => (sb.2 it (Ne.symm hne)).trans q, hne⟩, fun b hb => ?_⟩
    · have e1 : ((i + 1 : Nat) : Int) = (i : Int) + 1 := by omega
      rw [e1]; exact he'
    · have hb' : b < s.heap.objs.size := by
        have e' : b = e ∨ b = it := by simpa using hb
        rcases e' with z | z
        · rw [z]; exact hel
        · rw [z]; exact hil
      rw [upd_ne (Nat.ne_of_lt hb')]
      exact (hf b hb).1
  done := by
    intro X hP hw hK hc i pins s σ H E I hf st hg
    subst hP hw hK
    obtain ⟨⟨old, he⟩, hit, hne⟩ := st
    obtain ⟨xs, hq, hx⟩ := hg
    obtain ⟨its, rv, p, hz⟩ := I.tuple hq
    obtain ⟨f0, f1, f2, f3, f4, f5⟩ := hf it (by simp)
    have hl := rv.length
    have hh := I.ok.hd hc
    have hT : s.TypeIs (.ref e) "enumerate" := ⟨_, he, rfl⟩
    unfold pyNext
    refine wpAny_bind (wpAny_attempt (wpAny_callSpecial?_slot (name := Str.ofString "__next__") hT F.slot_enumerate_next
      (wpAny_call_entry F.slot_enumerate_next hT F.entry_enumerate_next ?_ (F.args_enumerate_next_1 _))))
    show wpAny _ _ (field (.ref e) 2 >>= _) _ _ _
    refine wpAny_bind (wpAny_field he rfl (x := .ref it) rfl ?_)
    refine wpAny_bind (wpAny_nextOf_tuple_end (items := its.toArray) (by exact hh) hit (tupIs p) (by simp; omega) fun h' x he' hx' => ?_)
    obtain ⟨o, ho, hc⟩ := hx'
    refine wpAny_bind (wpAny_isInstance (T := "StopIteration") (b := true) ⟨o, ho, hc⟩ isSubtype_stop ?_)
    exact wpAny_pure ⟨rfl, I.turned (t' := s.toks) (fun b o hb q => he' b o hb q) f0 f1 f3 f4 f5⟩
  self := fun A i s Q E st h => let ⟨⟨_, he⟩, _⟩ := st; wpAny_pyIter_enum he h
/-- enumerate of a list or of a tuple -/
def iEnumA (K : PySem.W.Frag) (ta : TA) : TI := fun σ H R => ta σ H fun vs H1 => ∃ a xs, vs = [.ref a] ∧ ((SqL K H1 a xs ∧ R (Ite K a) H1) ∨ (SqT K H1 a xs ∧ R (IteT K a) H1))
theorem pi_enumA {X : Cx} {e : Expr} {ta : TA} {p pos tpos : Pos} {elts : List Expr} {kk : Nat} (hg : Gl X "enumerate") (hm : X.mg "enumerate" = none) (ha : PA X [e] ta) (hs : starEach [e] X.env = [(false, eval e X.env)]) :
    PI X (.Tuple elts kk tpos) (.Call (.Name "enumerate" p) [e] [] pos) (iEnumA X.K ta) := by
  refine ⟨fun pins s σ H R I h => ?_⟩
  refine Call_ (ld_blt I hg hm boot_enumerate (PyProof.Rows.callWith_type1 (thn (ha.run pos pins s σ H _ I h) fun us s1 ⟨vs, H1, I1, r1, q1⟩ => ?_) hs rfl))
  obtain ⟨a, xs, ex, q⟩ := q1
  subst ex
  cases r1 with
  | cons r rr =>
    cases rr
    cases r
    rcases q with ⟨hq, q⟩ | ⟨hq, q⟩
    · obtain ⟨its, rv, p', hz⟩ := I1.list hq
      refine call_enumerate_list p'.isList fun h' he hit hsz hk => wpAny_pyIter_enum he ?_
      have I2 : Inv X pins σ H1 { s1 with heap := h' } := I1.kept (t' := s1.toks) hk
      refine ⟨s1.heap.objs.size + 1, [s1.heap.objs.size + 1, s1.heap.objs.size], _, _, H1, rfl, I2, turn_enum a (s1.heap.objs.size + 1) s1.heap.objs.size, ⟨⟨.none, he⟩, hit, Nat.succ_ne_self _⟩, fun b hb => ?_, q⟩
      have e' : b = s1.heap.objs.size + 1 ∨ b = s1.heap.objs.size := by simpa using hb
      have hle : s1.heap.objs.size ≤ b := by
        rcases e' with z | z
        · rw [z]; exact Nat.le_add_right _ _
        · rw [z]; exact Nat.le_refl _
      exact I1.fpOk hle (I1.hok.fresh hle)
    · obtain ⟨its, rv, p', hz⟩ := I1.tuple hq
      have halt : a < s1.heap.objs.size := by obtain ⟨o, e, _⟩ := p'; exact Heap.lt_size e
      refine call_enumerate_tuple (tupIs p') fun h' he hit hsz hk => wpAny_pyIter_enum he ?_
      have I2 : Inv X pins σ H1 { s1 with heap := h' } := I1.kept (t' := s1.toks) hk
      refine ⟨s1.heap.objs.size + 1, [s1.heap.objs.size + 1, s1.heap.objs.size], _, _, H1, rfl, I2, turn_enumT a (s1.heap.objs.size + 1) s1.heap.objs.size (Nat.ne_of_lt (Nat.lt_succ_of_lt halt)) (Nat.ne_of_lt halt) #[], ⟨⟨.none, he⟩, hit, Nat.succ_ne_self _⟩, fun b hb => ?_, q⟩
      have e' : b = s1.heap.objs.size + 1 ∨ b = s1.heap.objs.size := by simpa using hb
      have hle : s1.heap.objs.size ≤ b := by
        rcases e' with z | z
        · rw [z]; exact Nat.le_add_right _ _
        · rw [z]; exact Nat.le_refl _
      exact I1.fpOk hle (I1.hok.fresh hle)
end Pv

set_option Elab.async false
set_option linter.all false
set_option maxRecDepth 100000
set_option maxHeartbeats 4000000
/-! iterables by the evaluator -/
namespace Pv
open PySem L2

section
variable {X : Cx} {tg e : Expr} {t1 t2 : TI}
theorem _root_.L2.PI.weak {t t' : TI} (h : PI X tg e t) (w : ∀ σ H R, t' σ H R → t σ H R) : PI X tg e t' := ⟨fun pins s σ H R I q => h.run pins s σ H R I (w σ H R q)⟩
theorem _root_.L2.PI.or (h1 : PI X tg e t1) (h2 : PI X tg e t2) : PI X tg e (fun σ H R => t1 σ H R ∨ t2 σ H R) := ⟨fun pins s σ H R I q => q.elim (h1.run pins s σ H R I) (h2.run pins s σ H R I)⟩
end
section
variable {K : PySem.W.Frag} {S : Addr → Prop} {H : Hp} {a b : Addr} {xs ys : List V} {ds es : List D}
theorem LAt.uniq (f : SqL K H a xs) (g : SqL K H a ys) (h : ∀ (xs ys : List V), SqL K H a xs → SqL K H a ys → xs = ys) : xs = ys := h _ _ f g
end
section
variable {X : Cx} {pins : List (Addr × Obj)} {s : Shared} {σ : L2.St}
end
section
variable {K : PySem.W.Frag} {S : Addr → Prop} {H : Hp} {a b : Addr} {xs ys : List V} {ds es : List D}
theorem enumD_get {i : Nat} {d : D} (h : (enumD ds)[i]? = some d) : ∃ x, ds[i]? = some x ∧ d = .tuple [.int i, x] := by
  unfold enumD at h
  rw [List.getElem?_mapIdx] at h
  cases q : ds[i]? with
  | none => rw [q] at h; cases h
  | some x => rw [q] at h; cases h; exact ⟨x, rfl, rfl⟩
theorem enumD_len : (enumD ds).length = ds.length := by unfold enumD; rw [List.length_mapIdx]
theorem zipD_get {i : Nat} {d : D} (h : (zipD ds es)[i]? = some d) : ∃ x y, ds[i]? = some x ∧ es[i]? = some y ∧ d = .tuple [x, y] := by
  unfold zipD at h
  rw [List.getElem?_map] at h
  cases q : (ds.zip es)[i]? with
  | none => rw [q] at h; cases h
  | some p =>
    rw [q] at h; cases h
    rw [List.getElem?_zip_eq_some] at q
    exact ⟨p.1, p.2, q.1, q.2, rfl⟩
theorem zipD_len : (zipD ds es).length = min ds.length es.length := by unfold zipD; rw [List.length_map, List.length_zip]
theorem rangeD_get {lo hi : Int} {i : Nat} {d : D} (h : (rangeD lo hi)[i]? = some d) : i < (hi - lo).toNat ∧ d = .int (lo + (i : Int)) := by
  unfold rangeD at h
  rw [List.getElem?_map] at h
  cases q : (List.range (hi - lo).toNat)[i]? with
  | none => rw [q] at h; cases h
  | some p =>
    rw [q] at h; cases h
    obtain ⟨h1, h2⟩ := List.getElem?_eq_some_iff.mp q
    rw [List.getElem_range] at h2
    subst h2
    rw [List.length_range] at h1
    exact ⟨h1, rfl⟩
theorem rangeD_len {lo hi : Int} : (rangeD lo hi).length = (hi - lo).toNat := by unfold rangeD; rw [List.length_map, List.length_range]
theorem itl_ok (l : LAt K S H a xs) (r : Reps K S H xs ds) : ItOk K S H (Itl K a) ds := fun S' H' ex => by
  have l' := (l.mono ex).sq
  have r' := r.mono ex
  refine ⟨fun i d h => ?_, ⟨xs, l', by rw [r.length]; exact Nat.le_refl _⟩⟩
  obtain ⟨v, h1, h2⟩ := r'.get h
  refine ⟨⟨xs, v, l', h1⟩, fun x H'' y => ?_⟩
  obtain ⟨rfl, y⟩ := y
  have := y xs l'
  rw [h1] at this
  cases this
  exact ⟨S', Al.refl, h2⟩
theorem itt_ok (l : TAt K S H a xs) (r : Reps K S H xs ds) : ItOk K S H (Itt K a) ds := fun S' H' ex => by
  have l' := (l.mono ex).sq
  have r' := r.mono ex
  refine ⟨fun i d h => ?_, ⟨xs, l', by rw [r.length]; exact Nat.le_refl _⟩⟩
  obtain ⟨v, h1, h2⟩ := r'.get h
  refine ⟨⟨xs, v, l', h1⟩, fun x H'' y => ?_⟩
  obtain ⟨rfl, y⟩ := y
  have := y xs l'
  rw [h1] at this
  cases this
  exact ⟨S', Al.refl, h2⟩
theorem itr_ok {lo hi : Int} : ItOk K S H (Itr lo (hi - lo).toNat) (rangeD lo hi) := fun S' H' ex => by
  refine ⟨fun i d h => ?_, by show _ ≤ _; rw [rangeD_len]; exact Nat.le_refl _⟩
  obtain ⟨h1, rfl⟩ := rangeD_get h
  refine ⟨h1, fun x H'' y => ?_⟩
  obtain ⟨rfl, rfl⟩ := y
  exact ⟨S', Al.refl, .int _⟩
theorem pair_ok {S' : Addr → Prop} {H' : Hp} {T : Addr} {v u : V} {d e : D} (hT : H' T = none) (r1 : Rep K S' H' v d) (r2 : Rep K S' H' u e) : ∃ S'', Al S' H' S'' (upd H' T (.tup [v, u])) ∧ Rep K S'' (upd H' T (.tup [v, u])) (.ref T) (.tuple [d, e]) :=
  ⟨_, Al.one hT, rep_tup hT (.cons r1 (.cons r2 .nil))⟩
theorem ite_ok (l : LAt K S H a xs) (r : Reps K S H xs ds) : ItOk K S H (Ite K a) (enumD ds) := fun S' H' ex => by
  have l' := (l.mono ex).sq
  have r' := r.mono ex
  refine ⟨fun i d h => ?_, ⟨xs, l', by rw [r.length, enumD_len]; exact Nat.le_refl _⟩⟩
  obtain ⟨x, h0, rfl⟩ := enumD_get h
  obtain ⟨v, h1, h2⟩ := r'.get h0
  refine ⟨⟨xs, v, l', h1⟩, fun z H'' y => ?_⟩
  obtain ⟨T, w, rfl, hT, rfl, y⟩ := y
  have := y xs l'
  rw [h1] at this
  cases this
  exact pair_ok hT (.int _) h2
theorem itet_ok (l : TAt K S H a xs) (r : Reps K S H xs ds) : ItOk K S H (IteT K a) (enumD ds) := fun S' H' ex => by
  have l' := (l.mono ex).sq
  have r' := r.mono ex
  refine ⟨fun i d h => ?_, ⟨xs, l', by rw [r.length, enumD_len]; exact Nat.le_refl _⟩⟩
  obtain ⟨x, h0, rfl⟩ := enumD_get h
  obtain ⟨v, h1, h2⟩ := r'.get h0
  refine ⟨⟨xs, v, l', h1⟩, fun z H'' y => ?_⟩
  obtain ⟨T, w, rfl, hT, rfl, y⟩ := y
  have := y xs l'
  rw [h1] at this
  cases this
  exact pair_ok hT (.int _) h2
theorem itz_ok (l : LAt K S H a xs) (r : Reps K S H xs ds) (l2 : LAt K S H b ys) (r2 : Reps K S H ys es) : ItOk K S H (Itz K a b) (zipD ds es) := fun S' H' ex => by
  have l' := (l.mono ex).sq
  have r' := r.mono ex
  have l2' := (l2.mono ex).sq
  have r2' := r2.mono ex
  refine ⟨fun i d h => ?_, ⟨xs, ys, l', l2', by rw [r.length, r2.length, zipD_len]; omega⟩⟩
  obtain ⟨x, y, h0, g, rfl⟩ := zipD_get h
  obtain ⟨v, h1, h2⟩ := r'.get h0
  obtain ⟨u, g1, g2⟩ := r2'.get g
  refine ⟨⟨xs, ys, v, u, l', l2', h1, g1⟩, fun z H'' q => ?_⟩
  obtain ⟨T, w, w2, rfl, hT, rfl, q, q2⟩ := q
  have := q xs l'
  rw [h1] at this
  cases this
  have := q2 ys l2'
  rw [g1] at this
  cases this
  exact pair_ok hT h2 g2
end

section
variable {X : Cx} {cl : Cl} {tg a b : Expr} {xa xb : Ex} {p pos : Pos}
theorem i_seq (ha : PE X a (rdV X.K (evE cl xa))) : PI X tg a (rdI X.K (evI cl (.seq xa))) := by
  refine ((pi_list ha).or (pi_tup ha)).weak fun σ H R h => ?_
  obtain ⟨S, fp, ρ, ds, ρ', r, e, q⟩ := h
  unfold evI at e
  obtain ⟨x, ρ1, e1, e⟩ := bnd_eq e
  cases hx : x.st with
  | none => rw [hx] at e; cases e
  | some d =>
    rw [hx] at e
    simp only [Option.bind_some] at e
    obtain ⟨e5, e6⟩ := giv_eq e
    subst e6
    cases d <;> simp only [itemsOf, reduceCtorEq, Option.some.injEq] at e5
    · subst e5
      refine .inl ⟨S, fp, ρ, x, _, r, e1, fun S1 fp1 v H1 A o => ?_⟩
      have o := o.strong hx
      cases o with
      | lst l rr => exact ⟨_, rfl, ⟨_, l.sq⟩, q _ _ _ _ A (itl_ok l rr)⟩
    · subst e5
      refine .inr ⟨S, fp, ρ, x, _, r, e1, fun S1 fp1 v H1 A o => ?_⟩
      have o := o.strong hx
      cases o with
      | tup l rr => exact ⟨_, rfl, ⟨_, l.sq⟩, q _ _ _ _ A (itt_ok l rr)⟩
theorem rng_of {i : Int} (h : rngOk i = true) : -(2 ^ 62) ≤ i ∧ i < 2 ^ 62 := by
  unfold rngOk at h
  rw [Bool.and_eq_true, decide_eq_true_eq, decide_eq_true_eq] at h
  exact h
theorem i_rng (hg : Gl X "range") (hm : X.mg "range" = none) (ha : PE X a (rdV X.K (evE cl xa))) (hs : notStar a = true) : PI X tg (.Call (.Name "range" p) [a] [] pos) (rdI X.K (evI cl (.rng xa))) := by
  refine (pi_range1 hg hm (pa_cons ha pa_nil (starEach_cons hs)) (starEach_cons hs)).weak fun σ H R h => ?_
  obtain ⟨S, fp, ρ, ds, ρ', r, e, q⟩ := h
  unfold evI at e
  obtain ⟨x, ρ1, e1, e⟩ := bnd_eq e
  split at e
  · split at e
    · rename_i n hn
      cases e
      refine ⟨S, fp, ρ, _, _, r, e1, fun S1 fp1 v H1 A o => ?_⟩
      have o : Rep X.K S1 H1 v (.int n) := o
      cases o
      have := rng_of hn
      refine ⟨n, rfl, this.1, this.2, ?_⟩
      have q := q S1 fp1 H1 (Itr 0 (n - 0).toNat) A itr_ok
      simpa using q
    · cases e
  · cases e
theorem i_rng2 (hg : Gl X "range") (hm : X.mg "range" = none) (ha : PE X a (rdV X.K (evE cl xa))) (hb : PE X b (rdV X.K (evE cl xb))) (hs : notStar a = true) (hs2 : notStar b = true) : PI X tg (.Call (.Name "range" p) [a, b] [] pos) (rdI X.K (evI cl (.rng2 xa xb))) := by
  refine (pi_range2 hg hm (pa_cons ha (pa_cons hb pa_nil (starEach_cons hs2)) (starEach_cons hs)) (by rw [starEach_cons hs, starEach_cons hs2]; rfl) (by rw [starEach_cons hs2]; rfl)).weak fun σ H R h => ?_
  obtain ⟨S, fp, ρ, ds, ρ', r, e, q⟩ := h
  unfold evI at e
  obtain ⟨x, ρ1, e1, e⟩ := bnd_eq e
  obtain ⟨y, ρ2, e2, e⟩ := bnd_eq e
  split at e
  · rename_i n m _
    split at e
    · rename_i hn
      cases e
      refine ⟨S, fp, ρ, _, _, r, e1, fun S1 fp1 v H1 A o => ⟨S1, fp1, ρ1, _, _, A.rs, e2, fun S2 fp2 u H2 A2 o2 => ?_⟩⟩
      have o : Rep X.K S1 H1 v (.int n) := o
      have o2 : Rep X.K S2 H2 u (.int m) := o2
      cases o
      cases o2
      have h1 := rng_of hn.1
      have h2 := rng_of hn.2
      exact ⟨n, m, rfl, ⟨h1.1, h1.2, h2.1, h2.2⟩, q _ _ _ _ (A.trans A2) itr_ok⟩
    · cases e
  · cases e
theorem i_enum {elts : List Expr} {kk : Nat} {tpos : Pos} (hg : Gl X "enumerate") (hm : X.mg "enumerate" = none) (ha : PE X a (rdV X.K (evE cl xa))) (hs : notStar a = true) : PI X (.Tuple elts kk tpos) (.Call (.Name "enumerate" p) [a] [] pos) (rdI X.K (evI cl (.enum xa))) := by
  refine (pi_enumA hg hm (pa_cons ha pa_nil (starEach_cons hs)) (starEach_cons hs)).weak fun σ H R h => ?_
  obtain ⟨S, fp, ρ, ds, ρ', r, e, q⟩ := h
  unfold evI at e
  obtain ⟨x, ρ1, e1, e⟩ := bnd_eq e
  split at e
  · cases e
    refine ⟨S, fp, ρ, _, _, r, e1, fun S1 fp1 v H1 A o => ?_⟩
    have o : Rep X.K S1 H1 v (.list _) := o
    cases o with
    | lst l rr => exact ⟨_, _, rfl, .inl ⟨l.sq, q _ _ _ _ A (ite_ok l rr)⟩⟩
  · cases e
    refine ⟨S, fp, ρ, _, _, r, e1, fun S1 fp1 v H1 A o => ?_⟩
    have o : Rep X.K S1 H1 v (.tuple _) := o
    cases o with
    | tup l rr => exact ⟨_, _, rfl, .inr ⟨l.sq, q _ _ _ _ A (itet_ok l rr)⟩⟩
  · cases e
theorem i_zip {elts : List Expr} {kk : Nat} {tpos : Pos} (hg : Gl X "zip") (hm : X.mg "zip" = none) (ha : PE X a (rdV X.K (evE cl xa))) (hb : PE X b (rdV X.K (evE cl xb))) (hs : notStar a = true) (hs2 : notStar b = true) : PI X (.Tuple elts kk tpos) (.Call (.Name "zip" p) [a, b] [] pos) (rdI X.K (evI cl (.zip xa xb))) := by
  refine (RZ.pi_zipA hg hm (pa_cons ha (pa_cons hb pa_nil (starEach_cons hs2)) (starEach_cons hs)) (starEach_cons hs) (starEach_none (by simp [hs2]))).weak fun σ H R h => ?_
  obtain ⟨S, fp, ρ, ds, ρ', r, e, q⟩ := h
  unfold evI at e
  obtain ⟨x, ρ1, e1, e⟩ := bnd_eq e
  obtain ⟨y, ρ2, e2, e⟩ := bnd_eq e
  split at e
  · rename_i xs ys _
    cases e
    refine ⟨S, fp, ρ, _, _, r, e1, fun S1 fp1 v H1 A o => ⟨S1, fp1, ρ1, _, _, A.rs, e2, fun S2 fp2 u H2 A2 o2 => ?_⟩⟩
    have o : Rep X.K S2 H2 v (.list xs) := Rep.mono (A.rs.ext A2.fr) o
    have o2 : Rep X.K S2 H2 u (.list ys) := o2
    cases o with
    | lst l rr =>
      cases o2 with
      | lst l2 rr2 => exact ⟨_, _, _, _, rfl, .inl ⟨l.sq, l2.sq, q _ _ _ _ (A.trans A2) (itz_ok l rr l2 rr2)⟩⟩
  · cases e
end
end Pv

set_option Elab.async false
set_option linter.all false
set_option maxRecDepth 100000
set_option maxHeartbeats 4000000
/-! dicts, chains, list(range(..)), len(set(..)) -/
namespace Pv
open PySem L2

section
variable {X : Cx} {cl : Cl} {op : CmpOp} {a b c : Expr} {xe xa xb xc : Ex} {pos p p2 p3 : Pos}
/-- a comparison as a test -/
theorem pt_of_pc (h : PC X op a b (rdV X.K (evE cl xe))) (hp : plainT xe = true) (hb : ∀ ρ a ρ', evE cl xe ρ = some (a, ρ') → ∃ k, a = .dat (.bool k)) (hm : behindInMarks op b = false) : PT X (.Compare a [op] [b] pos) (rdT X.K (evT cl xe)) := by
  refine (pt_cmp h hm).weak fun σ H Q h => ?_
  obtain ⟨S, fp, ρ, k, ρ', r, e, q⟩ := h
  rw [evT_plain hp] at e
  obtain ⟨z, ρ3, e, e3⟩ := bnd_eq e
  obtain ⟨e3, rfl⟩ := giv_eq e3
  obtain ⟨k', rfl⟩ := hb _ _ _ e
  have e4 : some k' = some k := e3
  cases e4
  refine ⟨S, fp, ρ, _, _, r, e, fun S1 fp1 vx H1 A1 o1 => ?_⟩
  have o1 : Rep X.K S1 H1 vx (.bool _) := o1
  cases o1
  exact ⟨_, rfl, q _ _ H1 A1⟩
theorem pc_of_r {r : R2} (ho : OpR X (compareOp op) r) {ta tb : TE} (ha : PE X a ta) (hb : PE X b tb) : PC X op a b (tOp r ta tb) := ⟨fun pins s σ H Q I h =>
  binT ha hb I h fun v u s2 x y H2 I2 rx ry q => ho pins s2 σ H2 x y v u Q I2 rx ry q⟩
theorem _root_.L2.PC.weak {t t' : TE} (h : PC X op a b t) (w : ∀ σ H Q, t' σ H Q → t σ H Q) : PC X op a b t' := ⟨fun pins s σ H Q I q => h.run pins s σ H Q I (w σ H Q q)⟩

/-! ### chains -/
theorem chain_core {o o' : C2} {σ : L2.St} {H : Hp} {Q : VK} {S : Addr → Prop} {fp : Nat → Fp} {ρ ρ' : Env} {k : Bool} (r : RS X.K S σ H ρ fp) (e : evE cl (.chain o o' xa xb xc) ρ = some (.dat (.bool k), ρ'))
    (q : ∀ S' fp' H', Aft X.K σ S fp H ρ S' fp' H' ρ' → Q (.bl k) H') : tChain (rS2 X.K o.f) (rS2 X.K o'.f) (rdV X.K (evE cl xa)) (rdV X.K (evE cl xb)) (rdV X.K (evE cl xc)) σ H Q := by
  unfold evE at e
  obtain ⟨x, ρ1, e1, e⟩ := bnd_eq e
  obtain ⟨y, ρ2, e2, e⟩ := bnd_eq e
  refine ⟨S, fp, ρ, x, ρ1, r, e1, fun S1 fp1 vx H1 A1 o1 => ⟨S1, fp1, ρ1, y, ρ2, A1.rs, e2, fun S2 fp2 vy H2 A2 o2 => ?_⟩⟩
  cases hx : x.st with
  | none => rw [hx] at e; cases e
  | some d1 =>
    cases hy : y.st with
    | none => rw [hx, hy] at e; cases e
    | some d2 =>
      rw [hx, hy] at e
      simp only [Option.bind_some] at e
      cases hf : o.b d1 d2 with
      | none => rw [hf] at e; cases e
      | some j =>
        rw [hf] at e
        refine ⟨d1, d2, .bool j, .bl j, ((o1.strong hx).mono (A1.rs.ext A2.fr)).all, (o2.strong hy).all, by unfold C2.f; rw [hf]; rfl, rfl, j, rfl, ?_⟩
        cases j with
        | false =>
          cases e
          exact q _ _ _ (A1.trans A2)
        | true =>
          simp only at e
          obtain ⟨z, ρ3, e3, e⟩ := bnd_eq e
          simp only [if_true]
          refine ⟨S2, fp2, ρ2, z, ρ3, A2.rs, e3, fun S3 fp3 vz H3 A3 o3 => ?_⟩
          cases hz : z.st with
          | none => rw [hz] at e; cases e
          | some d3 =>
            rw [hz] at e
            simp only [Option.bind_some] at e
            cases hg : o'.b d2 d3 with
            | none => simp [C2.f, hg] at e
            | some i =>
              simp [C2.f, hg] at e
              obtain ⟨rfl, rfl⟩ := e
              exact ⟨d2, d3, .bool _, .bl _, ((o2.strong hy).mono (A2.rs.ext A3.fr)).all, (o3.strong hz).all, by unfold C2.f; rw [hg]; rfl, rfl, q _ _ _ ((A1.trans A2).trans A3)⟩
theorem chain_bl {o o' : C2} {ρ ρ' : Env} {av : AV} (e : evE cl (.chain o o' xa xb xc) ρ = some (av, ρ')) : ∃ k, av = .dat (.bool k) := by
  unfold evE at e
  obtain ⟨x, ρ1, e1, e⟩ := bnd_eq e
  obtain ⟨y, ρ2, e2, e⟩ := bnd_eq e
  split at e
  · cases e
  · cases e; exact ⟨_, rfl⟩
  · obtain ⟨z, ρ3, e3, e⟩ := bnd_eq e
    obtain ⟨e5, e6⟩ := giv_eq e
    simp only [Option.map_eq_some_iff, Option.bind_eq_some_iff, C2.f] at e5
    obtain ⟨d, ⟨d2, _, d3, _, j, _, rfl⟩, rfl⟩ := e5
    exact ⟨_, rfl⟩
theorem s_chain {o o' : C2} (hu : X.A.units + 64 < cLine) (ha : PE X a (rdV X.K (evE cl xa))) (hb : PE X b (rdV X.K (evE cl xb))) (hc : PE X c (rdV X.K (evE cl xc))) (hm : lastMarks [o.op, o'.op] [b, c] = false) :
    PE X (.Compare a [o.op, o'.op] [b, c] pos) (rdV X.K (evE cl (.chain o o' xa xb xc))) := by
  refine (pe_chain (C2.rule hu o) (C2.rule hu o') ha hb hc hm).weak fun σ H Q h => ?_
  obtain ⟨S, fp, ρ, av, ρ', r, e, q⟩ := h
  obtain ⟨k, rfl⟩ := chain_bl e
  exact chain_core r e fun S' fp' H' A => q _ _ _ _ A (.bl k)
theorem tt_chain {o o' : C2} (hu : X.A.units + 64 < cLine) (ha : PE X a (rdV X.K (evE cl xa))) (hb : PE X b (rdV X.K (evE cl xb))) (hc : PE X c (rdV X.K (evE cl xc))) (hm : lastMarks [o.op, o'.op] [b, c] = false) :
    PT X (.Compare a [o.op, o'.op] [b, c] pos) (rdT X.K (evT cl (.chain o o' xa xb xc))) := by
  refine (pt_chain (C2.rule hu o) (C2.rule hu o') ha hb hc hm).weak fun σ H Q h => ?_
  obtain ⟨S, fp, ρ, k, ρ', r, e, q⟩ := h
  rw [evT_plain rfl] at e
  obtain ⟨z, ρ3, e, e3⟩ := bnd_eq e
  obtain ⟨e3, rfl⟩ := giv_eq e3
  obtain ⟨k', rfl⟩ := chain_bl e
  have e4 : some k' = some k := e3
  cases e4
  exact chain_core r e fun S' fp' H' A => ⟨_, rfl, q _ _ _ A⟩

/-! ### len(set(a)), list(range(a)) -/
theorem s_lset (hc : X.calm = true) (hg : Gl X "len") (hm : X.mg "len" = none) (hg2 : Gl X "set") (hm2 : X.mg "set" = none) (ha : PE X a (rdV X.K (evE cl xa))) (hs : notStar a = true) :
    PE X (.Call (.Name "len" p) [.Call (.Name "set" p2) [a] [] p3] [] pos) (rdV X.K (evE cl (.lset xa))) := by
  refine (pe_lenSetB hg hm hg2 hm2 ha hc (starEach_cons hs)).weak fun σ H Q h => ?_
  obtain ⟨S, fp, ρ, av, ρ', r, e, q⟩ := h
  unfold evE at e
  obtain ⟨x, ρ1, e1, e⟩ := bnd_eq e
  split at e
  · rename_i xs
    obtain ⟨e, rfl⟩ := giv_eq e
    cases hb : boolsOf xs with
    | none => rw [hb] at e; cases e
    | some bs =>
      rw [hb] at e
      cases e
      refine ⟨S, fp, ρ, _, _, r, e1, fun S1 fp1 vx H1 A1 o1 => ?_⟩
      have o1 : Rep X.K S1 H1 vx (.list xs) := o1
      cases o1 with
      | lst l rr =>
        rw [bools_of hb] at rr
        rw [rr.bools] at l
        exact ⟨_, bs, rfl, l.sq, q _ _ _ _ A1 (.int _)⟩
  · cases e
theorem rgV_reps {K : PySem.W.Frag} {S : Addr → Prop} {H : Hp} (lo hi : Int) : Reps K S H (rgV lo hi) (rangeD lo hi) := by
  unfold rgV rangeD
  exact Reps.map (fun x => .int _) _
theorem lrg_core {σ : L2.St} {H : Hp} {Q : VK} {S : Addr → Prop} {fp : Nat → Fp} {ρ ρ1 : Env} {n : Int} (r : RS X.K S σ H ρ fp) (e1 : evE cl xa ρ = some (.dat (.int n), ρ1)) (hn : rngOk n = true) (hn2 : n ≤ 16777216)
    (q : ∀ S' fp' H' p, Aft X.K σ S fp H ρ S' fp' H' ρ1 → H' p = none → Q (.ref p) (upd H' p (.lst (rgV 0 n)))) : tLstRg (tRg1 (rdV X.K (evE cl xa))) σ H Q := by
  refine ⟨S, fp, ρ, _, _, r, e1, fun S1 fp1 vx H1 A1 o1 => ?_⟩
  have o1 : Rep X.K S1 H1 vx (.int n) := o1
  cases o1
  have := rng_of hn
  exact ⟨n, rfl, ⟨by omega, by omega, this.1, this.2, by omega⟩, fun p hp => q _ _ _ p A1 hp⟩
theorem lrg_inv {ρ ρ' : Env} {av : AV} (e : evE cl (.lrg xa) ρ = some (av, ρ')) : ∃ n, evE cl xa ρ = some (.dat (.int n), ρ') ∧ rngOk n = true ∧ n ≤ 16777216 ∧ av = .dat (.list (rangeD 0 n)) := by
  unfold evE at e
  obtain ⟨x, ρ1, e1, e⟩ := bnd_eq e
  split at e
  · split at e
    · rename_i h
      cases e
      exact ⟨_, e1, h.1, h.2, rfl⟩
    · cases e
  · cases e
theorem p_lrg (hc : X.calm = true) (hg : Gl X "list") (hm : X.mg "list" = none) (hg2 : Gl X "range") (hm2 : X.mg "range" = none) (ha : PE X a (rdV X.K (evE cl xa))) (hs : notStar a = true) :
    PE X (.Call (.Name "list" p) [.Call (.Name "range" p2) [a] [] p3] [] pos) (tLstRg (tRg1 (rdV X.K (evE cl xa)))) :=
  pe_listRg hc hg hm (prg_1 hg2 hm2 ha (starEach_cons hs)) (starEach_cons rfl)
theorem s_lrg (hc : X.calm = true) (hg : Gl X "list") (hm : X.mg "list" = none) (hg2 : Gl X "range") (hm2 : X.mg "range" = none) (ha : PE X a (rdV X.K (evE cl xa))) (hs : notStar a = true) :
    PE X (.Call (.Name "list" p) [.Call (.Name "range" p2) [a] [] p3] [] pos) (rdV X.K (evE cl (.lrg xa))) := by
  refine (p_lrg hc hg hm hg2 hm2 ha hs).weak fun σ H Q h => ?_
  obtain ⟨S, fp, ρ, av, ρ', r, e, q⟩ := h
  obtain ⟨n, e1, h1, h2, rfl⟩ := lrg_inv e
  exact lrg_core r e1 h1 h2 fun S' fp' H' p A hp => q _ _ _ _ (A.al (Al.one hp)) (rep_lst hp (rgV_reps 0 n))

/-! ### a dict of the module -/
structure GD (X : Cx) (x : Str) (kvs : List (Str × Option Str)) : Prop where
  ex : ∃ d es n, X.mg x = some (.ref d) ∧ KDict X.K X.w d es n ∧ ∀ z o, kvs.lookup z = some o → match o with
    | some u => ∃ t, PySem.W.nsIn X.K d z = some (some (.str u t))
    | none => PySem.W.nsIn X.K d z = some none
theorem s_gdx {x : Str} {kvs : List (Str × Option Str)} (hg : Gl X x) (D : GD X x kvs) (hd : (x == ("__debug__" : Str)) = false) (ha : PE X a (rdV X.K (evE cl xa))) (hs : notSlice a = true) : PE X (.Subscript (.Name x p) a pos) (rdV X.K (evE cl (.gdx x kvs xa))) := by
  obtain ⟨d, es, n, hm, kd, hk⟩ := D.ex
  refine (pe_ix ix_kdict (pe_glob (v := .ref d) hg hm rfl hd) ha (plainIx_of hs)).weak fun σ H Q h => ?_
  obtain ⟨S, fp, ρ, av, ρ', r, e, q⟩ := h
  unfold evE at e
  obtain ⟨y, ρ1, e1, e⟩ := bnd_eq e
  split at e
  · rename_i z
    split at e
    · rename_i u hl
      cases e
      refine ⟨S, fp, ρ, _, _, r, e1, fun S1 fp1 vx H1 A1 o1 => ?_⟩
      have o1 : Rep X.K S1 H1 vx (.str z) := o1
      cases o1
      obtain ⟨t, ht⟩ := hk z _ hl
      exact ⟨d, z, .str u, rfl, rfl, ⟨es, n, _, kd.at_, kd.lit, ht, ⟨t, rfl⟩⟩, q _ _ _ _ A1 (.str u)⟩
    · cases e
  · cases e
theorem c_gdin {neg : Bool} {x : Str} {kvs : List (Str × Option Str)} (hg : Gl X x) (D : GD X x kvs) (hd : (x == ("__debug__" : Str)) = false) (ha : PE X a (rdV X.K (evE cl xa))) :
    PC X (if neg = true then .NotIn else .In) a (.Name x p) (rdV X.K (evE cl (.gdin neg x kvs xa))) := by
  obtain ⟨d, es, n, hm, kd, hk⟩ := D.ex
  have hb := pe_glob (X := X) (pos := p) (v := .ref d) hg hm rfl hd
  have key : PC X (if neg = true then .NotIn else .In) a (.Name x p) (tOp (fun x y H Q => ∃ (z : Str) (r : Option Value), x = .str z ∧ y = .ref d ∧ PySem.W.nsIn X.K d z = some r ∧ Q (.bl (if neg = true then !r.isSome else r.isSome)) H) (rdV X.K (evE cl xa)) (tC (.ref d))) := by
    cases neg with
    | true => exact pc_of_r (op_notIn_kd kd) ha hb
    | false => exact pc_of_r (op_in_kd kd) ha hb
  refine key.weak fun σ H Q h => ?_
  obtain ⟨S, fp, ρ, av, ρ', r, e, q⟩ := h
  unfold evE at e
  obtain ⟨y, ρ1, e1, e⟩ := bnd_eq e
  split at e
  · rename_i z
    split at e
    · rename_i o hl
      cases e
      refine ⟨S, fp, ρ, _, _, r, e1, fun S1 fp1 vx H1 A1 o1 => ?_⟩
      have o1 : Rep X.K S1 H1 vx (.str z) := o1
      cases o1
      have hz := hk z o hl
      cases o with
      | some u =>
        obtain ⟨t, ht⟩ := hz
        exact ⟨z, _, rfl, rfl, ht, q _ _ _ _ A1 (.bl _)⟩
      | none => exact ⟨z, _, rfl, rfl, hz, q _ _ _ _ A1 (.bl _)⟩
    · cases e
  · cases e
theorem gdin_bl {neg : Bool} {x : Str} {kvs : List (Str × Option Str)} {ρ ρ' : Env} {av : AV} (e : evE cl (.gdin neg x kvs xa) ρ = some (av, ρ')) : ∃ k, av = .dat (.bool k) := by
  unfold evE at e
  obtain ⟨y, ρ1, e1, e⟩ := bnd_eq e
  split at e
  · split at e
    · cases e; exact ⟨_, rfl⟩
    · cases e
  · cases e

/-! ### a dict of one's own -/
theorem atD_rel {K : PySem.W.Frag} {S : Addr → Prop} {H : Hp} {k : Key} : ∀ {kvs : List (Key × V)} {kds : List (Key × D)}, kvs.map (·.1) = kds.map (·.1) → Reps K S H (kvs.map (·.2)) (kds.map (·.2)) →
    (∀ d, atD kds k = some d → ∃ v, valV kvs k = some v ∧ Rep K S H v d) ∧ (valV kvs k).isSome = (atD kds k).isSome
  | [], [], _, _ => ⟨fun d h => (by cases h), rfl⟩
  | p :: kvs, q :: kds, e, r => by
    simp only [List.map_cons, List.cons.injEq] at e
    simp only [List.map_cons] at r
    cases r with
    | cons a b =>
      obtain ⟨i1, i2⟩ := atD_rel (k := k) e.2 b
      unfold atD valV at i1 i2 ⊢
      by_cases hk : q.1 = k
      · have hk' : p.1 = k := e.1.trans hk
        simp only [List.find?_cons, hk, hk', decide_true, Option.map_some, Option.isSome_some, and_true]
        intro d h
        cases h
        exact ⟨p.2, rfl, a⟩
      · have hk' : ¬ p.1 = k := fun z => hk (e.1.symm.trans z)
        simp only [List.find?_cons, hk, hk', decide_false]
        exact ⟨i1, i2⟩
  | [], _ :: _, e, _ => by simp at e
  | _ :: _, [], e, _ => by simp at e
theorem hu1 (hu : X.A.units + 64 < cLine) : X.A.units + 1 < cLine := by omega
theorem notSlice_sl {i : Expr} (h : notSlice i = true) : NoSl i := by
  intro ov iv
  cases i <;> first | rfl | cases h
theorem isDct_of {ρ : Env} {i : Nat} (h : isDct ρ i = true) : ∃ b kds, ρ[i]? = some (.val b (.dK kds)) := by
  unfold isDct at h
  split at h
  · exact ⟨_, _, by assumption⟩
  · cases h
theorem RS.dict {K : PySem.W.Frag} {S : Addr → Prop} {H : Hp} {σ : L2.St} {ρ : Env} {fp : Nat → Fp} (r : RS K S σ H ρ fp) {i : Nat} {b : Bool} {kds : List (Key × D)} (e : ρ[i]? = some (.val b (.dK kds))) :
    ∃ a kvs, σ[i]? = some (some (.ref a)) ∧ H a = some (.dK kvs) ∧ kvs.map (·.1) = kds.map (·.1) ∧ Reps K S H (kvs.map (·.2)) (kds.map (·.2)) := by
  obtain ⟨v, h1, h2⟩ := r.val e
  unfold RepO at h2
  obtain ⟨a, kvs, rfl, h3, h4, h5, h6⟩ := h2
  exact ⟨a, kvs, h1, h3, h5, h6⟩
theorem s_dget {i : Nat} {x : Str} (hu : X.A.units + 64 < cLine) (hN : X.N[i]? = some x) (hv : Vis X.env.scope x) (hd : (x == ("__debug__" : Str)) = false) (hcd : (x == ("__classdict__" : Str)) = false) (ha : PE X a (rdV X.K (evE cl xa))) (hs : notSlice a = true) :
    PE X (.Subscript (.Name x p) a pos) (rdV X.K (evE cl (.dget i xa))) := by
  refine (pe_dget (hu1 hu) (pe_var hN hv hd hcd) ha (notSlice_sl hs)).weakI fun pins s σ H Q I h => ?_
  obtain ⟨S, fp, ρ, av, ρ', r, e, q⟩ := h
  unfold evE at e
  split at e
  · rename_i hdc
    obtain ⟨b0, kds0, q9⟩ := isDct_of hdc
    obtain ⟨a0, kvs0, g1, _, _, _⟩ := r.dict q9
    obtain ⟨y, ρ1, e1, e⟩ := bnd_eq e
    split at e
    · rename_i z b kds q0
      obtain ⟨e5, e6⟩ := giv_eq e
      subst e6
      cases hk : atD kds (.inr z) with
      | none => rw [hk] at e5; cases e5
      | some d =>
        rw [hk] at e5
        cases e5
        refine ⟨_, g1, S, fp, ρ, _, _, r, e1, fun S1 fp1 vx H1 A1 o1 => ?_⟩
        have o1 : Rep X.K S1 H1 vx (.str z) := o1
        cases o1
        obtain ⟨a1, kvs, h1, h2, h3, h4⟩ := A1.rs.dict q0
        rw [g1] at h1
        cases h1
        obtain ⟨v, h5, h6⟩ := (atD_rel (k := .inr z) h3 h4).1 d hk
        exact ⟨a0, v, rfl, .inl ⟨kvs, .inr z, .inl h2, rfl, h5.symm⟩, q _ _ _ _ A1 h6⟩
    · cases e
  · cases e
theorem c_din {neg : Bool} {i : Nat} {x : Str} (hu : X.A.units + 64 < cLine) (hN : X.N[i]? = some x) (hv : Vis X.env.scope x) (hd : (x == ("__debug__" : Str)) = false) (hcd : (x == ("__classdict__" : Str)) = false) (ha : PE X a (rdV X.K (evE cl xa))) :
    PC X (if neg = true then .NotIn else .In) a (.Name x p) (rdV X.K (evE cl (.din neg i xa))) := by
  have key : PC X (if neg = true then .NotIn else .In) a (.Name x p) (fun σ H Q => rdV X.K (evE cl xa) σ H fun y H1 => tVar i σ H1 fun x H2 => ∃ a o, x = .ref a ∧ DGet H2 a y o ∧ Q (.bl (if neg = true then !o.isSome else o.isSome)) H2) := by
    cases neg with
    | true => exact pc_dnotin (hu1 hu) ha (pe_var hN hv hd hcd)
    | false => exact pc_din (hu1 hu) ha (pe_var hN hv hd hcd)
  refine key.weak fun σ H Q h => ?_
  obtain ⟨S, fp, ρ, av, ρ', r, e, q⟩ := h
  unfold evE at e
  obtain ⟨y, ρ1, e1, e⟩ := bnd_eq e
  split at e
  · rename_i z b kds q0
    cases e
    refine ⟨S, fp, ρ, _, _, r, e1, fun S1 fp1 vx H1 A1 o1 => ?_⟩
    have o1 : Rep X.K S1 H1 vx (.str z) := o1
    cases o1
    obtain ⟨a1, kvs, h1, h2, h3, h4⟩ := A1.rs.dict q0
    have h5 := (atD_rel (k := .inr z) h3 h4).2
    refine ⟨_, h1, a1, _, rfl, .inl ⟨kvs, .inr z, .inl h2, rfl, rfl⟩, ?_⟩
    rw [h5]
    exact q _ _ _ _ A1 (.bl _)
  · cases e
theorem din_bl {neg : Bool} {i : Nat} {ρ ρ' : Env} {av : AV} (e : evE cl (.din neg i xa) ρ = some (av, ρ')) : ∃ k, av = .dat (.bool k) := by
  unfold evE at e
  obtain ⟨y, ρ1, e1, e⟩ := bnd_eq e
  split at e
  · cases e; exact ⟨_, rfl⟩
  · cases e
end
end Pv

set_option Elab.async false
set_option linter.all false
set_option maxRecDepth 100000
set_option maxHeartbeats 4000000
/-! displays of dicts; values as one's own -/
namespace Pv
open PySem L2

/-! ### displays -/
def trsOf (K : PySem.W.Frag) (cl : Cl) : List Str → Exs → List (TE × TE)
  | k :: ks, .cons e es => (tC (.str k), rdV K (evE cl e)) :: trsOf K cl ks es
  | _, _ => []
def zipV (ks : List Str) (vs : List V) : List (Key × V) := (ks.map Sum.inr).zip vs
theorem zipV_ps : ∀ (ks : List Str) (vs : List V), (ks.map V.str).zip vs = (zipV ks vs).map fun kv => (kV kv.1, kv.2)
  | [], _ => by simp [zipV]
  | _ :: _, [] => by simp [zipV]
  | k :: ks, v :: vs => by
    have := zipV_ps ks vs
    simp only [zipV] at this
    simp only [zipV, List.map_cons, List.zip_cons_cons, this]
    rfl
theorem mergeK_nodup : ∀ (kvs acc : List (Key × V)), ((acc ++ kvs).map (·.1)).Nodup → mergeK acc kvs = acc ++ kvs
  | [], acc, _ => by rw [List.append_nil]; rfl
  | p :: r, acc, h => by
    have hp : valV acc p.1 = none := by
      cases q : valV acc p.1 with
      | none => rfl
      | some v =>
        have hm := valV_in q
        rw [List.map_append, List.map_cons] at h
        exact absurd rfl ((List.nodup_append.mp h).2.2 _ hm p.1 List.mem_cons_self)
    show mergeK (putK acc p.1 p.2) r = _
    rw [putK_new _ hp, mergeK_nodup r (acc ++ [(p.1, p.2)]) (by rw [List.append_assoc]; exact h), List.append_assoc]
    rfl
section
variable {K : PySem.W.Frag} {cl : Cl} {σ : L2.St}
theorem pairs_core : ∀ (ks : List Str) (es : Exs) {ρ ρ1 : Env} {xs : List AV} {ds : List D} {S : Addr → Prop} {fp : Nat → Fp} {H : Hp} {Q : List (V × V) → Hp → Prop}, RS K S σ H ρ fp → evEs cl es ρ = some (xs, ρ1) → sts xs = some ds → ks.length = ds.length →
    (∀ S' fp' H' vs, Aft K σ S fp H ρ S' fp' H' ρ1 → Reps K S' H' vs ds → Q ((ks.map V.str).zip vs) H') → tPairs (trsOf K cl ks es) σ H Q
  | ks, .nil, ρ, ρ1, xs, ds, S, fp, H, Q, r, e, hs, hl, q => by
    unfold evEs at e
    cases e
    cases hs
    cases ks with
    | nil => exact q S fp H [] (Aft.refl r) .nil
    | cons k ks => simp at hl
  | [], .cons x es, ρ, ρ1, xs, ds, S, fp, H, Q, r, e, hs, hl, q => by
    unfold evEs at e
    obtain ⟨a, ρ2, e1, e⟩ := bnd_eq e
    obtain ⟨as, ρ3, e2, e⟩ := bnd_eq e
    cases e
    unfold sts at hs
    cases h1 : a.st with
    | none => rw [h1] at hs; cases hs
    | some d =>
      cases h2 : sts as with
      | none => rw [h1, h2] at hs; cases hs
      | some ds' => rw [h1, h2] at hs; cases hs; simp at hl
  | k :: ks, .cons x es, ρ, ρ1, xs, ds, S, fp, H, Q, r, e, hs, hl, q => by
    unfold evEs at e
    obtain ⟨a, ρ2, e1, e⟩ := bnd_eq e
    obtain ⟨as, ρ3, e2, e⟩ := bnd_eq e
    cases e
    unfold sts at hs
    cases h1 : a.st with
    | none => rw [h1] at hs; cases hs
    | some d =>
      cases h2 : sts as with
      | none => rw [h1, h2] at hs; cases hs
      | some ds' =>
        rw [h1, h2] at hs
        cases hs
        refine ⟨S, fp, ρ, a, ρ2, r, e1, fun S1 fp1 v H1 A1 o1 => ?_⟩
        exact pairs_core ks es A1.rs e2 h2 (by simpa using hl) fun S2 fp2 H2 vs A2 rr => q S2 fp2 H2 (v :: vs) (A1.trans A2) (.cons ((o1.strong h1).mono (A1.rs.ext A2.fr)) rr)
theorem dct_inv {ks : List Str} {xs : List AV} {kds : List (Key × D)} (h : dctD ks xs = some kds) : ∃ ds, sts xs = some ds ∧ ks.length = ds.length ∧ ks.length ≤ 15 ∧ ks ≠ [] ∧ ks.Nodup ∧ kds = zipK ks ds := by
  unfold dctD at h
  cases q : sts xs with
  | none => rw [q] at h; cases h
  | some ds =>
    rw [q] at h
    simp only [Option.bind_some] at h
    split at h
    · rename_i hk
      cases h
      unfold keysOk at hk
      simp only [Bool.and_eq_true, decide_eq_true_eq, Bool.not_eq_true', List.isEmpty_eq_false_iff] at hk
      obtain ⟨⟨⟨h1, h2⟩, h3⟩, h4⟩ := hk
      exact ⟨ds, rfl, h1, h2, h3, h4, rfl⟩
    · cases h
theorem zip_keys {α : Type} : ∀ (ks : List Str) (vs : List α), ks.length = vs.length → (((ks.map Sum.inr : List Key)).zip vs).map (·.1) = ks.map Sum.inr ∧ (((ks.map Sum.inr : List Key)).zip vs).map (·.2) = vs
  | [], [], _ => ⟨rfl, rfl⟩
  | k :: ks, v :: vs, h => by
    obtain ⟨h1, h2⟩ := zip_keys ks vs (by simpa using h)
    simp only [List.map_cons, List.zip_cons_cons, h1, h2, and_self]
  | [], _ :: _, h => by simp at h
  | _ :: _, [], h => by simp at h
theorem disp_core {ks : List Str} {es : Exs} {ρ ρ1 : Env} {xs : List AV} {kds : List (Key × D)} {S : Addr → Prop} {fp : Nat → Fp} {H : Hp} {Q : VK} (r : RS K S σ H ρ fp) (e : evEs cl es ρ = some (xs, ρ1)) (hk : dctD ks xs = some kds)
    (q : ∀ S' fp' H' p kvs, Aft K σ S fp H ρ S' fp' H' ρ1 → Mine S' fp' H' p (.dK kvs) → H p = none → kvs.map (·.1) = kds.map (·.1) → Reps K S' H' (kvs.map (·.2)) (kds.map (·.2)) → Q (.ref p) H') : tDisp (trsOf K cl ks es) σ H Q := by
  obtain ⟨ds, h1, h2, h3, h4, h5, rfl⟩ := dct_inv hk
  intro p hp
  have kp := upd_grow (H := H) (p := p) (u := HO.dK []) hp
  have A0 : Aft K σ S fp H ρ S fp (upd H p (.dK [])) ρ := ⟨Fr.grow kp (fun _ s => s) fun a s => .inl s, Bk.refl, r.grow kp (fun _ s => s) fun a s => .inl s⟩
  have M0 : Mine S fp (upd H p (.dK [])) p (.dK []) := ⟨upd_same, fun s => (by obtain ⟨o, eo⟩ := r.live p s; rw [hp] at eo; cases eo), fun i g => (by obtain ⟨o, eo⟩ := r.flive i p g; rw [hp] at eo; cases eo)⟩
  refine pairs_core ks es A0.rs e h1 h2 fun S1 fp1 H1 vs A1 rr => ?_
  have M1 := M0.fr A1.fr
  have hl : ks.length = vs.length := by rw [rr.length]; exact h2
  obtain ⟨z1, z2⟩ := zip_keys ks vs hl
  obtain ⟨y1, y2⟩ := zip_keys ks ds h2
  have hm : mergeK [] (zipV ks vs) = zipV ks vs := mergeK_nodup _ [] (by
    rw [List.nil_append]
    unfold zipV
    rw [z1]
    exact List.Pairwise.map Sum.inr (fun a b hab z => hab (by cases z; rfl)) h5)
  refine ⟨M1.at_, zipV ks vs, zipV_ps ks vs, by unfold zipV; rw [List.length_zip, List.length_map]; omega, ?_⟩
  rw [hm]
  obtain ⟨r2, M2, ex⟩ := M1.put (u := .dK (zipV ks vs)) A1.rs
  refine q S1 fp1 _ p (zipV ks vs) ⟨Fr.mine (A0.trans A1).fr hp, (A0.trans A1).bk, r2⟩ M2 hp ?_ ?_
  · unfold zipV zipK; rw [z1, y1]
  · unfold zipV zipK; rw [z2, y2]; exact rr.mono ex
end
section
variable {X : Cx} {cl : Cl} {fu : Nat} {e a b c n : Expr} {xa xb xc xe xn : Ex} {es : Exs} {ks : List Str} {keys : List (Option Expr)} {values : List Expr} {pos p pos2 tpos : Pos}
theorem d_nil : PPs X pos [] [] (trsOf X.K cl [] .nil) := pps_nil
theorem d_cons {k : Str} {j : Nat} {kp : Pos} (ha : PE X a (rdV X.K (evE cl xa))) (h : PPs X pos keys values (trsOf X.K cl ks es)) : PPs X pos (some (.Constant (.str k) j kp) :: keys) (a :: values) (trsOf X.K cl (k :: ks) (.cons xa es)) := pps_cons pe_str ha h
theorem s_dix (hu : X.A.units + 64 < cLine) (h : PPs X pos2 keys values (trsOf X.K cl ks es)) (hall : keys.all (·.isSome) = true) (hl : keys.length = values.length) (h0 : keys ≠ []) (h15 : keys.length ≤ 15) (ha : PE X a (rdV X.K (evE cl xa))) (hs : notSlice a = true) :
    PE X (.Subscript (.Dict keys values pos2) a pos) (rdV X.K (evE cl (.dix ks es xa))) := by
  refine (pe_dget (hu1 hu) (pe_disp h hall hl h0 h15) ha (notSlice_sl hs)).weak fun σ H Q h => ?_
  obtain ⟨S, fp, ρ, av, ρ', r, e, q⟩ := h
  unfold evE at e
  obtain ⟨xs, ρ1, e1, e⟩ := bnd_eq e
  obtain ⟨y, ρ2, e2, e⟩ := bnd_eq e
  split at e
  · rename_i kds z hk
    obtain ⟨e5, e6⟩ := giv_eq e
    subst e6
    cases hd : atD kds (.inr z) with
    | none => rw [hd] at e5; cases e5
    | some d =>
      rw [hd] at e5
      cases e5
      refine disp_core r e1 hk fun S1 fp1 H1 p kvs A1 M1 hp k1 r1 => ?_
      refine ⟨S1, fp1, ρ1, _, _, A1.rs, e2, fun S2 fp2 vy H2 A2 o2 => ?_⟩
      have o2 : Rep X.K S2 H2 vy (.str z) := o2
      cases o2
      have M2 := M1.fr A2.fr
      obtain ⟨v, h5, h6⟩ := (atD_rel (k := .inr z) k1 (r1.mono (A1.rs.ext A2.fr))).1 d hd
      exact ⟨p, v, rfl, .inl ⟨kvs, .inr z, .inl M2.at_, rfl, h5.symm⟩, q _ _ _ _ (A1.trans A2) h6⟩
  · cases e

/-! ### as one's own -/
def rdH (K : PySem.W.Frag) (ev : Env → Res OT) : TE := fun σ H Q => ∃ S fp ρ t ρ', RS K S σ H ρ fp ∧ ev ρ = some (t, ρ') ∧ ∀ S' fp' v H' G, Aft K σ S fp H ρ S' fp' H' ρ' → Hand K S' fp' H' v t G → (∀ a, G a → (∃ j, fp j a) ∨ H a = none) → Q v H'
theorem hand_lst {K : PySem.W.Frag} {σ : L2.St} {S S1 : Addr → Prop} {fp fp1 : Nat → Fp} {H H1 : Hp} {ρ ρ1 : Env} {p : Addr} {vs : List V} {ds : List D} (A : Aft K σ S fp H ρ S1 fp1 H1 ρ1) (hp : H1 p = none) (rr : Reps K S1 H1 vs ds) :
    Aft K σ S fp H ρ S1 fp1 (upd H1 p (.lst vs)) ρ1 ∧ Hand K S1 fp1 (upd H1 p (.lst vs)) (.ref p) (.lst (ds.map .sh)) (fun a => a = p) ∧ H p = none := by
  have hp0 : H p = none := none_of_live A.fr.live hp
  have kp := upd_grow (H := H1) (p := p) (u := HO.lst vs) hp
  have M : Mine S1 fp1 (upd H1 p (.lst vs)) p (.lst vs) := ⟨upd_same, fun s => (by obtain ⟨o, eo⟩ := A.rs.live p s; rw [hp] at eo; cases eo), fun i g => (by obtain ⟨o, eo⟩ := A.rs.flive i p g; rw [hp] at eo; cases eo)⟩
  exact ⟨A.trans ⟨Fr.grow kp (fun _ s => s) fun a s => .inl s, Bk.refl, A.rs.grow kp (fun _ s => s) fun a s => .inl s⟩, M.hand (rr.mono ⟨fun a o _ e => kp a o e, fun _ s => s⟩), hp0⟩
theorem h_lst {es : List Expr} {xs : Exs} (h : PA X es (rdVs X.K (evEs cl xs))) : PE X (.List es pos) (rdH X.K (evOwn cl (.lst xs))) := by
  refine (pe_lst h).weak fun σ H Q h => ?_
  obtain ⟨S, fp, ρ, t, ρ', r, e, q⟩ := h
  unfold evOwn at e
  obtain ⟨ys, ρ1, e1, e⟩ := bnd_eq e
  obtain ⟨e5, e6⟩ := giv_eq e
  subst e6
  cases hl : lstD ys with
  | none => rw [hl] at e5; cases e5
  | some ds =>
    rw [hl] at e5
    cases e5
    obtain ⟨h1, h2⟩ := lst_of hl
    refine ⟨S, fp, ρ, ys, _, r, e1, fun S1 fp1 vs H1 A1 o1 => ?_⟩
    have rr := o1.strong h1
    refine ⟨by rw [rr.length]; exact h2, fun p hp => ?_⟩
    obtain ⟨A, hh, hp0⟩ := hand_lst A1 hp rr
    exact q _ _ _ _ _ A hh fun a g => .inr (by rw [g]; exact hp0)
theorem h_rep {lp} (ha : PE X a (rdV X.K (evE cl xa))) (hn : PE X n (rdV X.K (evE cl xn))) (hs : notStar a = true) : PE X (.BinOp (.List [a] lp) .Mult n pos) (rdH X.K (evOwn cl (.rep xa xn))) := by
  refine (pe_op op_rep (pe_lst (pa_cons ha pa_nil (starEach_cons hs))) hn).weak fun σ H Q h => ?_
  obtain ⟨S, fp, ρ, t, ρ', r, e, q⟩ := h
  unfold evOwn at e
  obtain ⟨x, ρ1, e1, e⟩ := bnd_eq e
  obtain ⟨y, ρ2, e2, e⟩ := bnd_eq e
  obtain ⟨e5, e6⟩ := giv_eq e
  subst e6
  cases hd : repD x y with
  | none => rw [hd] at e5; cases e5
  | some ds =>
    rw [hd] at e5
    cases e5
    refine rep_core r e1 e2 hd fun S' fp' H' vs p A rr hp => ?_
    obtain ⟨A, hh, hp0⟩ := hand_lst A hp rr
    exact q _ _ _ _ _ A hh fun a g => .inr (by rw [g]; exact hp0)
theorem h_sl {lo hi : Option Expr} {xl xh : Eo} {p2} (ha : PE X a (rdV X.K (evE cl xa))) (hl : PO X lo (rdO X.K (evO cl xl))) (hh : PO X hi (rdO X.K (evO cl xh))) : PE X (.Subscript a (.Slice lo hi none p2) pos) (rdH X.K (evOwn cl (.sl xa xl xh))) := by
  refine (pe_slice sl_list ha hl hh).weak fun σ H Q h => ?_
  obtain ⟨S, fp, ρ, t, ρ', r, e, q⟩ := h
  unfold evOwn at e
  obtain ⟨w, ρ0, e, e0⟩ := bnd_eq e
  split at e0
  · cases e0
    unfold evE at e
    obtain ⟨x, ρ1, e1, e⟩ := bnd_eq e
    obtain ⟨l, ρ2, e2, e⟩ := bnd_eq e
    obtain ⟨u, ρ3, e3, e⟩ := bnd_eq e
    obtain ⟨e5, e6⟩ := giv_eq e
    subst e6
    cases hx : x.st with
    | none => rw [hx] at e5; cases e5
    | some d =>
      rw [hx] at e5
      simp only [Option.bind_some, Option.map_eq_some_iff, AV.dat.injEq] at e5
      obtain ⟨d2, hd, rfl⟩ := e5
      cases d <;> simp only [slD, reduceCtorEq, Option.some.injEq, PyData.list.injEq] at hd
      case list xs =>
        subst hd
        refine ⟨S, fp, ρ, x, ρ1, r, e1, fun S1 fp1 vx H1 A1 o1 => ⟨S1, fp1, ρ1, l, ρ2, A1.rs, e2, fun S2 fp2 H2 A2 => ⟨S2, fp2, ρ2, u, _, A2.rs, e3, fun S3 fp3 H3 A3 => ?_⟩⟩⟩
        have o := (o1.strong hx).mono ((A1.rs.ext A2.fr).trans (A2.rs.ext A3.fr))
        cases o with
        | lst la rr =>
          refine ⟨_, _, rfl, la.sq, fun p hp => ?_⟩
          obtain ⟨A, hh, hp0⟩ := hand_lst ((A1.trans A2).trans A3) hp (rr.cut l u)
          exact q _ _ _ _ _ A hh fun a g => .inr (by rw [g]; exact hp0)
      case str z => split at hd <;> cases hd
  · cases e0
theorem op_catL : OpR X (binaryOp .Add) (fun x y H Q => ∃ l b xs zs, x = .ref l ∧ y = .ref b ∧ SqL X.K H l xs ∧ SqL X.K H b zs ∧ xs.length + zs.length ≤ sizeLine ∧ ∀ p, H p = none → Q (.ref p) (upd H p (.lst (xs ++ zs)))) := by
  intro pins s σ H x y v u Q I rx ry h
  obtain ⟨l, b, xs, zs, rfl, rfl, h1, h2, h3, q⟩ := h
  cases rx; cases ry
  exact cat_any I h1 h2 h3 q
theorem h_cat (ha : PE X a (rdV X.K (evE cl xa))) (hb : PE X b (rdV X.K (evE cl xb))) : PE X (.BinOp a .Add b pos) (rdH X.K (evOwn cl (.op .add xa xb))) := by
  refine (pe_op op_catL ha hb).weak fun σ H Q h => ?_
  obtain ⟨S, fp, ρ, t, ρ', r, e, q⟩ := h
  unfold evOwn at e
  obtain ⟨w, ρ0, e, e0⟩ := bnd_eq e
  split at e0
  · cases e0
    unfold evE at e
    obtain ⟨x, ρ1, e1, e⟩ := bnd_eq e
    obtain ⟨y, ρ2, e2, e⟩ := bnd_eq e
    obtain ⟨e5, e6⟩ := giv_eq e
    subst e6
    cases hx : x.st with
    | none => rw [hx] at e5; cases e5
    | some d1 =>
      cases hy : y.st with
      | none => rw [hx, hy] at e5; cases e5
      | some d2 =>
        rw [hx, hy] at e5
        simp only [Option.bind_some, Option.map_eq_some_iff, AV.dat.injEq] at e5
        obtain ⟨d3, hd, rfl⟩ := e5
        cases d1 <;> cases d2 <;> simp only [O2.f, reduceCtorEq, Option.some.injEq] at hd
        case list.list xs ys =>
          split at hd
          · rename_i hz
            cases hd
            refine ⟨S, fp, ρ, x, ρ1, r, e1, fun S1 fp1 vx H1 A1 o1 => ⟨S1, fp1, ρ1, y, _, A1.rs, e2, fun S2 fp2 vy H2 A2 o2 => ?_⟩⟩
            have o1' := (o1.strong hx).mono (A1.rs.ext A2.fr)
            have o2' := o2.strong hy
            cases o1' with
            | lst la rr =>
              cases o2' with
              | lst lb rr2 =>
                refine ⟨_, _, _, _, rfl, rfl, la.sq, lb.sq, by rw [rr.length, rr2.length]; exact hz, fun p hp => ?_⟩
                obtain ⟨A, hh, hp0⟩ := hand_lst (A1.trans A2) hp (rr.append rr2)
                exact q _ _ _ _ _ A hh fun a g => .inr (by rw [g]; exact hp0)
          · cases hd
        all_goals (first | (split at hd <;> cases hd))
  · cases e0
theorem h_lrg {p2 p3 : Pos} (hc : X.calm = true) (hg : Gl X "list") (hm : X.mg "list" = none) (hg2 : Gl X "range") (hm2 : X.mg "range" = none) (ha : PE X a (rdV X.K (evE cl xa))) (hs : notStar a = true) :
    PE X (.Call (.Name "list" p) [.Call (.Name "range" p2) [a] [] p3] [] pos) (rdH X.K (evOwn cl (.lrg xa))) := by
  refine (p_lrg hc hg hm hg2 hm2 ha hs).weak fun σ H Q h => ?_
  obtain ⟨S, fp, ρ, t, ρ', r, e, q⟩ := h
  unfold evOwn at e
  obtain ⟨w, ρ0, e, e0⟩ := bnd_eq e
  obtain ⟨n, e1, h1, h2, rfl⟩ := lrg_inv e
  cases e0
  refine lrg_core r e1 h1 h2 fun S' fp' H' p A hp => ?_
  obtain ⟨A, hh, hp0⟩ := hand_lst A hp (rgV_reps 0 n)
  exact q _ _ _ _ _ A hh fun a g => .inr (by rw [g]; exact hp0)
theorem h_bnl (hg : Gl X "list") (hm : X.mg "list" = none) (ha : PE X a (rdV X.K (evE cl xa))) (hs : notStar a = true) : PE X (.Call (.Name "list" p) [a] [] pos) (rdH X.K (evOwn cl (.bn .list (.cons xa .nil)))) := by
  refine (pe_callTy (T := "list") call_list_of hg hm (by decide +kernel) (s_cons ha s_nil hs) (by decide +kernel) (by decide +kernel) (starEach_cons hs) (starEach_none rfl)).weak fun σ H Q h => ?_
  obtain ⟨S, fp, ρ, t, ρ', r, e, q⟩ := h
  unfold evOwn at e
  obtain ⟨w, ρ0, e, e0⟩ := bnd_eq e
  split at e0
  · cases e0
    unfold evE at e
    obtain ⟨xs, ρ1, e1, e⟩ := bnd_eq e
    obtain ⟨e5, e6⟩ := giv_eq e
    subst e6
    refine ⟨S, fp, ρ, xs, _, r, e1, fun S1 fp1 vs H1 A1 o1 => ?_⟩
    cases hw : sts xs with
    | none => rw [hw] at e5; cases e5
    | some ds =>
      rw [hw] at e5
      simp only [Option.bind_some, Option.map_eq_some_iff, AV.dat.injEq] at e5
      obtain ⟨d, hd, rfl⟩ := e5
      have rr := o1.strong hw
      unfold Bn.f at hd
      split at hd <;> first | contradiction | skip
      · cases hd
        obtain ⟨v1, rfl, r1⟩ := Reps.one rr
        cases r1 with
        | lst la r2 =>
          refine ⟨_, _, rfl, .inl la.sq, fun p hp => ?_⟩
          obtain ⟨A, hh, hp0⟩ := hand_lst A1 hp r2
          exact q _ _ _ _ _ A hh fun a g => .inr (by rw [g]; exact hp0)
      · cases hd
        obtain ⟨v1, rfl, r1⟩ := Reps.one rr
        cases r1 with
        | tup la r2 =>
          refine ⟨_, _, rfl, .inr la.sq, fun p hp => ?_⟩
          obtain ⟨A, hh, hp0⟩ := hand_lst A1 hp r2
          exact q _ _ _ _ _ A hh fun a g => .inr (by rw [g]; exact hp0)
      all_goals (first | (unfold minF at hd; split at hd <;> first | cases hd | (split at hd <;> cases hd)) | skip)
  · cases e0
theorem h_dct (h : PPs X pos keys values (trsOf X.K cl ks es)) (hall : keys.all (·.isSome) = true) (hl : keys.length = values.length) (h0 : keys ≠ []) (h15 : keys.length ≤ 15) : PE X (.Dict keys values pos) (rdH X.K (evOwn cl (.dct ks es))) := by
  refine (pe_disp h hall hl h0 h15).weak fun σ H Q h => ?_
  obtain ⟨S, fp, ρ, t, ρ', r, e, q⟩ := h
  unfold evOwn at e
  obtain ⟨xs, ρ1, e1, e⟩ := bnd_eq e
  obtain ⟨e5, e6⟩ := giv_eq e
  subst e6
  simp only [Option.map_eq_some_iff] at e5
  obtain ⟨kds, hk, rfl⟩ := e5
  refine disp_core r e1 hk fun S1 fp1 H1 p kvs A1 M1 hp k1 r1 => ?_
  refine q _ _ _ _ (fun a => a = p) A1 ⟨?_, fun a g => by rw [g]; exact M1.ns, fun i a g => by rw [g]; exact M1.nf i⟩ fun a g => .inr (by rw [g]; exact hp)
  unfold RepO
  exact ⟨p, kvs, rfl, M1.at_, fun _ => Iff.rfl, k1, r1⟩
/-- x = e, the value one's own -/
theorem s_own {i : Nat} {x : Str} (hN : X.N.Nodup) (hi : X.N[i]? = some x) (hx : Loc X.env.scope x) (hf : X.fn x = true ∨ X.env.scope.names.lookup x = some .local) (ha : PE X a (rdH X.K (evOwn cl xa))) (hs : swapsWithSole [.Name x p] a pos.line X.env = pure false) :
    PS X (.Assign [.Name x p] a pos) (rdS X.K (evS cl fu (.own i xa))) := by
  refine (ps_asg ha (pg_name hN hi hx hf) hs rfl rfl).weak fun D σ H h => ?_
  obtain ⟨S, fp, ρ, fl, r, e, w⟩ := h
  unfold evS at e
  obtain ⟨t, ρ1, e1, e⟩ := bnd_eq e
  split at e
  · rename_i hh
    cases e
    refine ⟨S, fp, ρ, t, ρ1, r, e1, fun S1 fp1 v H1 G A1 h1 hG => ?_⟩
    exact w _ _ _ _ (AftS.set A1.rs A1.s h1 hG hh.1 hh.2)
  · cases e
theorem s_reto (ha : PE X a (rdH X.K (evOwn cl xa))) : PS X (.Return (some a) pos) (rdS X.K (evS cl fu (.reto xa))) := by
  refine (ps_ret ha).weak fun D σ H h => ?_
  obtain ⟨S, fp, ρ, fl, r, e, w⟩ := h
  unfold evS at e
  obtain ⟨t, ρ1, e1, e⟩ := bnd_eq e
  cases e
  exact ⟨S, fp, ρ, t, ρ1, r, e1, fun S1 fp1 v H1 G A1 h1 hG => w _ _ _ _ v G A1.s h1 hG⟩
end
end Pv

set_option Elab.async false
set_option linter.all false
set_option maxRecDepth 100000
set_option maxHeartbeats 4000000
/-! calls -/
namespace Pv
open PySem L2 C8

def isSh : OT → Bool
  | .sh _ => true
  | _ => false
def backE : List Bool → List OT → Option Env
  | [], [] => some []
  | true :: bs, t :: ts => (backE bs ts).map (.val true t :: ·)
  | false :: bs, _ :: ts => (backE bs ts).map (.non :: ·)
  | _, _ => none
theorem startE_cons {b : Bool} {bs : List Bool} {t : OT} {ts : List OT} {ρ : Env} (h : startE (b :: bs) (t :: ts) = some ρ) : ∃ ρ0, startE bs ts = some ρ0 ∧ ρ = Slot.val b t :: ρ0 ∧ isSh t = !b := by
  cases b with
  | true =>
    cases t <;> simp only [startE, reduceCtorEq, Option.map_eq_some_iff] at h <;> (obtain ⟨ρ0, h1, rfl⟩ := h; exact ⟨ρ0, h1, rfl, rfl⟩)
  | false =>
    cases t <;> simp only [startE, reduceCtorEq, Option.map_eq_some_iff] at h
    obtain ⟨ρ0, h1, rfl⟩ := h
    exact ⟨ρ0, h1, rfl, rfl⟩
theorem startE_spec : ∀ {lent : List Bool} {ts : List OT} {ρ : Env}, startE lent ts = some ρ → ρ.length = lent.length ∧ ts.length = lent.length ∧ ∀ (j : Nat) s, ρ[j]? = some s → ∃ b t, lent[j]? = some b ∧ ts[j]? = some t ∧ s = Slot.val b t ∧ isSh t = !b
  | [], [], _, h => by cases h; exact ⟨rfl, rfl, fun j s e => by simp at e⟩
  | b :: bs, t :: ts, ρ, h => by
    obtain ⟨ρ0, h1, rfl, h2⟩ := startE_cons h
    obtain ⟨i1, i2, i3⟩ := startE_spec h1
    refine ⟨by simp [i1], by simp [i2], fun j s e => ?_⟩
    cases j with
    | zero => simp at e; subst e; exact ⟨b, t, rfl, rfl, rfl, h2⟩
    | succ j => simpa using i3 j s (by simpa using e)
  | [], _ :: _, _, h => by simp [startE] at h
  | true :: _, [], _, h => by simp [startE] at h
  | false :: _, [], _, h => by simp [startE] at h
theorem backE_spec : ∀ {lent : List Bool} {ts : List OT} {ρ : Env}, backE lent ts = some ρ → ρ.length = lent.length ∧ ts.length = lent.length ∧ ∀ (j : Nat) (t : OT), lent[j]? = some true → ts[j]? = some t → ρ[j]? = some (Slot.val true t)
  | [], [], _, h => by cases h; exact ⟨rfl, rfl, fun j s e => by simp at e⟩
  | true :: bs, t :: ts, ρ, h => by
    simp only [backE, Option.map_eq_some_iff] at h
    obtain ⟨ρ0, h1, rfl⟩ := h
    obtain ⟨i1, i2, i3⟩ := backE_spec h1
    refine ⟨by simp [i1], by simp [i2], fun j s e e2 => ?_⟩
    cases j with
    | zero => simp at e2; subst e2; rfl
    | succ j => simpa using i3 j s (by simpa using e) (by simpa using e2)
  | false :: bs, t :: ts, ρ, h => by
    simp only [backE, Option.map_eq_some_iff] at h
    obtain ⟨ρ0, h1, rfl⟩ := h
    obtain ⟨i1, i2, i3⟩ := backE_spec h1
    refine ⟨by simp [i1], by simp [i2], fun j s e e2 => ?_⟩
    cases j with
    | zero => simp at e
    | succ j => simpa using i3 j s (by simpa using e) (by simpa using e2)
  | [], _ :: _, _, h => by simp [backE] at h
  | true :: _, [], _, h => by simp [backE] at h
  | false :: _, [], _, h => by simp [backE] at h
theorem argTs_spec {ρ : Env} : ∀ {xs : List AV} {ts : List OT}, argTs ρ xs = some ts → ts.length = xs.length ∧ ∀ (j : Nat) (x : AV), xs[j]? = some x → ∃ t, ts[j]? = some t ∧ argT ρ x = some t
  | [], _, h => by cases h; exact ⟨rfl, fun j x e => by simp at e⟩
  | a :: as, ts, h => by
    unfold argTs at h
    cases q1 : argT ρ a with
    | none => rw [q1] at h; cases h
    | some t =>
      cases q2 : argTs ρ as with
      | none => rw [q1, q2] at h; cases h
      | some ts0 =>
        rw [q1, q2] at h
        cases h
        obtain ⟨i1, i2⟩ := argTs_spec q2
        refine ⟨by simp [i1], fun j x e => ?_⟩
        cases j with
        | zero => simp at e; subst e; exact ⟨t, rfl, q1⟩
        | succ j => simpa using i2 j x (by simpa using e)
/-- the lent ones stand once -/
def Uq (xs : List AV) : Prop := ∀ j l i : Nat, xs[j]? = some (AV.pk i) → xs[l]? = some (AV.pk i) → j = l
theorem mem_lentOf {i : Nat} : ∀ {xs : List AV} {j : Nat}, xs[j]? = some (AV.pk i) → i ∈ lentOf xs
  | [], j, h => by simp at h
  | .dat d :: xs, 0, h => by simp at h
  | .dat d :: xs, j + 1, h => by unfold lentOf; exact mem_lentOf (j := j) (by simpa using h)
  | .pk k :: xs, 0, h => by simp at h; subst h; unfold lentOf; exact List.mem_cons_self
  | .pk k :: xs, j + 1, h => by unfold lentOf; exact List.mem_cons_of_mem _ (mem_lentOf (j := j) (by simpa using h))
theorem Uq.of : ∀ {xs : List AV}, (lentOf xs).Nodup → Uq xs
  | [], _ => fun j l i h _ => by simp at h
  | .dat d :: xs, h => fun j l i h1 h2 => by
    unfold lentOf at h
    cases j with
    | zero => simp at h1
    | succ j =>
      cases l with
      | zero => simp at h2
      | succ l => exact congrArg (· + 1) (Uq.of h j l i (by simpa using h1) (by simpa using h2))
  | .pk k :: xs, h => fun j l i h1 h2 => by
    unfold lentOf at h
    obtain ⟨n1, n2⟩ := List.nodup_cons.mp h
    cases j with
    | zero =>
      simp at h1
      subst h1
      cases l with
      | zero => rfl
      | succ l => exact absurd (mem_lentOf (j := l) (by simpa using h2)) n1
    | succ j =>
      cases l with
      | zero =>
        simp at h2
        subst h2
        exact absurd (mem_lentOf (j := j) (by simpa using h1)) n1
      | succ l => exact congrArg (· + 1) (Uq.of n2 j l i (by simpa using h1) (by simpa using h2))
theorem backT_spec : ∀ {xs : List AV} {ts : List OT} {ρ1 ρ2 : Env}, backT ρ1 xs ts = some ρ2 → Uq xs → ρ2.length = ρ1.length ∧ ts.length = xs.length ∧ (∀ i : Nat, (∀ j : Nat, xs[j]? ≠ some (AV.pk i)) → ρ2[i]? = ρ1[i]?) ∧
    ∀ i j : Nat, xs[j]? = some (AV.pk i) → ∃ b t0 t', ρ1[i]? = some (Slot.val b t0) ∧ ts[j]? = some t' ∧ ρ2[i]? = some (Slot.val b t')
  | [], [], _, _, h, _ => by cases h; exact ⟨rfl, rfl, fun _ _ => rfl, fun i j e => by simp at e⟩
  | .dat d :: xs, t :: ts, ρ1, ρ2, h, u => by
    unfold backT at h
    obtain ⟨i1, i2, i3, i4⟩ := backT_spec h fun j l i h1 h2 => Nat.succ.inj (u (j + 1) (l + 1) i (by simpa using h1) (by simpa using h2))
    refine ⟨i1, by simp [i2], fun i hi => i3 i fun j hj => hi (j + 1) (by simpa using hj), fun i j e => ?_⟩
    cases j with
    | zero => simp at e
    | succ j => simpa using i4 i j (by simpa using e)
  | .pk k :: xs, t :: ts, ρ1, ρ2, h, u => by
    unfold backT at h
    split at h
    · rename_i b t0 q0
      have hk : k < ρ1.length := (List.getElem?_eq_some_iff.mp q0).1
      have nk : ∀ j : Nat, xs[j]? ≠ some (AV.pk k) := fun j hj => by
        have := u (j + 1) 0 k (by simpa using hj) rfl
        omega
      obtain ⟨i1, i2, i3, i4⟩ := backT_spec h fun j l i h1 h2 => Nat.succ.inj (u (j + 1) (l + 1) i (by simpa using h1) (by simpa using h2))
      refine ⟨by rw [i1, List.length_set], by simp [i2], fun i hi => ?_, fun i j e => ?_⟩
      · have hik : i ≠ k := fun z => hi 0 (by rw [z]; rfl)
        rw [i3 i fun j hj => hi (j + 1) (by simpa using hj), List.getElem?_set_ne (Ne.symm hik)]
      · cases j with
        | zero =>
          simp at e
          subst e
          exact ⟨b, t0, t, q0, rfl, by rw [i3 k nk, List.getElem?_set_self hk]⟩
        | succ j =>
          have e' : xs[j]? = some (AV.pk i) := by simpa using e
          obtain ⟨b', t0', t', g1, g2, g3⟩ := i4 i j e'
          have hik : i ≠ k := fun z => nk j (by rw [← z]; exact e')
          rw [List.getElem?_set_ne (Ne.symm hik)] at g1
          exact ⟨b', t0', t', g1, by simpa using g2, g3⟩
    · cases h
  | [], _ :: _, _, _, h, _ => by unfold backT at h; cases h
  | .dat _ :: _, [], _, _, h, _ => by unfold backT at h; cases h
  | .pk _ :: _, [], _, _, h, _ => by unfold backT at h; cases h
theorem ArgsOk.get {K : PySem.W.Frag} {S : Addr → Prop} {H : Hp} {σ : L2.St} : ∀ {vs : List V} {xs : List AV}, ArgsOk K S H σ vs xs → vs.length = xs.length ∧ ∀ (j : Nat) (x : AV), xs[j]? = some x → ∃ v, vs[j]? = some v ∧ ArgOk K S H σ v x
  | _, _, .nil => ⟨rfl, fun j x e => by simp at e⟩
  | _, _, .cons a b => by
    obtain ⟨i1, i2⟩ := ArgsOk.get b
    refine ⟨by simp [i1], fun j x e => ?_⟩
    cases j with
    | zero => simp at e; subst e; exact ⟨_, rfl, a⟩
    | succ j => simpa using i2 j x (by simpa using e)

/-- a def's promise, by the evaluator -/
def spF (K : PySem.W.Frag) (lent : List Bool) (cl : List OT → Option (OT × List OT)) : Sp := fun vs H Q _ => ∃ S ρ fp ts t ts' ρb, startE lent ts = some ρ ∧ RS K S (vs.map some) H ρ fp ∧ cl ts = some (t, ts') ∧ backE lent ts' = some ρb ∧
  ∀ S' fp' H' v G, Fr true S fp H S' fp' H' → RS K S' (vs.map some) H' ρb fp' → Hand K S' fp' H' v t G → (∀ a, G a → (∃ j, fp j a) ∨ H a = none) → Q v H'
theorem spF_len {K : PySem.W.Frag} {lent : List Bool} {cl : List OT → Option (OT × List OT)} : ∀ vs H Q E, spF K lent cl vs H Q E → vs.length = lent.length := by
  intro vs H Q E h
  obtain ⟨S, ρ, fp, ts, t, ts', ρb, h1, r, _⟩ := h
  have := r.len
  rw [List.length_map] at this
  rw [← this, (startE_spec h1).1]

section
variable {K : PySem.W.Frag} {σ : L2.St}
/-- what is in hand becomes shared -/
theorem Aft.shareH {S S1 : Addr → Prop} {fp fp1 : Nat → Fp} {H H1 : Hp} {ρ ρ1 : Env} {v : V} {t : OT} {G : Fp} {d : D} (A : Aft K σ S fp H ρ S1 fp1 H1 ρ1) (h : Hand K S1 fp1 H1 v t G) (hG : ∀ a, G a → (∃ j, fp j a) ∨ H a = none) (hd : t.fz = some d) :
    Aft K σ S fp H ρ (fun a => S1 a ∨ G a) fp1 H1 ρ1 ∧ Rep K (fun a => S1 a ∨ G a) H1 v d := by
  refine ⟨⟨⟨A.fr.keep, A.fr.live, fun a s => .inl (A.fr.sub a s), fun a s => s.elim (A.fr.newS a) fun g => .inr (hG a g), A.fr.newF⟩, A.bk,
    ⟨A.rs.len, fun a s => s.elim (A.rs.live a) fun g => h.rep.live a g, fun i s e => (A.rs.slot i s e).mono ⟨fun _ _ _ e => e, fun _ s => .inl s⟩ fun _ _ _ e => e, fun i a g s => s.elim (A.rs.out i a g) fun z => h.dis i a z g, A.rs.dis, A.rs.lim⟩⟩, ?_⟩
  exact h.rep.fz (fun _ s => .inl s) hd fun a g => .inr g
theorem argT_sh {ρ : Env} {i : Nat} {t : OT} (h : argT ρ (AV.pk i) = some t) : ∃ b, ρ[i]? = some (.val b t) ∧ isSh t = false := by
  unfold argT at h
  simp only at h
  split at h
  · cases h
  · rename_i b t0 hn q0
    cases h
    refine ⟨b, q0, ?_⟩
    cases t <;> first | rfl | exact (hn _ rfl).elim | exact (hn _ _ rfl).elim | simp_all
  · cases h
/-- the parameters' frame -/
def fpA (xs : List AV) (fp : Nat → Fp) : Nat → Fp := fun j a => ∃ i, xs[j]? = some (AV.pk i) ∧ fp i a
theorem frame_in {S : Addr → Prop} {fp : Nat → Fp} {H : Hp} {ρ ρp : Env} {vs : List V} {xs : List AV} {ts : List OT} {lent : List Bool} (r : RS K S σ H ρ fp) (ao : ArgsOk K S H σ vs xs) (u : Uq xs) (ha : argTs ρ xs = some ts) (hs : startE lent ts = some ρp) :
    RS K S (vs.map some) H ρp (fpA xs fp) := by
  obtain ⟨s1, s2, s3⟩ := startE_spec hs
  obtain ⟨a1, a2⟩ := argTs_spec ha
  obtain ⟨o1, o2⟩ := ao.get
  refine ⟨by rw [List.length_map]; omega, r.live, fun j s e => ?_, fun j a ⟨i, _, g⟩ => r.out i a g, fun j l a ⟨i, h1, g1⟩ ⟨i', h2, g2⟩ => ?_, fun j hj a ⟨i, h1, _⟩ => ?_⟩
  · obtain ⟨b, t, _, h2, rfl, h4⟩ := s3 j s e
    have hj : j < xs.length := by rw [← a1]; exact (List.getElem?_eq_some_iff.mp h2).1
    obtain ⟨x, hx⟩ : ∃ x, xs[j]? = some x := ⟨_, List.getElem?_eq_getElem hj⟩
    obtain ⟨t', ht', hat⟩ := a2 j x hx
    rw [h2] at ht'
    cases ht'
    obtain ⟨v, hv, ho⟩ := o2 j x hx
    refine ⟨v, by rw [List.getElem?_map, hv]; rfl, ?_⟩
    cases x with
    | dat d =>
      cases hat
      unfold RepO
      exact ⟨fun a ⟨i, h, _⟩ => (by rw [hx] at h; cases h), ho⟩
    | pk i =>
      obtain ⟨b', q0, _⟩ := argT_sh hat
      obtain ⟨w, h5, h6⟩ := r.val q0
      have ho : σ[i]? = some (some v) := ho
      rw [ho] at h5
      cases h5
      refine h6.eqv fun a => ⟨fun g => ⟨i, hx, g⟩, fun ⟨i', h, g⟩ => ?_⟩
      rw [hx] at h
      cases h
      exact g
  · have := r.dis i i' a g1 g2
    subst this
    exact u j l i h1 h2
  · have : j < xs.length := (List.getElem?_eq_some_iff.mp h1).1
    omega
theorem frame_out {S S' : Addr → Prop} {fp fpq : Nat → Fp} {H H' : Hp} {ρ ρ2 ρb ρp : Env} {vs : List V} {xs : List AV} {ts ts' : List OT} {lent : List Bool} (r : RS K S σ H ρ fp) (ao : ArgsOk K S H σ vs xs) (u : Uq xs) (ha : argTs ρ xs = some ts) (hs : startE lent ts = some ρp)
    (f : Fr true S (fpA xs fp) H S' fpq H') (rb : RS K S' (vs.map some) H' ρb fpq) (hb : backE lent ts' = some ρb) (hk : backT ρ xs ts' = some ρ2) :
    ∃ fp2, Aft K σ S fp H ρ S' fp2 H' ρ2 ∧ (∀ v t G, Hand K S' fpq H' v t G → (∀ a, G a → (∃ j, fpA xs fp j a) ∨ H a = none) → Hand K S' fp2 H' v t G ∧ ∀ a, G a → (∃ j, fp j a) ∨ H a = none) := by
  obtain ⟨k1, k2, k3, k4⟩ := backT_spec hk u
  obtain ⟨a1, a2⟩ := argTs_spec ha
  obtain ⟨o1, o2⟩ := ao.get
  obtain ⟨b1, b2, b3⟩ := backE_spec hb
  obtain ⟨s1, s2, s3⟩ := startE_spec hs
  have lentAt : ∀ j i, xs[j]? = some (AV.pk i) → lent[j]? = some true := fun j i h => by
    obtain ⟨t, ht, hat⟩ := a2 j _ h
    obtain ⟨b', q0, hsh⟩ := argT_sh hat
    have hj : j < ρp.length := by rw [s1, ← s2]; exact (List.getElem?_eq_some_iff.mp ht).1
    obtain ⟨b, t2, g1, g2, _, g4⟩ := s3 j _ (List.getElem?_eq_getElem hj)
    rw [ht] at g2
    cases g2
    rw [hsh] at g4
    cases b
    · cases g4
    · exact g1
  -- an object of a slot that is not lent is none of the frame's
  have notIn : ∀ i a, (∀ j : Nat, xs[j]? ≠ some (AV.pk i)) → fp i a → (∀ j, ¬ fpA xs fp j a) := fun i a hn g j ⟨i', h1, g'⟩ => by
    have := r.dis i i' a g g'
    subst this
    exact hn j h1
  have ext : Ext S H S' H' := f.ext fun j a ⟨i, _, g⟩ => r.out i a g
  have lentOr : ∀ i, (∃ j : Nat, xs[j]? = some (AV.pk i)) ∨ ∀ j : Nat, xs[j]? ≠ some (AV.pk i) := fun i => by
    by_cases h : ∃ j : Nat, xs[j]? = some (AV.pk i)
    · exact .inl h
    · exact .inr fun j hj => h ⟨j, hj⟩
  refine ⟨fun i a => (∃ j, xs[j]? = some (AV.pk i) ∧ fpq j a) ∨ ((∀ j : Nat, xs[j]? ≠ some (AV.pk i)) ∧ fp i a), ⟨⟨fun a o e k => ?_, f.live, f.sub, fun a s => ?_, fun i a g => ?_⟩, fun i t' e => ?_, ⟨by rw [k1, r.len], rb.live, fun i s e => ?_, fun i a g => ?_, fun i i' a g g' => ?_, fun i hi a g => ?_⟩⟩, fun v t G h hG => ⟨⟨h.rep, h.out, fun i a g q => ?_⟩, fun a g => ?_⟩⟩
  · exact f.keep a o e fun _ j ⟨i, _, g⟩ => k rfl i g
  · rcases f.newS a s with z | ⟨j, i, _, g⟩ | z
    · exact .inl z
    · exact .inr (.inl ⟨i, g⟩)
    · exact .inr (.inr z)
  · rcases g with ⟨j, h1, g⟩ | ⟨_, g⟩
    · rcases f.newF j a g with ⟨l, i', _, z⟩ | z
      · exact .inl ⟨i', z⟩
      · exact .inr z
    · exact .inl ⟨i, g⟩
  · rcases lentOr i with ⟨j, hj⟩ | hn
    · obtain ⟨b, t0, t2, g1, g2, g3⟩ := k4 i j hj
      rw [g3] at e
      cases e
      exact ⟨t0, g1⟩
    · rw [k3 i hn] at e
      exact ⟨t', e⟩
  · rcases lentOr i with ⟨j, hj⟩ | hn
    · obtain ⟨b, t0, t2, g1, g2, g3⟩ := k4 i j hj
      rw [g3] at e
      cases e
      obtain ⟨v, hv, ho⟩ := o2 j _ hj
      have ho : σ[i]? = some (some v) := ho
      obtain ⟨w, h5, h6⟩ := rb.val (b3 j t2 (lentAt j i hj) g2)
      rw [List.getElem?_map, hv] at h5
      cases h5
      refine ⟨v, by rw [ho]; rfl, h6.eqv fun a => ⟨fun g => .inl ⟨j, hj, g⟩, fun g => ?_⟩⟩
      rcases g with ⟨l, hl, g⟩ | ⟨z, _⟩
      · rw [u j l i hj hl]; exact g
      · exact absurd hj (z j)
    · rw [k3 i hn] at e
      have q := r.slot i s e
      have e2 : (fun a => (∃ j, xs[j]? = some (AV.pk i) ∧ fpq j a) ∨ ((∀ j : Nat, xs[j]? ≠ some (AV.pk i)) ∧ fp i a)) = fp i := by
        funext a
        exact propext ⟨fun g => g.elim (fun ⟨j, hj, _⟩ => absurd hj (hn j)) fun z => z.2, fun g => .inr ⟨hn, g⟩⟩
      show SlotOk K S' H' _ s (fun a => (∃ j, xs[j]? = some (AV.pk i) ∧ fpq j a) ∨ ((∀ j : Nat, xs[j]? ≠ some (AV.pk i)) ∧ fp i a))
      rw [e2]
      exact q.mono ext fun a o g e => f.keep a o e fun _ => notIn i a hn g
  · rcases g with ⟨j, h1, g⟩ | ⟨hn, g⟩
    · exact rb.out j a g
    · intro s
      rcases f.newS a s with z | ⟨j, z⟩ | z
      · exact r.out i a g z
      · exact notIn i a hn g j z
      · obtain ⟨o, e⟩ := r.flive i a g
        rw [e] at z; cases z
  · have cross : ∀ j i a, fpq j a → (∀ l : Nat, xs[l]? ≠ some (AV.pk i)) → fp i a → False := fun j i a g hn g' => by
      rcases f.newF j a g with ⟨l, z⟩ | z
      · exact notIn i a hn g' l z
      · obtain ⟨o, e⟩ := r.flive i a g'
        rw [e] at z; cases z
    rcases g with ⟨j, h1, g⟩ | ⟨hn, g⟩ <;> rcases g' with ⟨j', h1', g'⟩ | ⟨hn', g'⟩
    · have := rb.dis j j' a g g'
      subst this
      rw [h1] at h1'
      cases h1'
      rfl
    · exact (cross j i' a g hn' g').elim
    · exact (cross j' i a g' hn g).elim
    · exact r.dis i i' a g g'
  · rw [k1] at hi
    rcases g with ⟨j, h1, g⟩ | ⟨hn, g⟩
    · obtain ⟨b, t0, t2, g1, _, _⟩ := k4 i j h1
      have := (List.getElem?_eq_some_iff.mp g1).1
      omega
    · exact r.lim i hi a g
  · rcases q with ⟨j, _, q⟩ | ⟨hn, q⟩
    · exact h.dis j a g q
    · rcases hG a g with ⟨j, z⟩ | z
      · exact notIn i a hn q j z
      · obtain ⟨o, e⟩ := r.flive i a q
        rw [e] at z; cases z
  · rcases hG a g with ⟨j, i, _, z⟩ | z
    · exact .inl ⟨i, z⟩
    · exact .inr z
end
end Pv

set_option Elab.async false
set_option linter.all false
set_option maxRecDepth 100000
set_option maxHeartbeats 4000000
/-! calls, defs -/
namespace Pv
open PySem L2 C8

section
variable {X : Cx} {cl : Cl} {a : Expr} {es : List Expr} {xs : Exs} {pos p : Pos} {f k : Nat} {x : Str} {lent : List Bool}
/-- a def that may be called: its promise is the evaluator's -/
structure CalE (X : Cx) (cl : Cl) (x : Str) (f : Nat) : Prop where
  ex : ∃ k lent, Cal X.prog X.w X.K X.mg X.base k x (spF X.K lent (cl f)) [] ∧ Room k X.A ∧ ∀ ts r, cl f ts = some r → (∃ ρ, startE lent ts = some ρ) ∧ ∃ ρb, backE lent r.2 = some ρb
theorem call_core {σ : L2.St} {H : Hp} {Q : VK} {S : Addr → Prop} {fp : Nat → Fp} {ρ ρ1 ρ2 : Env} {as : List AV} {ts ts' : List OT} {t : OT} {E : XK} (r : RS X.K S σ H ρ fp) (e1 : evEs cl xs ρ = some (as, ρ1)) (hu : (lentOf as).Nodup) (ha : argTs ρ1 as = some ts)
    (hc : cl f ts = some (t, ts')) (hb : backT ρ1 as ts' = some ρ2) (hst : ∀ ts r, cl f ts = some r → (∃ ρ, startE lent ts = some ρ) ∧ ∃ ρb, backE lent r.2 = some ρb)
    (q : ∀ S' fp' v H' G, Aft X.K σ S fp H ρ S' fp' H' ρ2 → Hand X.K S' fp' H' v t G → (∀ a, G a → (∃ j, fp j a) ∨ H a = none) → Q v H') :
    tCall (spF X.K lent (cl f)) [] E (rdVs X.K (evEs cl xs)) σ H Q := by
  refine ⟨S, fp, ρ, as, ρ1, r, e1, fun S1 fp1 vs H1 A1 o1 => ?_⟩
  show spF X.K lent (cl f) (vs ++ []) H1 Q E
  rw [List.append_nil]
  obtain ⟨⟨ρp, hs⟩, ρb, hbk⟩ := hst ts _ hc
  have u := Uq.of hu
  refine ⟨S1, ρp, fpA as fp1, ts, t, ts', ρb, hs, frame_in A1.rs o1 u ha hs, hc, hbk, fun S' fp' H' v G f' rb hh hG => ?_⟩
  obtain ⟨fp2, A2, hh2⟩ := frame_out A1.rs o1 u ha hs f' rb hbk hb
  obtain ⟨h3, h4⟩ := hh2 v t G hh hG
  refine q S' fp2 v H' G (A1.trans A2) h3 fun a g => ?_
  rcases h4 a g with ⟨j, z⟩ | z
  · exact A1.fr.newF j a z
  · exact .inr (none_of_live A1.fr.live z)
theorem s_call (c : CalE X cl x f) (hg : Gl X x) (ha : PA X (a :: es) (rdVs X.K (evEs cl xs))) (hs : (a :: es).all notStar = true) (hdb : (x == ("__debug__" : Str)) = false) :
    PE X (.Call (.Name x p) (a :: es) [] pos) (rdV X.K (evE cl (.call f xs))) := by
  obtain ⟨k, lent, hcal, hr, hst⟩ := c.ex
  rw [List.all_cons, Bool.and_eq_true] at hs
  refine (pe_c hcal hr (Nat.le_refl _) hg ha hdb (starEach_cons hs.1) (starEach_none hs.2)).weak fun σ H Q h => ?_
  obtain ⟨S, fp, ρ, av, ρ', r, e, q⟩ := h
  unfold evE at e
  obtain ⟨as, ρ1, e1, e⟩ := bnd_eq e
  split at e
  · rename_i hu
    split at e
    · rename_i t ts' hcl
      split at e
      · rename_i d ρ2 hd hb
        cases e
        simp only [Option.bind_eq_some_iff] at hcl
        obtain ⟨ts, hts, hcl⟩ := hcl
        refine call_core r e1 hu hts hcl hb hst fun S' fp' v H' G A hh hG => ?_
        obtain ⟨A2, rp⟩ := A.shareH hh hG hd
        exact q _ _ _ _ A2 rp
      · cases e
    · cases e
  · cases e
theorem h_call (c : CalE X cl x f) (hg : Gl X x) (ha : PA X (a :: es) (rdVs X.K (evEs cl xs))) (hs : (a :: es).all notStar = true) (hdb : (x == ("__debug__" : Str)) = false) :
    PE X (.Call (.Name x p) (a :: es) [] pos) (rdH X.K (evOwn cl (.call f xs))) := by
  obtain ⟨k, lent, hcal, hr, hst⟩ := c.ex
  rw [List.all_cons, Bool.and_eq_true] at hs
  refine (pe_c hcal hr (Nat.le_refl _) hg ha hdb (starEach_cons hs.1) (starEach_none hs.2)).weak fun σ H Q h => ?_
  obtain ⟨S, fp, ρ, t0, ρ', r, e, q⟩ := h
  unfold evOwn at e
  obtain ⟨as, ρ1, e1, e⟩ := bnd_eq e
  split at e
  · rename_i hu
    split at e
    · rename_i t ts' hcl
      split at e
      · rename_i ρ2 hb
        cases e
        simp only [Option.bind_eq_some_iff] at hcl
        obtain ⟨ts, hts, hcl⟩ := hcl
        exact call_core r e1 hu hts hcl hb hst fun S' fp' v H' G A hh hG => q _ _ _ _ G A hh hG
      · cases e
    · cases e
  · cases e
end

/-! ### defs -/
theorem backE_slots : ∀ {lent : List Bool} {ts : List OT} {ρ : Env}, backE lent ts = some ρ → ∀ (j : Nat) s, ρ[j]? = some s → (lent[j]? = some true ∧ ∃ t, ts[j]? = some t ∧ s = Slot.val true t) ∨ (lent[j]? = some false ∧ s = Slot.non)
  | [], [], _, h, j, s, e => by cases h; simp at e
  | true :: bs, t :: ts, ρ, h, j, s, e => by
    simp only [backE, Option.map_eq_some_iff] at h
    obtain ⟨ρ0, h1, rfl⟩ := h
    cases j with
    | zero => simp at e; subst e; exact .inl ⟨rfl, t, rfl, rfl⟩
    | succ j => simpa using backE_slots h1 j s (by simpa using e)
  | false :: bs, t :: ts, ρ, h, j, s, e => by
    simp only [backE, Option.map_eq_some_iff] at h
    obtain ⟨ρ0, h1, rfl⟩ := h
    cases j with
    | zero => simp at e; subst e; exact .inr ⟨rfl, rfl⟩
    | succ j => simpa using backE_slots h1 j s (by simpa using e)
  | [], _ :: _, _, h, _, _, _ => by simp [backE] at h
  | true :: _, [], _, h, _, _, _ => by simp [backE] at h
  | false :: _, [], _, h, _, _, _ => by simp [backE] at h
theorem endE_spec {ρ : Env} : ∀ {bs : List Bool} {i : Nat} {ts : List OT}, endE ρ bs i = some ts → (∃ ρb, backE bs ts = some ρb) ∧ ∀ j : Nat, bs[j]? = some true → ∃ t, ρ[i + j]? = some (Slot.val true t) ∧ ts[j]? = some t
  | [], i, ts, h => by cases h; exact ⟨⟨[], rfl⟩, fun j e => by simp at e⟩
  | false :: bs, i, ts, h => by
    simp only [endE, Option.map_eq_some_iff] at h
    obtain ⟨ts0, h1, rfl⟩ := h
    obtain ⟨⟨ρb, i1⟩, i2⟩ := endE_spec h1
    refine ⟨⟨.non :: ρb, by simp [backE, i1]⟩, fun j e => ?_⟩
    cases j with
    | zero => simp at e
    | succ j =>
      obtain ⟨t, z1, z2⟩ := i2 j (by simpa using e)
      exact ⟨t, by rw [← z1]; congr 1; omega, by simpa using z2⟩
  | true :: bs, i, ts, h => by
    simp only [endE] at h
    split at h
    · rename_i t q0
      simp only [Option.map_eq_some_iff] at h
      obtain ⟨ts0, h1, rfl⟩ := h
      obtain ⟨⟨ρb, i1⟩, i2⟩ := endE_spec h1
      refine ⟨⟨.val true t :: ρb, by simp [backE, i1]⟩, fun j e => ?_⟩
      cases j with
      | zero => exact ⟨t, by simpa using q0, rfl⟩
      | succ j =>
        obtain ⟨t, z1, z2⟩ := i2 j (by simpa using e)
        exact ⟨t, by rw [← z1]; congr 1; omega, by simpa using z2⟩
    · cases h
section
variable {K : PySem.W.Frag}
/-- empty slots behind -/
theorem RS.more {S : Addr → Prop} {σ : L2.St} {H : Hp} {ρ : Env} {fp : Nat → Fp} (r : RS K S σ H ρ fp) (n : Nat) : RS K S (σ ++ List.replicate n none) H (ρ ++ List.replicate n Slot.non) fp := by
  refine ⟨by simp [r.len], r.live, fun i s e => ?_, r.out, r.dis, fun i hi a g => r.lim i (by rw [List.length_append] at hi; omega) a g⟩
  by_cases hi : i < ρ.length
  · rw [List.getElem?_append_left hi] at e
    rw [List.getElem?_append_left (by rw [← r.len]; exact hi)]
    exact r.slot i s e
  · rw [List.getElem?_append_right (by omega), List.getElem?_replicate] at e
    split at e
    · cases e
      exact r.lim i (by omega)
    · cases e
/-- the lent slots at the end, as a frame -/
theorem frame_end {S S' : Addr → Prop} {fp fp' : Nat → Fp} {H H' : Hp} {σ σ' : L2.St} {ρ ρ' ρb : Env} {vs : List V} {lent : List Bool} {ts : List OT} {n : Nat} (hσ : σ = vs.map some ++ List.replicate n none) (A : AftS K S fp H ρ σ S' fp' H' ρ' σ') (hl : lent.length = vs.length)
    (he : endE ρ' lent 0 = some ts) (hb : backE lent ts = some ρb) :
    ∃ fp2, Fr true S fp H S' fp2 H' ∧ RS K S' (vs.map some) H' ρb fp2 ∧ ∀ v t G, Hand K S' fp' H' v t G → Hand K S' fp2 H' v t G := by
  obtain ⟨_, e2⟩ := endE_spec he
  obtain ⟨b1, _, _⟩ := backE_spec hb
  have sub : ∀ j a, (lent[j]? = some true ∧ fp' j a) → fp' j a := fun j a h => h.2
  refine ⟨fun j a => lent[j]? = some true ∧ fp' j a, Fr.less A.fr sub, ⟨by rw [b1, List.length_map, hl], A.rs.live, fun j s e => ?_, fun j a g => A.rs.out j a g.2, fun j l a g h => A.rs.dis j l a g.2 h.2, fun j hj a g => ?_⟩, fun v t G h => ⟨h.rep, h.out, fun j a g z => h.dis j a g z.2⟩⟩
  · rcases backE_slots hb j s e with ⟨h1, t, h2, rfl⟩ | ⟨h1, rfl⟩
    · obtain ⟨t', h3, h4⟩ := e2 j h1
      rw [h2] at h4
      cases h4
      rw [Nat.zero_add] at h3
      obtain ⟨_, h5⟩ := A.bk j t h3
      obtain ⟨v, h6, h7⟩ := A.rs.slot j _ h3
      have hj : j < vs.length := by rw [← hl]; exact (List.getElem?_eq_some_iff.mp h1).1
      rw [h5, hσ, List.getElem?_append_left (by simpa using hj)] at h6
      exact ⟨v, h6, h7.eqv fun a => ⟨fun g => ⟨h1, g⟩, fun g => g.2⟩⟩
    · intro a g
      rw [h1] at g
      cases g.1
  · have := (List.getElem?_eq_some_iff.mp g.1).1
    omega
/-- what a def's body is handed -/
theorem body_rd {tbl : Nat → Option Fd} {fu k f : Nat} {fd : Fd} (ht : tbl f = some fd) {N : List Str} (hn : N.length = fd.n) {vs : List V} {H : Hp} {Q : VK} {E : XK} (h : spF K fd.lent (evF tbl fu (k + 1) f) vs H Q E) :
    rdS K (evS (evF tbl fu k) fu fd.body) { nx := fun _ H' => Q .non H', rt := Q } (start N vs) H := by
  have hlen := spF_len vs H Q E h
  obtain ⟨S, ρ, fp, ts, t, ts', ρb, hs, r, hc, hb, q⟩ := h
  unfold evF at hc
  rw [ht] at hc
  simp only [hs] at hc
  have r0 := r.more (N.length - vs.length)
  have en : fd.n - fd.lent.length = N.length - vs.length := by rw [hn, hlen]
  rw [en] at hc
  split at hc
  · rename_i t0 ρ' he
    simp only [Option.map_eq_some_iff, Prod.mk.injEq] at hc
    obtain ⟨ts0, h1, rfl, rfl⟩ := hc
    refine ⟨S, fp, _, _, r0, he, fun S' fp' H' σ' v G A hh hG => ?_⟩
    obtain ⟨fp2, f2, r2, hh2⟩ := frame_end (n := N.length - vs.length) rfl A hlen.symm h1 hb
    exact q S' fp2 H' v G f2 r2 (hh2 v _ G hh) hG
  · rename_i ρ' he
    simp only [Option.map_eq_some_iff, Prod.mk.injEq] at hc
    obtain ⟨ts0, h1, rfl, rfl⟩ := hc
    refine ⟨S, fp, _, _, r0, he, fun S' fp' H' σ' A => ?_⟩
    obtain ⟨fp2, f2, r2, hh2⟩ := frame_end (n := N.length - vs.length) rfl A hlen.symm h1 hb
    exact q S' fp2 H' .non _ f2 r2 (Hand.of_rep .non) fun _ z => z.elim
  · cases hc
theorem cl_ends {tbl : Nat → Option Fd} {fu k f : Nat} {fd : Fd} (ht : tbl f = some fd) : ∀ ts r, evF tbl fu k f ts = some r → (∃ ρ, startE fd.lent ts = some ρ) ∧ ∃ ρb, backE fd.lent r.2 = some ρb := by
  intro ts r h
  cases k with
  | zero => unfold evF at h; cases h
  | succ k =>
    unfold evF at h
    rw [ht] at h
    simp only at h
    split at h
    · cases h
    · rename_i ρ hs
      refine ⟨⟨ρ, hs⟩, ?_⟩
      split at h
      · simp only [Option.map_eq_some_iff] at h
        obtain ⟨ts0, h1, rfl⟩ := h
        exact (endE_spec h1).1
      · simp only [Option.map_eq_some_iff] at h
        obtain ⟨ts0, h1, rfl⟩ := h
        exact (endE_spec h1).1
      · cases h
end
end Pv

set_option Elab.async false
set_option linter.all false
set_option maxRecDepth 100000
set_option maxHeartbeats 4000000
/-! comprehensions as one's own, two stores at once -/
namespace Pv
open PySem L2

section
variable {X : Cx} {cl : Cl} {fu : Nat} {tg iter elt cnd a : Expr} {pos spos py p tpos : Pos} {t : Tg} {it : Pv.It} {xc : Eo} {xe xt xa : Ex} {ifs : List Expr} {scope : Scope} {own : List (Str × Nat)}
theorem comp_own {σ : L2.St} {H : Hp} {Q : VK} {S : Addr → Prop} {fp : Nat → Fp} {ρ ρ' : Env} {u : OT} (r : RS X.K S σ H ρ fp) (e : evOwn cl (.comp t it xc xe) ρ = some (u, ρ'))
    (q : ∀ S' fp' v H' G, Aft X.K σ S fp H ρ S' fp' H' ρ' → Hand X.K S' fp' H' v u G → (∀ a, G a → (∃ j, fp j a) ∨ H a = none) → Q v H') :
    tLc (rdI X.K (evI cl it)) (rgT X.K t) (rdT X.K (evC cl xc)) (rdV X.K (evE cl xe)) t.slots σ H Q := by
  unfold evOwn at e
  obtain ⟨w, ρ0, e, e0⟩ := bnd_eq e
  rw [evE_comp] at e
  obtain ⟨ds, ρ1, e1, e⟩ := bnd_eq e
  obtain ⟨ys, ρ2, e2, e⟩ := bnd_eq e
  cases e
  cases e0
  exact comp_core r e1 e2 fun S' fp' H' D vs A rr M hD => q _ _ _ _ _ A (M.hand rr) fun a g => .inr (by rw [g]; exact hD)
theorem h_comp (hc : X.calm = true) (hN : X.N.Nodup) (hi : PI X tg iter (rdI X.K (evI cl it))) (ok : BlkOk X.N X.env.scope scope own) (ho : own.map (·.2) = t.slots)
    (hg : ∀ (s : Shared) (H : Hp) (C : Addr) (cls : List (Str × Addr)) (fp : List Addr), PG (X.blk s H scope (compEnvC scope cls C X.env) fp) tg (rgT X.K t))
    (ht : ∀ (s : Shared) (H : Hp) (C : Addr) (cls : List (Str × Addr)) (fp : List Addr), PTs (X.blk s H scope (compEnvC scope cls C X.env) fp) ifs (rdT X.K (evC cl xc)))
    (he : ∀ (s : Shared) (H : Hp) (C : Addr) (cls : List (Str × Addr)) (fp : List Addr), PE (X.blk s H scope (compEnvC scope cls C X.env) fp) elt (rdV X.K (evE cl xe)))
    (hs : ∀ x, foldedSetIterable iter X.env x = pure x) : PE X (.ListComp elt [⟨tg, iter, ifs, 0⟩] scope pos) (rdH X.K (evOwn cl (.comp t it xc xe))) := by
  refine (pe_lc hc hN hi ok hg ht he hs).weak fun σ H Q h => ?_
  rw [ho]
  obtain ⟨S, fp, ρ, u, ρ', r, e, q⟩ := h
  exact comp_own r e q
theorem s_ownc {i : Nat} {y : Str} (hc : X.calm = true) (hN : X.N.Nodup) (hy : X.N[i]? = some y) (hyl : X.env.scope.names.lookup y = some .local)
    (hsw : swapsWith (.ListComp elt [⟨tg, iter, ifs, 0⟩] scope pos) (some (.Name y py)) spos.line X.env = pure true) (hi : PI X tg iter (rdI X.K (evI cl it))) (ok : BlkOk X.N X.env.scope scope own) (ho : own.map (·.2) = t.slots)
    (hg : ∀ (s : Shared) (H : Hp) (C : Addr) (cls : List (Str × Addr)) (fp : List Addr), PG (X.blk s H scope (compEnvC scope cls C X.env) fp) tg (rgT X.K t))
    (ht : ∀ (s : Shared) (H : Hp) (C : Addr) (cls : List (Str × Addr)) (fp : List Addr), PTs (X.blk s H scope (compEnvC scope cls C X.env) fp) ifs (rdT X.K (evC cl xc)))
    (he : ∀ (s : Shared) (H : Hp) (C : Addr) (cls : List (Str × Addr)) (fp : List Addr), PE (X.blk s H scope (compEnvC scope cls C X.env) fp) elt (rdV X.K (evE cl xe)))
    (hs : ∀ x, foldedSetIterable iter X.env x = pure x) : PS X (.Assign [.Name y py] (.ListComp elt [⟨tg, iter, ifs, 0⟩] scope pos) spos) (rdS X.K (evS cl fu (.own i (.comp t it xc xe)))) := by
  refine (ps_setLc hc hN hy hyl hsw hi ok hg ht he hs).weak fun D σ H h => ?_
  rw [ho]
  obtain ⟨S, fp, ρ, fl, r, e, w⟩ := h
  unfold evS at e
  obtain ⟨u, ρ1, e1, e⟩ := bnd_eq e
  split at e
  · rename_i hh
    cases e
    refine comp_own r e1 fun S1 fp1 v H1 G A1 h1 hG => ?_
    exact w _ _ _ _ (AftS.set A1.rs A1.s h1 hG hh.1 hh.2)
  · cases e
/-- x[n], y = e -/
theorem s_setx2 {i j : Nat} {x y : Str} {n : Int} {kj : Nat} {kp kt : Nat} {pt p1 : Pos} (hc : X.calm = true) (hN : X.N.Nodup) (hi : X.N[i]? = some x) (hv : Vis X.env.scope x) (hd : (x == ("__debug__" : Str)) = false) (hcd : (x == ("__classdict__" : Str)) = false)
    (hj : X.N[j]? = some y) (hx : Loc X.env.scope y) (hf : X.fn y = true ∨ X.env.scope.names.lookup y = some .local) (ha : PE X a (rdV X.K (evE cl xa))) (hs : notComp a = true) (hw : swappedStores [.Tuple [.Subscript (.Name x p) (.Constant (.int n) kj p1) tpos, .Name y py] kt pt] a X.env = pure none) :
    PS X (.Assign [.Tuple [.Subscript (.Name x p) (.Constant (.int n) kj p1) tpos, .Name y py] kt pt] a spos) (rdS X.K (evS cl fu (.setx2 i n j xa))) := by
  have es : ([.Subscript (.Name x p) (.Constant (.int n) kj p1) tpos, .Name y py] : List Expr).all notStar = true := rfl
  obtain ⟨h1, h2⟩ := assignEach_names (env := X.env) es
  refine (ps_asg ha (pg_tup hc (pgs_cons (pg_sub (pe_var hi hv hd hcd) pe_int set_list (fun v => rfl)) (pgs_cons (pg_name hN hj hx hf) pgs_nil)) h1 h2) (swapsSole_none hs) hw rfl).weak fun D σ H h => ?_
  obtain ⟨S, fp, ρ, fl, r, e, w⟩ := h
  unfold evS at e
  obtain ⟨u, ρ1, e1, e⟩ := bnd_eq e
  split at e
  · rename_i d1 d2 b ts q0
    split at e
    · rename_i m hm
      simp only [Option.map_eq_some_iff] at e
      obtain ⟨ρ2, e2, rfl⟩ := e
      refine ⟨S, fp, ρ, _, ρ1, r, e1, fun S1 fp1 v H1 A1 o1 => ?_⟩
      have o1 : Rep X.K S1 H1 v (.tuple [d1, d2]) := o1
      cases o1 with
      | tup la rr =>
        obtain ⟨v1, v2, rfl, r1, r2⟩ := Reps.two rr
        obtain ⟨l, vs, G', g1, g2, g3, g4⟩ := A1.rs.list q0
        obtain ⟨G2, g5, g6⟩ := g3.put r1 m
        have A := g4 _ _ G2 g5 g6
        refine ⟨_, _, rfl, la.sq, rfl, v1, [v2], rfl, _, g1, l, vs, n, m, rfl, rfl, g2, by rw [g3.length]; exact hm, v2, [], rfl, rfl, ?_⟩
        exact w _ _ _ _ (AftS.put (A1.trans A).s (r2.mono (A1.rs.ext A.fr)) e2)
    · cases e
  · cases e
theorem repl_rel {K : PySem.W.Frag} {S : Addr → Prop} {H : Hp} {k : Key} {v : V} {d : D} (hv : Rep K S H v d) : ∀ {kvs : List (Key × V)} {kds : List (Key × D)}, kvs.map (·.1) = kds.map (·.1) → Reps K S H (kvs.map (·.2)) (kds.map (·.2)) →
    Reps K S H ((kvs.map fun kv => if kv.1 = k then (kv.1, v) else kv).map (·.2)) ((kds.map fun kv => if kv.1 = k then (kv.1, d) else kv).map (·.2))
  | [], [], _, _ => .nil
  | p0 :: r0, q0 :: s0, h1, h2 => by
    simp only [List.map_cons, List.cons.injEq] at h1
    simp only [List.map_cons] at h2 ⊢
    cases h2 with
    | cons c1 c2 =>
      by_cases hc : q0.1 = k
      · rw [if_pos hc, if_pos (h1.1.trans hc)]
        exact .cons hv (repl_rel hv h1.2 c2)
      · rw [if_neg hc, if_neg (fun z => hc (h1.1.symm.trans z))]
        exact .cons c1 (repl_rel hv h1.2 c2)
  | [], _ :: _, h, _ => by simp at h
  | _ :: _, [], h, _ => by simp at h
theorem putD_rel {K : PySem.W.Frag} {S : Addr → Prop} {H : Hp} {k : Key} {v : V} {d : D} {kvs : List (Key × V)} {kds : List (Key × D)} (h1 : kvs.map (·.1) = kds.map (·.1)) (h2 : Reps K S H (kvs.map (·.2)) (kds.map (·.2))) (hv : Rep K S H v d) :
    (putK kvs k v).map (·.1) = (putD kds k d).map (·.1) ∧ Reps K S H ((putK kvs k v).map (·.2)) ((putD kds k d).map (·.2)) ∧ (putD kds k d).length ≤ kds.length + 1 := by
  have any_eq : (kvs.any fun kv => decide (kv.1 = k)) = kds.any fun kv => decide (kv.1 = k) := by
    have e1 : (kvs.any fun kv => decide (kv.1 = k)) = (kvs.map (·.1)).any fun z => decide (z = k) := by rw [List.any_map]; rfl
    have e2 : (kds.any fun kv => decide (kv.1 = k)) = (kds.map (·.1)).any fun z => decide (z = k) := by rw [List.any_map]; rfl
    rw [e1, e2, h1]
  unfold putK putD
  rw [any_eq]
  split
  · refine ⟨?_, ?_, by simp⟩
    · rw [List.map_map, List.map_map]
      have e1 : ((fun x : Key × V => x.1) ∘ fun kv : Key × V => if kv.1 = k then (kv.1, v) else kv) = fun kv => kv.1 := by funext kv; simp only [Function.comp]; split <;> rfl
      have e2 : ((fun x : Key × D => x.1) ∘ fun kv : Key × D => if kv.1 = k then (kv.1, d) else kv) = fun kv => kv.1 := by funext kv; simp only [Function.comp]; split <;> rfl
      rw [e1, e2]; exact h1
    · exact repl_rel hv h1 h2
  · refine ⟨by simp [h1], ?_, by simp⟩
    rw [List.map_append, List.map_append]
    exact h2.append (.cons hv .nil)
end
section
variable {K : PySem.W.Frag} {σ : L2.St} {S : Addr → Prop} {fp : Nat → Fp} {H : Hp} {ρ : Env}
theorem RS.dictW (r : RS K S σ H ρ fp) {i : Nat} {b : Bool} {kds : List (Key × D)} (e : ρ[i]? = some (.val b (.dK kds))) :
    ∃ a kvs, σ[i]? = some (some (.ref a)) ∧ H a = some (.dK kvs) ∧ kvs.map (·.1) = kds.map (·.1) ∧ Reps K S H (kvs.map (·.2)) (kds.map (·.2)) ∧
      ∀ kvs' kds', kvs'.map (·.1) = kds'.map (·.1) → Reps K S H (kvs'.map (·.2)) (kds'.map (·.2)) → Aft K σ S fp H ρ S (setF fp i fun x => x = a) (upd H a (.dK kvs')) (ρ.set i (.val b (.dK kds'))) := by
  obtain ⟨v, h1, h2⟩ := r.val e
  unfold RepO at h2
  obtain ⟨a, kvs, rfl, h3, h4, h5, h6⟩ := h2
  have ai : fp i a := (h4 a).mpr rfl
  refine ⟨a, kvs, h1, h3, h5, h6, fun kvs' kds' k1 r1 => ?_⟩
  have kp : ∀ x o, H x = some o → ¬ fp i x → upd H a (.dK kvs') x = some o := fun x o ex nx => by
    rw [upd_ne (fun z => nx (by rw [z]; exact ai))]; exact ex
  have lv : ∀ x o, H x = some o → ∃ o', upd H a (.dK kvs') x = some o' := fun x o ex => by
    by_cases hx : x = a
    · subst hx; exact ⟨_, upd_same⟩
    · exact ⟨o, by rw [upd_ne hx]; exact ex⟩
  have r2 : Reps K S (upd H a (.dK kvs')) (kvs'.map (·.2)) (kds'.map (·.2)) := r1.mono ⟨fun x o s ex => by
    rw [upd_ne (fun z => r.out i a ai (by rw [← z]; exact s))]; exact ex, fun _ s => s⟩
  have rO : RepO K S (upd H a (.dK kvs')) (.ref a) (.dK kds') (fun x => x = a) := by
    unfold RepO
    exact ⟨a, kvs', rfl, upd_same, fun _ => Iff.rfl, k1, r2⟩
  have hG : ∀ x, x = a → fp i x := fun x h => by rw [h]; exact ai
  exact ⟨Fr.write (w := true) Fr.refl kp lv fun x h => .inl (hG x h), Bk.set e, r.write e h1 kp lv (fun x h => .inl (hG x h)) rO⟩
end
section
variable {X : Cx} {cl : Cl} {fu : Nat} {a : Expr} {xa : Ex} {spos p p1 p2 p3 tpos tpos2 pt : Pos}
/-- x[k1], x[k2] = e, a dict of one's own -/
theorem s_dset2 {i : Nat} {x : Str} {k1 k2 : Str} {j1 j2 kt : Nat} (hc : X.calm = true) (hu : X.A.units + 64 < cLine) (hi : X.N[i]? = some x) (hv : Vis X.env.scope x) (hd : (x == ("__debug__" : Str)) = false) (hcd : (x == ("__classdict__" : Str)) = false)
    (ha : PE X a (rdV X.K (evE cl xa))) (hs : notComp a = true) (hw : swappedStores [.Tuple [.Subscript (.Name x p) (.Constant (.str k1) j1 p1) tpos, .Subscript (.Name x p2) (.Constant (.str k2) j2 p3) tpos2] kt pt] a X.env = pure none) :
    PS X (.Assign [.Tuple [.Subscript (.Name x p) (.Constant (.str k1) j1 p1) tpos, .Subscript (.Name x p2) (.Constant (.str k2) j2 p3) tpos2] kt pt] a spos) (rdS X.K (evS cl fu (.dset2 i k1 k2 xa))) := by
  have es : ([.Subscript (.Name x p) (.Constant (.str k1) j1 p1) tpos, .Subscript (.Name x p2) (.Constant (.str k2) j2 p3) tpos2] : List Expr).all notStar = true := rfl
  obtain ⟨h1, h2⟩ := assignEach_names (env := X.env) es
  refine (ps_asg ha (pg_tup hc (pgs_cons (pg_sub (pe_var hi hv hd hcd) pe_str (set_dict (hu1 hu)) (fun v => rfl)) (pgs_cons (pg_sub (pe_var hi hv hd hcd) pe_str (set_dict (hu1 hu)) (fun v => rfl)) pgs_nil)) h1 h2) (swapsSole_none hs) hw rfl).weak fun D σ H h => ?_
  obtain ⟨S, fp, ρ, fl, r, e, w⟩ := h
  unfold evS at e
  obtain ⟨u, ρ1, e1, e⟩ := bnd_eq e
  split at e
  · rename_i d1 d2 b kds q0
    split at e
    · rename_i hz
      cases e
      refine ⟨S, fp, ρ, _, ρ1, r, e1, fun S1 fp1 v H1 A1 o1 => ?_⟩
      have o1 : Rep X.K S1 H1 v (.tuple [d1, d2]) := o1
      cases o1 with
      | tup la rr =>
        obtain ⟨v1, v2, rfl, r1, r2⟩ := Reps.two rr
        obtain ⟨l, kvs, g1, g2, g3, g4, g5⟩ := A1.rs.dictW q0
        obtain ⟨m1, m2, m3⟩ := putD_rel (k := .inr k1) g3 g4 r1
        have A := g5 _ _ m1 m2
        have hi2 : i < ρ1.length := (List.getElem?_eq_some_iff.mp q0).1
        have q2 : (ρ1.set i (.val b (.dK (putD kds (.inr k1) d1))))[i]? = some (Slot.val b (.dK (putD kds (.inr k1) d1))) := List.getElem?_set_self hi2
        obtain ⟨l', kvs', g1', g2', g3', g4', g5'⟩ := A.rs.dictW q2
        rw [g1] at g1'
        cases g1'
        obtain ⟨m1', m2', m3'⟩ := putD_rel (k := .inr k2) g3' g4' (r2.mono (A1.rs.ext A.fr))
        have A' := g5' _ _ m1' m2'
        rw [List.set_set] at A'
        have len1 : kvs.length = kds.length := by have := congrArg List.length g3; simpa using this
        have len2 : kvs'.length = (putD kds (.inr k1) d1).length := by have := congrArg List.length g3'; simpa using this
        refine ⟨_, _, rfl, la.sq, rfl, v1, [v2], rfl, _, g1, l, _, rfl, .inl ⟨kvs, .inr k1, g2, rfl, by omega, rfl⟩, v2, [], rfl, _, g1, l, _, rfl, .inl ⟨kvs', .inr k2, g2', rfl, by omega, rfl⟩, rfl, ?_⟩
        exact w _ _ _ _ ((A1.trans A).trans A').s
    · cases e
  · cases e
end
end Pv

set_option Elab.async false
set_option linter.all false
set_option maxRecDepth 100000
set_option maxHeartbeats 4000000
/-! the text and the small language: a look that decides whether they match -/
namespace Pv
open PySem L2

structure Mc where
  N : List Str
  sc : Scope
  raw : Scope
  gd : List (Str × List (Str × Option Str))
  fns : List (Str × Nat)
def Mc.blk (M : Mc) (scope : Scope) : Mc := { M with sc := relS scope M.sc, raw := scope }
def bad (x : Str) : Bool := (x == ("__debug__" : Str)) || (x == ("__classdict__" : Str))
def Mc.kd (M : Mc) (x : Str) : Option NameKind := M.sc.names.lookup x
def vis (M : Mc) (i : Nat) (x : Str) : Bool := decide (M.N[i]? = some x) && !bad x && (decide (M.kd x = some .local) || decide (M.kd x = some .cell) || decide (M.kd x = some .free))
def loc (M : Mc) (i : Nat) (x : Str) : Bool := decide (M.N[i]? = some x) && ((decide (M.kd x = some .local)) || (decide (M.kd x = some .cell) && (M.raw.names.lookup x == some .cell)))
def blN : List Str := ["len", "sum", "abs", "int", "max", "min", "all", "any", "list", "tuple", "divmod", "range", "enumerate", "zip", "set"]
def glb (M : Mc) (x : Str) : Bool := decide (M.kd x = some .globalImplicit) && blN.contains x
def gfn (M : Mc) (x : Str) (f : Nat) : Bool := decide (M.kd x = some .globalImplicit) && decide (M.fns.lookup x = some f) && !bad x
def gdc (M : Mc) (x : Str) (kvs : List (Str × Option Str)) : Bool := decide (M.kd x = some .globalImplicit) && decide (M.gd.lookup x = some kvs) && !bad x
def notSet : Expr → Bool
  | .Set _ _ _ => false
  | _ => true
inductive Md | v | t | w
  deriving DecidableEq
/-- a name of a target, names -/
def tgNames : Expr → List Str
  | .Name x _ => [x]
  | .Tuple es _ _ => es.filterMap fun | .Name x _ => some x | _ => none
  | _ => []
def mtNs (M : Mc) : List Nat → List Expr → Bool
  | [], [] => true
  | i :: is, .Name x _ :: es => loc M i x && mtNs M is es
  | _, _ => false
def mtTg (M : Mc) : Tg → Expr → Bool
  | .one i, .Name x _ => loc M i x
  | .tup is, .Tuple es _ _ => mtNs M is es
  | _, _ => false
def ownOf (t : Tg) (tg : Expr) : List (Str × Nat) := (tgNames tg).zip t.slots
/-- the scope of a comprehension -/
def blkC (M : Mc) (scope : Scope) (t : Tg) (tg : Expr) : Bool :=
  decide (scope.kind = .function) && scope.names.all (fun y => decide (scope.names.lookup y.1 = some y.2)) && (ownOf t tg).all (fun p => decide (M.N[p.2]? = some p.1)) &&
  scope.names.all (fun y => !decide (y.2 = .free) || decide (M.kd y.1 = some .cell) || decide (M.kd y.1 = some .free)) &&
  scope.names.all (fun y => !(decide (y.2 = .local) || decide (y.2 = .cell)) || decide (y.1 ∈ (ownOf t tg).map (·.1)) || decide (y.1 ∉ M.N)) && decide ((ownOf t tg).map (·.2) = t.slots)
def lineOk (a c : Pos) : Bool := a.endLine == c.line
mutual
def mtE (M : Mc) : Ex → Md → Expr → Bool
  | .var i, m, x => decide (m ≠ .w) && (match x with | .Name y _ => vis M i y | _ => false)
  | .pk i, m, x => decide (m ≠ .w) && (match x with | .Name y _ => vis M i y | _ => false)
  | .non, m, x => decide (m ≠ .w) && (match x with | .Constant .none _ _ => true | _ => false)
  | .bl b, m, x => decide (m ≠ .w) && (match x with | .Constant (.bool k) _ _ => decide (b = k) | _ => false)
  | .int i, m, x => decide (m ≠ .w) && (match x with | .Constant (.int k) _ _ => decide (i = k) | _ => false)
  | .str s, m, x => decide (m ≠ .w) && (match x with | .Constant (.str k) _ _ => decide (s = k) | _ => false)
  | .gl _ _, _, _ => false
  | .op o a b, m, x => decide (m ≠ .w) && (match x with | .BinOp l op r _ => decide (op = o.op) && mtE M a .v l && mtE M b .v r | _ => false)
  | .rep a n, m, x => decide (m ≠ .w) && (match x with | .BinOp (.List [l] _) .Mult r _ => notStar l && mtE M a .v l && mtE M n .v r | _ => false)
  | .cmp o a b, m, x => decide (m ≠ .w) && (match x with | .Compare l [op] [r] _ => decide (op = o.op) && !behindInMarks op r && mtE M a .v l && mtE M b .v r | _ => false)
  | .chain o o' a b c, m, x => decide (m ≠ .w) && (match x with | .Compare l [op, op'] [r, r'] _ => decide (op = o.op) && decide (op' = o'.op) && !lastMarks [op, op'] [r, r'] && mtE M a .v l && mtE M b .v r && mtE M c .v r' | _ => false)
  | .neg a, m, x => decide (m ≠ .w) && (match x with | .UnaryOp .USub l _ => mtE M a .v l | _ => false)
  | .not a, m, x => (match x with
    | .UnaryOp .Not l _ => (match m with | .v => mtE M a .v l | .t => mtE M a .t l | .w => false)
    | _ => false)
  | .last a, m, x => (match x with
    | .BoolOp _ [l] _ => (match m with | .v => mtE M a .v l | .t => false | .w => mtE M a .t l)
    | _ => false)
  | .and a b, m, x => (match x with
    | .BoolOp .And (l :: r :: rest) p => (match m with | .v => mtE M a .v l && mtE M b .v (.BoolOp .And (r :: rest) p) | _ => mtE M a .t l && mtE M b .w (.BoolOp .And (r :: rest) p))
    | _ => false)
  | .or a b, m, x => (match x with
    | .BoolOp .Or (l :: r :: rest) p => (match m with | .v => mtE M a .v l && mtE M b .v (.BoolOp .Or (r :: rest) p) | _ => mtE M a .t l && mtE M b .w (.BoolOp .Or (r :: rest) p))
    | _ => false)
  | .ite c a b, m, x => decide (m = .v) && (match x with | .IfExp t l r _ => mtE M c .t t && mtE M a .v l && mtE M b .v r | _ => false)
  | .ix a b, m, x => decide (m ≠ .w) && (match x with | .Subscript l r _ => notSlice r && mtE M a .v l && mtE M b .v r | _ => false)
  | .sl a lo hi, m, x => decide (m ≠ .w) && (match x with | .Subscript l (.Slice s u none _) _ => mtE M a .v l && mtO M lo s && mtO M hi u | _ => false)
  | .lst es, m, x => decide (m ≠ .w) && (match x with | .List xs _ => mtEs M es xs | _ => false)
  | .tup es, m, x => decide (m ≠ .w) && (match x with | .Tuple xs _ _ => mtEs M es xs | _ => false)
  | .bs f es, m, x => decide (m ≠ .w) && (match x with | .Call (.Name y _) (z :: zs) [] _ => decide (y = f.name) && glb M y && mtEs M es (z :: zs) | _ => false)
  | .bn f es, m, x => decide (m ≠ .w) && (match x with | .Call (.Name y _) (z :: zs) [] _ => decide (y = f.name) && glb M y && mtEs M es (z :: zs) | _ => false)
  | .call f es, m, x => decide (m ≠ .w) && (match x with | .Call (.Name y _) (z :: zs) [] _ => gfn M y f && mtEs M es (z :: zs) | _ => false)
  | .comp t it c e, m, x => decide (m ≠ .w) && (match x with | .ListComp elt [⟨tg, iter, ifs, 0⟩] scope _ => mtI M it tg iter && notSet iter && blkC M scope t tg && mtTg (M.blk scope) t tg && mtC (M.blk scope) c ifs && mtE (M.blk scope) e .v elt | _ => false)
  | .pop i, m, x => decide (m ≠ .w) && (match x with | .Call (.Attribute (.Name y _) n ap) [] [] cp => vis M i y && decide (n = "pop") && lineOk ap cp | _ => false)
  | .popi i e, m, x => decide (m ≠ .w) && (match x with | .Call (.Attribute (.Name y _) n ap) [a] [] cp => vis M i y && decide (n = "pop") && lineOk ap cp && notStar a && mtE M e .v a | _ => false)
  | .lset a, m, x => decide (m ≠ .w) && (match x with | .Call (.Name y _) [.Call (.Name z _) [l] [] _] [] _ => decide (y = "len") && decide (z = "set") && glb M y && glb M z && notStar l && mtE M a .v l | _ => false)
  | .lrg a, m, x => decide (m ≠ .w) && (match x with | .Call (.Name y _) [.Call (.Name z _) [l] [] _] [] _ => decide (y = "list") && decide (z = "range") && glb M y && glb M z && notStar l && mtE M a .v l | _ => false)
  | .gdx y kvs a, m, x => decide (m ≠ .w) && (match x with | .Subscript (.Name z _) r _ => decide (y = z) && gdc M y kvs && notSlice r && mtE M a .v r | _ => false)
  | .gdin neg y kvs a, m, x => decide (m ≠ .w) && (match x with | .Compare l [op] [.Name z _] _ => decide (op = if neg = true then .NotIn else .In) && decide (y = z) && gdc M y kvs && mtE M a .v l | _ => false)
  | .dct _ _, _, _ => false
  | .dix ks es a, m, x => decide (m ≠ .w) && (match x with | .Subscript (.Dict keys values _) r _ => mtD M ks es keys values && decide (keys ≠ []) && decide (keys.length ≤ 15) && notSlice r && mtE M a .v r | _ => false)
  | .dget i a, m, x => decide (m ≠ .w) && (match x with | .Subscript (.Name y _) r _ => vis M i y && notSlice r && mtE M a .v r | _ => false)
  | .din neg i a, m, x => decide (m ≠ .w) && (match x with | .Compare l [op] [.Name z _] _ => decide (op = if neg = true then .NotIn else .In) && vis M i z && mtE M a .v l | _ => false)
def mtEs (M : Mc) : Exs → List Expr → Bool
  | .nil, x => (match x with | [] => true | _ => false)
  | .cons e es, x => (match x with | y :: ys => notStar y && mtE M e .v y && mtEs M es ys | _ => false)
def mtO (M : Mc) : Eo → Option Expr → Bool
  | .no, x => (match x with | none => true | _ => false)
  | .yes e, x => (match x with | some y => mtE M e .v y | _ => false)
def mtC (M : Mc) : Eo → List Expr → Bool
  | .no, x => (match x with | [] => true | _ => false)
  | .yes e, x => (match x with | [y] => mtE M e .t y | _ => false)
def mtI (M : Mc) : It → Expr → Expr → Bool
  | .seq a, _, x => mtE M a .v x
  | .rng a, _, x => (match x with | .Call (.Name y _) [l] [] _ => decide (y = "range") && glb M y && notStar l && mtE M a .v l | _ => false)
  | .rng2 a b, _, x => (match x with | .Call (.Name y _) [l, r] [] _ => decide (y = "range") && glb M y && notStar l && notStar r && mtE M a .v l && mtE M b .v r | _ => false)
  | .enum a, tg, x => (match tg with
    | .Tuple _ _ _ => (match x with | .Call (.Name y _) [l] [] _ => decide (y = "enumerate") && glb M y && notStar l && mtE M a .v l | _ => false)
    | _ => false)
  | .zip a b, tg, x => (match tg with
    | .Tuple _ _ _ => (match x with | .Call (.Name y _) [l, r] [] _ => decide (y = "zip") && glb M y && notStar l && notStar r && mtE M a .v l && mtE M b .v r | _ => false)
    | _ => false)
def mtD (M : Mc) : List Str → Exs → List (Option Expr) → List Expr → Bool
  | ks, .nil, keys, values => (match ks, keys, values with | [], [], [] => true | _, _, _ => false)
  | ks, .cons e es, keys, values => (match ks, keys, values with | k :: ks, some (.Constant (.str k') _ _) :: keys, y :: ys => decide (k = k') && mtE M e .v y && mtD M ks es keys ys | _, _, _ => false)
end
end Pv

set_option Elab.async false
set_option linter.all false
set_option maxRecDepth 100000
set_option maxHeartbeats 8000000
/-! what matches is kept -/
namespace Pv
open PySem L2

structure MOk (X : Cx) (cl : Cl) (M : Mc) : Prop where
  n : X.N = M.N
  nd : X.N.Nodup
  sc : X.env.scope = M.sc
  kind : M.sc.kind = .function
  fn : ∀ x, (M.raw.names.lookup x == some .cell) = true → X.fn x = true
  calm : X.calm = true
  units : X.A.units + 64 < cLine
  bl : ∀ x ∈ blN, X.mg x = none
  gd : ∀ x kvs, M.gd.lookup x = some kvs → GD X x kvs
  call : ∀ x f, M.fns.lookup x = some f → CalE X cl x f
  own : PassesOwn (model X.prog X.w) X.A X.env X.xe
section
variable {X : Cx} {cl : Cl} {M : Mc} {i f : Nat} {x : Str}
theorem bad_not (h : (!bad x) = true) : (x == ("__debug__" : Str)) = false ∧ (x == ("__classdict__" : Str)) = false := by
  unfold bad at h
  rw [Bool.not_eq_true', Bool.or_eq_false_iff] at h
  exact h
theorem vis_ok (ok : MOk X cl M) (h : vis M i x = true) : X.N[i]? = some x ∧ Vis X.env.scope x ∧ (x == ("__debug__" : Str)) = false ∧ (x == ("__classdict__" : Str)) = false := by
  unfold vis Mc.kd at h
  simp only [Bool.and_eq_true, Bool.or_eq_true, decide_eq_true_eq] at h
  obtain ⟨⟨h1, h2⟩, h3⟩ := h
  obtain ⟨b1, b2⟩ := bad_not h2
  refine ⟨by rw [ok.n]; exact h1, ?_, b1, b2⟩
  unfold Vis
  rw [ok.sc]
  rcases h3 with (h | h) | h
  · exact .inl h
  · exact .inr (.inl h)
  · exact .inr (.inr h)
theorem loc_ok (ok : MOk X cl M) (h : loc M i x = true) : X.N[i]? = some x ∧ Loc X.env.scope x ∧ (X.fn x = true ∨ X.env.scope.names.lookup x = some .local) := by
  unfold loc Mc.kd at h
  simp only [Bool.and_eq_true, Bool.or_eq_true, decide_eq_true_eq] at h
  obtain ⟨h1, h2⟩ := h
  refine ⟨by rw [ok.n]; exact h1, ?_, ?_⟩
  · unfold L2.Loc
    rw [ok.sc]
    rcases h2 with h | ⟨h, _⟩
    · exact .inl h
    · exact .inr h
  · rw [ok.sc]
    rcases h2 with h | ⟨_, h⟩
    · exact .inr h
    · exact .inl (ok.fn x h)
theorem gl_of (ok : MOk X cl M) (h : M.kd x = some .globalImplicit) : Gl X x := by
  unfold Gl PySem.Env.kindOf
  rw [ok.sc]
  exact h
theorem glb_ok (ok : MOk X cl M) (h : glb M x = true) : Gl X x ∧ X.mg x = none := by
  unfold glb at h
  simp only [Bool.and_eq_true, decide_eq_true_eq] at h
  exact ⟨gl_of ok h.1, ok.bl x (by simpa using h.2)⟩
theorem gfn_ok (ok : MOk X cl M) (h : gfn M x f = true) : Gl X x ∧ CalE X cl x f ∧ (x == ("__debug__" : Str)) = false := by
  unfold gfn at h
  simp only [Bool.and_eq_true, decide_eq_true_eq] at h
  exact ⟨gl_of ok h.1.1, ok.call x f h.1.2, (bad_not h.2).1⟩
theorem gdc_ok {kvs : List (Str × Option Str)} (ok : MOk X cl M) (h : gdc M x kvs = true) : Gl X x ∧ GD X x kvs ∧ (x == ("__debug__" : Str)) = false := by
  unfold gdc at h
  simp only [Bool.and_eq_true, decide_eq_true_eq] at h
  exact ⟨gl_of ok h.1.1, ok.gd x kvs h.1.2, (bad_not h.2).1⟩
theorem blkC_ok {scope : Scope} {t : Tg} {tg : Expr} (ok : MOk X cl M) (h : blkC M scope t tg = true) : BlkOk X.N X.env.scope scope (ownOf t tg) ∧ (ownOf t tg).map (·.2) = t.slots := by
  unfold blkC Mc.kd at h
  simp only [Bool.and_eq_true, decide_eq_true_eq, List.all_eq_true, Bool.or_eq_true, Bool.not_eq_true', decide_eq_false_iff_not, Bool.or_eq_false_iff] at h
  obtain ⟨⟨⟨⟨⟨h1, h2⟩, h3⟩, h4⟩, h5⟩, h6⟩ := h
  refine ⟨⟨h1, h2, fun p hp => by rw [ok.n]; exact h3 p hp, fun y hy hf => ?_, fun y hy hl => ?_⟩, h6⟩
  · rw [ok.sc]
    rcases h4 y hy with (z | z) | z
    · exact absurd hf z
    · exact .inl z
    · exact .inr z
  · rcases h5 y hy with (z | z) | z
    · rcases hl with l | l
      · exact absurd l z.1
      · exact absurd l z.2
    · exact .inl z
    · exact .inr (by rw [ok.n]; exact z)
theorem blk_ok {scope : Scope} {t : Tg} {tg : Expr} (ok : MOk X cl M) (h : blkC M scope t tg = true) (s : Shared) (H : Hp) (C : Addr) (cls : List (Str × Addr)) (fp : List Addr) :
    MOk (X.blk s H scope (compEnvC scope cls C X.env) fp) cl (M.blk scope) := by
  refine ⟨ok.n, ok.nd, ?_, ?_, fun x h => h, ok.calm, ok.units, ok.bl, fun x kvs h => ⟨(ok.gd x kvs h).ex⟩, fun x f h => ⟨(ok.call x f h).ex⟩, PassesOwn.never⟩
  · show (compEnvC scope cls C X.env).scope = relS scope M.sc
    rw [← ok.sc]; rfl
  · exact ((blkC_ok ok h).1.kind)
theorem lineOk_ok {a c : Pos} (h : lineOk a c = true) : (a.endLine == c.line) = true := h
end

def Sd (X : Cx) (cl : Cl) (m : Md) (x : Expr) (e : Ex) : Prop := match m with
  | .v => PE X x (rdV X.K (evE cl e))
  | .t => PT X x (rdT X.K (evT cl e))
  | .w => PW X x (rdT X.K (evT cl e))
section
variable {X : Cx} {cl : Cl} {M : Mc} {m : Md} {x : Expr} {e : Ex}
theorem sd_plain (hm : decide (m ≠ .w) = true) (h : PE X x (rdV X.K (evE cl e))) (hp : plainT e = true) (he : plainE x = true) : Sd X cl m x e := by
  cases m with
  | v => exact h
  | t => exact tt_tru h hp he
  | w => exact absurd rfl (of_decide_eq_true hm)
theorem sd_cmp (hm : decide (m ≠ .w) = true) (h : PE X x (rdV X.K (evE cl e))) (h2 : PT X x (rdT X.K (evT cl e))) : Sd X cl m x e := by
  cases m with
  | v => exact h
  | t => exact h2
  | w => exact absurd rfl (of_decide_eq_true hm)
theorem notSet_ok (h : notSet x = true) {env : PySem.Env} : ∀ v, foldedSetIterable x env v = pure v := by
  intro v
  cases x <;> first | rfl | cases h
theorem mtNs_ok (ok : MOk X cl M) : ∀ {is : List Nat} {es : List Expr}, mtNs M is es = true → PGs X es (rgTs X.K is) ∧ es.all notStar = true ∧ is.length = es.length
  | [], [], _ => ⟨g_nil, rfl, rfl⟩
  | i :: is, y :: es, h => by
    cases y <;> simp only [mtNs, Bool.and_eq_true, Bool.false_eq_true] at h
    obtain ⟨h1, h2⟩ := h
    obtain ⟨a, b, c⟩ := loc_ok ok h1
    obtain ⟨i1, i2, i3⟩ := mtNs_ok ok h2
    exact ⟨g_cons ok.nd a b c i1, by rw [List.all_cons, i2]; rfl, by rw [List.length_cons, List.length_cons, i3]⟩
  | [], _ :: _, h => by simp [mtNs] at h
  | _ :: _, [], h => by simp [mtNs] at h
theorem mtTg_ok (ok : MOk X cl M) {t : Tg} {tg : Expr} (h : mtTg M t tg = true) : PG X tg (rgT X.K t) := by
  cases t with
  | one i =>
    cases tg <;> simp only [mtTg, Bool.false_eq_true] at h
    obtain ⟨a, b, c⟩ := loc_ok ok h
    exact g_one ok.nd a b c
  | tup is =>
    cases tg <;> simp only [mtTg, Bool.false_eq_true] at h
    obtain ⟨i1, i2, i3⟩ := mtNs_ok ok h
    exact g_tup ok.calm i1 i2 i3
theorem mtEs_star : ∀ {es : Exs} {xs : List Expr}, mtEs M es xs = true → xs.all notStar = true
  | .nil, [], _ => rfl
  | .cons e es, y :: ys, h => by
    unfold mtEs at h
    simp only [Bool.and_eq_true] at h
    rw [List.all_cons, h.1.1, mtEs_star h.2]; rfl
  | .nil, _ :: _, h => by unfold mtEs at h; cases h
  | .cons _ _, [], h => by unfold mtEs at h; cases h
theorem mtD_shape : ∀ {ks : List Str} {es : Exs} {keys : List (Option Expr)} {values : List Expr}, mtD M ks es keys values = true → keys.all (·.isSome) = true ∧ keys.length = values.length ∧ ks.length = keys.length
  | ks, .nil, keys, values, h => by
    unfold mtD at h
    split at h
    · exact ⟨rfl, rfl, rfl⟩
    · cases h
  | ks, .cons e es, keys, values, h => by
    unfold mtD at h
    split at h
    · simp only [Bool.and_eq_true] at h
      obtain ⟨i1, i2, i3⟩ := mtD_shape h.2
      exact ⟨by rw [List.all_cons, i1]; rfl, by rw [List.length_cons, List.length_cons, i2], by rw [List.length_cons, List.length_cons, i3]⟩
    · cases h
end
end Pv

set_option Elab.async false
set_option linter.all false
set_option maxRecDepth 100000
set_option maxHeartbeats 8000000
/-! expressions that match are kept -/
namespace Pv
open PySem L2

mutual
theorem mtE_ok : ∀ (e : Ex) (m : Md) (x : Expr) {X : Cx} {cl : Cl} {M : Mc}, MOk X cl M → mtE M e m x = true → Sd X cl m x e
  | .var i, m, x, X, cl, M, ok, h => by
    unfold mtE at h
    rw [Bool.and_eq_true] at h
    obtain ⟨hm, h⟩ := h
    split at h
    · obtain ⟨a, b, c, d⟩ := vis_ok ok h
      exact sd_plain hm (s_var a b c d) rfl rfl
    · cases h
  | .pk i, m, x, X, cl, M, ok, h => by
    unfold mtE at h
    rw [Bool.and_eq_true] at h
    obtain ⟨hm, h⟩ := h
    split at h
    · obtain ⟨a, b, c, d⟩ := vis_ok ok h
      exact sd_plain hm (s_pk a b c d) rfl rfl
    · cases h
  | .non, m, x, X, cl, M, ok, h => by
    unfold mtE at h
    rw [Bool.and_eq_true] at h
    obtain ⟨hm, h⟩ := h
    split at h
    · exact sd_plain hm s_non rfl rfl
    · cases h
  | .bl b, m, x, X, cl, M, ok, h => by
    unfold mtE at h
    rw [Bool.and_eq_true] at h
    obtain ⟨hm, h⟩ := h
    split at h
    · obtain rfl := of_decide_eq_true h
      exact sd_plain hm s_bl rfl rfl
    · cases h
  | .int i, m, x, X, cl, M, ok, h => by
    unfold mtE at h
    rw [Bool.and_eq_true] at h
    obtain ⟨hm, h⟩ := h
    split at h
    · obtain rfl := of_decide_eq_true h
      exact sd_plain hm s_int rfl rfl
    · cases h
  | .str s, m, x, X, cl, M, ok, h => by
    unfold mtE at h
    rw [Bool.and_eq_true] at h
    obtain ⟨hm, h⟩ := h
    split at h
    · obtain rfl := of_decide_eq_true h
      exact sd_plain hm s_str rfl rfl
    · cases h
  | .gl _ _, m, x, X, cl, M, ok, h => by
    unfold mtE at h
    cases h
  | .op o a b, m, x, X, cl, M, ok, h => by
    unfold mtE at h
    rw [Bool.and_eq_true] at h
    obtain ⟨hm, h⟩ := h
    split at h
    · simp only [Bool.and_eq_true, decide_eq_true_eq] at h
      obtain ⟨⟨rfl, h1⟩, h2⟩ := h
      exact sd_plain hm (s_op (mtE_ok a .v _ ok h1) (mtE_ok b .v _ ok h2)) rfl rfl
    · cases h
  | .rep a n, m, x, X, cl, M, ok, h => by
    unfold mtE at h
    rw [Bool.and_eq_true] at h
    obtain ⟨hm, h⟩ := h
    split at h
    · simp only [Bool.and_eq_true] at h
      obtain ⟨⟨h0, h1⟩, h2⟩ := h
      exact sd_plain hm (s_rep (mtE_ok a .v _ ok h1) (mtE_ok n .v _ ok h2) h0) rfl rfl
    · cases h
  | .cmp o a b, m, x, X, cl, M, ok, h => by
    unfold mtE at h
    rw [Bool.and_eq_true] at h
    obtain ⟨hm, h⟩ := h
    split at h
    · simp only [Bool.and_eq_true, decide_eq_true_eq, Bool.not_eq_true'] at h
      obtain ⟨⟨⟨rfl, h0⟩, h1⟩, h2⟩ := h
      have ha := mtE_ok a .v _ ok h1
      have hb := mtE_ok b .v _ ok h2
      exact sd_cmp hm (s_cmp ok.units ha hb h0) (tt_cmp ok.units ha hb h0)
    · cases h
  | .chain o o' a b c, m, x, X, cl, M, ok, h => by
    unfold mtE at h
    rw [Bool.and_eq_true] at h
    obtain ⟨hm, h⟩ := h
    split at h
    · simp only [Bool.and_eq_true, decide_eq_true_eq, Bool.not_eq_true'] at h
      obtain ⟨⟨⟨⟨⟨rfl, rfl⟩, h0⟩, h1⟩, h2⟩, h3⟩ := h
      have ha := mtE_ok a .v _ ok h1
      have hb := mtE_ok b .v _ ok h2
      have hc := mtE_ok c .v _ ok h3
      exact sd_cmp hm (s_chain ok.units ha hb hc h0) (tt_chain ok.units ha hb hc h0)
    · cases h
  | .neg a, m, x, X, cl, M, ok, h => by
    unfold mtE at h
    rw [Bool.and_eq_true] at h
    obtain ⟨hm, h⟩ := h
    split at h
    · exact sd_plain hm (s_neg (mtE_ok a .v _ ok h)) rfl rfl
    · cases h
  | .not a, m, x, X, cl, M, ok, h => by
    unfold mtE at h
    split at h
    · split at h
      · exact s_not (mtE_ok a .v _ ok h)
      · exact tt_not (mtE_ok a .t _ ok h)
      · cases h
    · cases h
  | .last a, m, x, X, cl, M, ok, h => by
    unfold mtE at h
    split at h
    · rename_i op l p
      split at h
      · exact s_last (mtE_ok a .v _ ok h)
      · cases h
      · cases op
        · exact tw_and1 (mtE_ok a .t _ ok h)
        · exact tw_or1 (mtE_ok a .t _ ok h)
    · cases h
  | .and a b, m, x, X, cl, M, ok, h => by
    unfold mtE at h
    split at h
    · split at h
      · rw [Bool.and_eq_true] at h
        exact s_and (mtE_ok a .v _ ok h.1) (mtE_ok b .v _ ok h.2)
      · rename_i hm
        rw [Bool.and_eq_true] at h
        have hw := tw_and (mtE_ok a .t _ ok h.1) (mtE_ok b .w _ ok h.2)
        cases m with
        | v => exact (hm rfl).elim
        | t => exact hw.pt
        | w => exact hw
    · cases h
  | .or a b, m, x, X, cl, M, ok, h => by
    unfold mtE at h
    split at h
    · split at h
      · rw [Bool.and_eq_true] at h
        exact s_or (mtE_ok a .v _ ok h.1) (mtE_ok b .v _ ok h.2)
      · rename_i hm
        rw [Bool.and_eq_true] at h
        have hw := tw_or (mtE_ok a .t _ ok h.1) (mtE_ok b .w _ ok h.2)
        cases m with
        | v => exact (hm rfl).elim
        | t => exact hw.pt
        | w => exact hw
    · cases h
  | .ite c a b, m, x, X, cl, M, ok, h => by
    unfold mtE at h
    rw [Bool.and_eq_true, decide_eq_true_eq] at h
    obtain ⟨rfl, h⟩ := h
    split at h
    · simp only [Bool.and_eq_true] at h
      exact s_ite (mtE_ok c .t _ ok h.1.1) (mtE_ok a .v _ ok h.1.2) (mtE_ok b .v _ ok h.2)
    · cases h
  | .ix a b, m, x, X, cl, M, ok, h => by
    unfold mtE at h
    rw [Bool.and_eq_true] at h
    obtain ⟨hm, h⟩ := h
    split at h
    · simp only [Bool.and_eq_true] at h
      exact sd_plain hm (s_ix (mtE_ok a .v _ ok h.1.2) (mtE_ok b .v _ ok h.2) h.1.1) rfl rfl
    · cases h
  | .sl a lo hi, m, x, X, cl, M, ok, h => by
    unfold mtE at h
    rw [Bool.and_eq_true] at h
    obtain ⟨hm, h⟩ := h
    split at h
    · simp only [Bool.and_eq_true] at h
      exact sd_plain hm (s_sl (mtE_ok a .v _ ok h.1.1) (mtO_ok lo _ ok h.1.2) (mtO_ok hi _ ok h.2)) rfl rfl
    · cases h
  | .lst es, m, x, X, cl, M, ok, h => by
    unfold mtE at h
    rw [Bool.and_eq_true] at h
    obtain ⟨hm, h⟩ := h
    split at h
    · exact sd_plain hm (s_lst (mtEs_ok es _ ok h)) rfl rfl
    · cases h
  | .tup es, m, x, X, cl, M, ok, h => by
    unfold mtE at h
    rw [Bool.and_eq_true] at h
    obtain ⟨hm, h⟩ := h
    split at h
    · exact sd_plain hm (s_tup (mtEs_ok es _ ok h)) rfl rfl
    · cases h
  | .bs f es, m, x, X, cl, M, ok, h => by
    unfold mtE at h
    rw [Bool.and_eq_true] at h
    obtain ⟨hm, h⟩ := h
    split at h
    · simp only [Bool.and_eq_true, decide_eq_true_eq] at h
      obtain ⟨⟨rfl, h1⟩, h2⟩ := h
      obtain ⟨g1, g2⟩ := glb_ok ok h1
      exact sd_plain hm (s_bs ok.calm (mtEs_ok es _ ok h2) g1 g2 (mtEs_star h2)) rfl rfl
    · cases h
  | .bn f es, m, x, X, cl, M, ok, h => by
    unfold mtE at h
    rw [Bool.and_eq_true] at h
    obtain ⟨hm, h⟩ := h
    split at h
    · simp only [Bool.and_eq_true, decide_eq_true_eq] at h
      obtain ⟨⟨rfl, h1⟩, h2⟩ := h
      obtain ⟨g1, g2⟩ := glb_ok ok h1
      exact sd_plain hm (s_bn ok.calm ok.units (mtEs_ok es _ ok h2) g1 g2 (mtEs_star h2)) rfl rfl
    · cases h
  | .call f es, m, x, X, cl, M, ok, h => by
    unfold mtE at h
    rw [Bool.and_eq_true] at h
    obtain ⟨hm, h⟩ := h
    split at h
    · simp only [Bool.and_eq_true] at h
      obtain ⟨h1, h2⟩ := h
      obtain ⟨g1, g2, g3⟩ := gfn_ok ok h1
      exact sd_plain hm (s_call g2 g1 (mtEs_ok es _ ok h2) (mtEs_star h2) g3) rfl rfl
    · cases h
  | .comp t it c e, m, x, X, cl, M, ok, h => by
    unfold mtE at h
    rw [Bool.and_eq_true] at h
    obtain ⟨hm, h⟩ := h
    split at h
    · simp only [Bool.and_eq_true] at h
      obtain ⟨⟨⟨⟨⟨h1, h2⟩, h3⟩, h4⟩, h5⟩, h6⟩ := h
      obtain ⟨b1, b2⟩ := blkC_ok ok h3
      exact sd_plain hm (s_comp ok.calm ok.nd (mtI_ok it _ _ ok h1) b1 b2 (fun s H C cls fp => mtTg_ok (blk_ok ok h3 s H C cls fp) h4) (fun s H C cls fp => mtC_ok c _ (blk_ok ok h3 s H C cls fp) h5)
        (fun s H C cls fp => mtE_ok e .v _ (blk_ok ok h3 s H C cls fp) h6) (notSet_ok h2)) rfl rfl
    · cases h
  | .pop i, m, x, X, cl, M, ok, h => by
    unfold mtE at h
    rw [Bool.and_eq_true] at h
    obtain ⟨hm, h⟩ := h
    split at h
    · simp only [Bool.and_eq_true, decide_eq_true_eq] at h
      obtain ⟨⟨h1, rfl⟩, h2⟩ := h
      obtain ⟨a, b, c, d⟩ := vis_ok ok h1
      exact sd_plain hm (s_pop a b c d (lineOk_ok h2)) rfl rfl
    · cases h
  | .popi i e, m, x, X, cl, M, ok, h => by
    unfold mtE at h
    rw [Bool.and_eq_true] at h
    obtain ⟨hm, h⟩ := h
    split at h
    · simp only [Bool.and_eq_true, decide_eq_true_eq] at h
      obtain ⟨⟨⟨⟨h1, rfl⟩, h2⟩, h3⟩, h4⟩ := h
      obtain ⟨a, b, c, d⟩ := vis_ok ok h1
      exact sd_plain hm (s_popi a b c d (mtE_ok e .v _ ok h4) h3 (lineOk_ok h2)) rfl rfl
    · cases h
  | .lset a, m, x, X, cl, M, ok, h => by
    unfold mtE at h
    rw [Bool.and_eq_true] at h
    obtain ⟨hm, h⟩ := h
    split at h
    · simp only [Bool.and_eq_true, decide_eq_true_eq] at h
      obtain ⟨⟨⟨⟨⟨rfl, rfl⟩, h1⟩, h2⟩, h3⟩, h4⟩ := h
      obtain ⟨g1, g2⟩ := glb_ok ok h1
      obtain ⟨g3, g4⟩ := glb_ok ok h2
      exact sd_plain hm (s_lset ok.calm g1 g2 g3 g4 (mtE_ok a .v _ ok h4) h3) rfl rfl
    · cases h
  | .lrg a, m, x, X, cl, M, ok, h => by
    unfold mtE at h
    rw [Bool.and_eq_true] at h
    obtain ⟨hm, h⟩ := h
    split at h
    · simp only [Bool.and_eq_true, decide_eq_true_eq] at h
      obtain ⟨⟨⟨⟨⟨rfl, rfl⟩, h1⟩, h2⟩, h3⟩, h4⟩ := h
      obtain ⟨g1, g2⟩ := glb_ok ok h1
      obtain ⟨g3, g4⟩ := glb_ok ok h2
      exact sd_plain hm (s_lrg ok.calm g1 g2 g3 g4 (mtE_ok a .v _ ok h4) h3) rfl rfl
    · cases h
  | .gdx y kvs a, m, x, X, cl, M, ok, h => by
    unfold mtE at h
    rw [Bool.and_eq_true] at h
    obtain ⟨hm, h⟩ := h
    split at h
    · simp only [Bool.and_eq_true, decide_eq_true_eq] at h
      obtain ⟨⟨⟨rfl, h1⟩, h2⟩, h3⟩ := h
      obtain ⟨g1, g2, g3⟩ := gdc_ok ok h1
      exact sd_plain hm (s_gdx g1 g2 g3 (mtE_ok a .v _ ok h3) h2) rfl rfl
    · cases h
  | .gdin neg y kvs a, m, x, X, cl, M, ok, h => by
    unfold mtE at h
    rw [Bool.and_eq_true] at h
    obtain ⟨hm, h⟩ := h
    split at h
    · simp only [Bool.and_eq_true, decide_eq_true_eq] at h
      obtain ⟨⟨⟨rfl, rfl⟩, h1⟩, h3⟩ := h
      obtain ⟨g1, g2, g3⟩ := gdc_ok ok h1
      have ha := mtE_ok a .v _ ok h3
      exact sd_cmp hm (pe_cmp (c_gdin g1 g2 g3 ha) rfl) (pt_of_pc (c_gdin g1 g2 g3 ha) rfl (fun _ _ _ => gdin_bl) rfl)
    · cases h
  | .dct _ _, m, x, X, cl, M, ok, h => by
    unfold mtE at h
    cases h
  | .dix ks es a, m, x, X, cl, M, ok, h => by
    unfold mtE at h
    rw [Bool.and_eq_true] at h
    obtain ⟨hm, h⟩ := h
    split at h
    · simp only [Bool.and_eq_true, decide_eq_true_eq] at h
      obtain ⟨⟨⟨⟨h1, h2⟩, h3⟩, h4⟩, h5⟩ := h
      obtain ⟨d1, d2, _⟩ := mtD_shape h1
      exact sd_plain hm (s_dix ok.units (mtD_ok es _ _ _ _ ok h1) d1 d2 h2 h3 (mtE_ok a .v _ ok h5) h4) rfl rfl
    · cases h
  | .dget i a, m, x, X, cl, M, ok, h => by
    unfold mtE at h
    rw [Bool.and_eq_true] at h
    obtain ⟨hm, h⟩ := h
    split at h
    · simp only [Bool.and_eq_true] at h
      obtain ⟨⟨h1, h2⟩, h3⟩ := h
      obtain ⟨g1, g2, g3, g4⟩ := vis_ok ok h1
      exact sd_plain hm (s_dget ok.units g1 g2 g3 g4 (mtE_ok a .v _ ok h3) h2) rfl rfl
    · cases h
  | .din neg i a, m, x, X, cl, M, ok, h => by
    unfold mtE at h
    rw [Bool.and_eq_true] at h
    obtain ⟨hm, h⟩ := h
    split at h
    · simp only [Bool.and_eq_true, decide_eq_true_eq] at h
      obtain ⟨⟨rfl, h1⟩, h3⟩ := h
      obtain ⟨g1, g2, g3, g4⟩ := vis_ok ok h1
      have ha := mtE_ok a .v _ ok h3
      exact sd_cmp hm (pe_cmp (c_din ok.units g1 g2 g3 g4 ha) rfl) (pt_of_pc (c_din ok.units g1 g2 g3 g4 ha) rfl (fun _ _ _ => din_bl) rfl)
    · cases h
theorem mtEs_ok : ∀ (es : Exs) (xs : List Expr) {X : Cx} {cl : Cl} {M : Mc}, MOk X cl M → mtEs M es xs = true → PA X xs (rdVs X.K (evEs cl es))
  | .nil, x, X, cl, M, ok, h => by
    unfold mtEs at h
    split at h
    · exact s_nil
    · cases h
  | .cons e es, x, X, cl, M, ok, h => by
    unfold mtEs at h
    split at h
    · simp only [Bool.and_eq_true] at h
      exact s_cons (mtE_ok e .v _ ok h.1.2) (mtEs_ok es _ ok h.2) h.1.1
    · cases h
theorem mtO_ok : ∀ (e : Eo) (x : Option Expr) {X : Cx} {cl : Cl} {M : Mc}, MOk X cl M → mtO M e x = true → PO X x (rdO X.K (evO cl e))
  | .no, x, X, cl, M, ok, h => by
    unfold mtO at h
    split at h
    · exact s_no
    · cases h
  | .yes e, x, X, cl, M, ok, h => by
    unfold mtO at h
    split at h
    · exact s_yes (mtE_ok e .v _ ok h)
    · cases h
theorem mtC_ok : ∀ (e : Eo) (x : List Expr) {X : Cx} {cl : Cl} {M : Mc}, MOk X cl M → mtC M e x = true → PTs X x (rdT X.K (evC cl e))
  | .no, x, X, cl, M, ok, h => by
    unfold mtC at h
    split at h
    · exact s_cno
    · cases h
  | .yes e, x, X, cl, M, ok, h => by
    unfold mtC at h
    split at h
    · exact s_cyes (mtE_ok e .t _ ok h)
    · cases h
theorem mtI_ok : ∀ (it : Pv.It) (tg x : Expr) {X : Cx} {cl : Cl} {M : Mc}, MOk X cl M → mtI M it tg x = true → PI X tg x (rdI X.K (evI cl it))
  | .seq a, tg, x, X, cl, M, ok, h => by
    unfold mtI at h
    exact i_seq (mtE_ok a .v _ ok h)
  | .rng a, tg, x, X, cl, M, ok, h => by
    unfold mtI at h
    split at h
    · simp only [Bool.and_eq_true, decide_eq_true_eq] at h
      obtain ⟨⟨⟨rfl, h1⟩, h2⟩, h3⟩ := h
      obtain ⟨g1, g2⟩ := glb_ok ok h1
      exact i_rng g1 g2 (mtE_ok a .v _ ok h3) h2
    · cases h
  | .rng2 a b, tg, x, X, cl, M, ok, h => by
    unfold mtI at h
    split at h
    · simp only [Bool.and_eq_true, decide_eq_true_eq] at h
      obtain ⟨⟨⟨⟨⟨rfl, h1⟩, h2⟩, h3⟩, h4⟩, h5⟩ := h
      obtain ⟨g1, g2⟩ := glb_ok ok h1
      exact i_rng2 g1 g2 (mtE_ok a .v _ ok h4) (mtE_ok b .v _ ok h5) h2 h3
    · cases h
  | .enum a, tg, x, X, cl, M, ok, h => by
    unfold mtI at h
    split at h
    · split at h
      · simp only [Bool.and_eq_true, decide_eq_true_eq] at h
        obtain ⟨⟨⟨rfl, h1⟩, h2⟩, h3⟩ := h
        obtain ⟨g1, g2⟩ := glb_ok ok h1
        exact i_enum g1 g2 (mtE_ok a .v _ ok h3) h2
      · cases h
    · cases h
  | .zip a b, tg, x, X, cl, M, ok, h => by
    unfold mtI at h
    split at h
    · split at h
      · simp only [Bool.and_eq_true, decide_eq_true_eq] at h
        obtain ⟨⟨⟨⟨⟨rfl, h1⟩, h2⟩, h3⟩, h4⟩, h5⟩ := h
        obtain ⟨g1, g2⟩ := glb_ok ok h1
        exact i_zip g1 g2 (mtE_ok a .v _ ok h4) (mtE_ok b .v _ ok h5) h2 h3
      · cases h
    · cases h
theorem mtD_ok : ∀ (es : Exs) (ks : List Str) (keys : List (Option Expr)) (values : List Expr) (pos : Pos) {X : Cx} {cl : Cl} {M : Mc}, MOk X cl M → mtD M ks es keys values = true → PPs X pos keys values (trsOf X.K cl ks es)
  | .nil, ks, keys, values, pos, X, cl, M, ok, h => by
    unfold mtD at h
    split at h
    · exact d_nil
    · cases h
  | .cons e es, ks, keys, values, pos, X, cl, M, ok, h => by
    unfold mtD at h
    split at h
    · simp only [Bool.and_eq_true, decide_eq_true_eq] at h
      obtain ⟨⟨rfl, h1⟩, h2⟩ := h
      exact d_cons (mtE_ok e .v _ ok h1) (mtD_ok es _ _ _ pos ok h2)
    · cases h
end
end Pv

set_option Elab.async false
set_option linter.all false
set_option maxRecDepth 100000
set_option maxHeartbeats 8000000
/-! statements that match are kept -/
namespace Pv
open PySem L2

/-! ### stores swapped -/
def swV (sc : Scope) (ts vs : List Expr) : Option (Option (List Str)) :=
  if (!(ts.length == 2 || ts.length == 3) || vs.length != ts.length) = true then some none
  else if (vs.any fun | .Starred .. => true | _ => false) = true then some none
  else
    let line := (ts.head?.map (·.pos.line)).getD 0
    let names := ts.filterMap fun
      | .Name id pos => if (sc.names.lookup id == some .local && pos.line == line) = true then some id else none
      | _ => none
    if (names.length != ts.length || names.eraseDups.length != names.length) = true then some none
    else if vs.all (foldedForSure 8) = true then some none
    else if vs.all (constantsAlone 8) = true then none
    else some (some names)
theorem sw_ok {sc : Scope} {env : PySem.Env} (h1 : env.scope = sc) (hk : sc.kind = .function) {ts vs : List Expr} {r : Option (List Str)} (h : swV sc ts vs = some r) {k k2 : Nat} {p p2 : Pos} :
    swappedStores [.Tuple ts k p] (.Tuple vs k2 p2) env = pure r := by
  have hb : env.blockKind = .function := by unfold PySem.Env.blockKind; rw [h1, hk]; rfl
  have hkd : ∀ x, env.kindOf x = sc.names.lookup x := fun x => by unfold PySem.Env.kindOf; rw [h1]
  unfold swV at h
  unfold swappedStores
  simp only [hb, hkd, bne_self_eq_false, Bool.or_false]
  by_cases c1 : (!(ts.length == 2 || ts.length == 3) || vs.length != ts.length) = true
  · rw [if_pos c1] at h ⊢
    cases h
    rfl
  · rw [if_neg c1] at h ⊢

    by_cases c2 : (vs.any fun | .Starred .. => true | _ => false) = true
    · rw [if_pos c2] at h
      cases h
      exact if_pos c2
    · rw [if_neg c2] at h
      refine Eq.trans (if_neg c2) ?_
      simp only at h
      split at h
      · rename_i c3
        cases h
        exact if_pos c3
      · rename_i c3
        refine Eq.trans (if_neg c3) ?_
        split at h
        · rename_i c4
          cases h
          exact if_pos c4
        · rename_i c4
          refine Eq.trans (if_neg c4) ?_
          split at h
          · cases h
          · rename_i c5
            cases h
            exact if_neg c5

def swC (M : Mc) (tg a : Expr) : Bool := match tg with
  | .Tuple ts _ _ => (match a with | .Tuple vs _ _ => decide (swV M.sc ts vs = some none) | _ => true)
  | .List _ _ => false
  | _ => true
section
variable {X : Cx} {cl : Cl} {M : Mc}
theorem swC_ok (ok : MOk X cl M) {tg a : Expr} (h : swC M tg a = true) : swappedStores [tg] a X.env = pure none := by
  unfold swC at h
  split at h
  · split at h
    · exact sw_ok ok.sc ok.kind (of_decide_eq_true h)
    · rename_i hn
      cases a <;> first | rfl | exact (hn _ _ _ rfl).elim
  · cases h
  · rename_i h1 h2
    cases tg <;> first | (cases a <;> rfl) | exact (h1 _ _ _ rfl).elim | exact (h2 _ _ rfl).elim
theorem sw_sub (o i a : Expr) (p : Pos) (env : PySem.Env) : swappedStores [.Subscript o i p] a env = pure none := by cases a <;> rfl
end

/-! ### values as one's own -/
def mtH (M : Mc) : Ex → Expr → Bool
  | .lst es, x => mtE M (.lst es) .v x
  | .rep a n, x => mtE M (.rep a n) .v x
  | .sl a l h, x => mtE M (.sl a l h) .v x
  | .op .add a b, x => mtE M (.op .add a b) .v x
  | .lrg a, x => mtE M (.lrg a) .v x
  | .call f es, x => mtE M (.call f es) .v x
  | .comp t it c e, x => mtE M (.comp t it c e) .v x
  | .bn .list (.cons a .nil), x => mtE M (.bn .list (.cons a .nil)) .v x
  | .dct ks es, x => (match x with | .Dict keys values _ => mtD M ks es keys values && decide (keys ≠ []) && decide (keys.length ≤ 15) | _ => false)
  | _, _ => false
section
variable {X : Cx} {cl : Cl} {M : Mc}
theorem mtH_ok (ok : MOk X cl M) {e : Ex} {x : Expr} (h : mtH M e x = true) : PE X x (rdH X.K (evOwn cl e)) := by
  unfold mtH at h
  split at h
  · unfold mtE at h
    rw [Bool.and_eq_true] at h
    obtain ⟨_, h⟩ := h
    split at h
    · exact h_lst (mtEs_ok _ _ ok h)
    · cases h
  · unfold mtE at h
    rw [Bool.and_eq_true] at h
    obtain ⟨_, h⟩ := h
    split at h
    · simp only [Bool.and_eq_true] at h
      obtain ⟨⟨h0, h1⟩, h2⟩ := h
      exact h_rep (mtE_ok _ .v _ ok h1) (mtE_ok _ .v _ ok h2) h0
    · cases h
  · unfold mtE at h
    rw [Bool.and_eq_true] at h
    obtain ⟨_, h⟩ := h
    split at h
    · simp only [Bool.and_eq_true] at h
      exact h_sl (mtE_ok _ .v _ ok h.1.1) (mtO_ok _ _ ok h.1.2) (mtO_ok _ _ ok h.2)
    · cases h
  · unfold mtE at h
    rw [Bool.and_eq_true] at h
    obtain ⟨_, h⟩ := h
    split at h
    · simp only [Bool.and_eq_true, decide_eq_true_eq] at h
      obtain ⟨⟨rfl, h1⟩, h2⟩ := h
      exact h_cat (mtE_ok _ .v _ ok h1) (mtE_ok _ .v _ ok h2)
    · cases h
  · unfold mtE at h
    rw [Bool.and_eq_true] at h
    obtain ⟨_, h⟩ := h
    split at h
    · simp only [Bool.and_eq_true, decide_eq_true_eq] at h
      obtain ⟨⟨⟨⟨⟨rfl, rfl⟩, h1⟩, h2⟩, h3⟩, h4⟩ := h
      obtain ⟨g1, g2⟩ := glb_ok ok h1
      obtain ⟨g3, g4⟩ := glb_ok ok h2
      exact h_lrg ok.calm g1 g2 g3 g4 (mtE_ok _ .v _ ok h4) h3
    · cases h
  · unfold mtE at h
    rw [Bool.and_eq_true] at h
    obtain ⟨_, h⟩ := h
    split at h
    · simp only [Bool.and_eq_true] at h
      obtain ⟨h1, h2⟩ := h
      obtain ⟨g1, g2, g3⟩ := gfn_ok ok h1
      exact h_call g2 g1 (mtEs_ok _ _ ok h2) (mtEs_star h2) g3
    · cases h
  · unfold mtE at h
    rw [Bool.and_eq_true] at h
    obtain ⟨_, h⟩ := h
    split at h
    · simp only [Bool.and_eq_true] at h
      obtain ⟨⟨⟨⟨⟨h1, h2⟩, h3⟩, h4⟩, h5⟩, h6⟩ := h
      obtain ⟨b1, b2⟩ := blkC_ok ok h3
      exact h_comp ok.calm ok.nd (mtI_ok _ _ _ ok h1) b1 b2 (fun s H C cls fp => mtTg_ok (blk_ok ok h3 s H C cls fp) h4) (fun s H C cls fp => mtC_ok _ _ (blk_ok ok h3 s H C cls fp) h5)
        (fun s H C cls fp => mtE_ok _ .v _ (blk_ok ok h3 s H C cls fp) h6) (notSet_ok h2)
    · cases h
  · unfold mtE at h
    rw [Bool.and_eq_true] at h
    obtain ⟨_, h⟩ := h
    split at h
    · simp only [Bool.and_eq_true, decide_eq_true_eq] at h
      obtain ⟨⟨rfl, h1⟩, h2⟩ := h
      obtain ⟨g1, g2⟩ := glb_ok ok h1
      unfold mtEs at h2
      simp only [Bool.and_eq_true] at h2
      obtain ⟨⟨h3, h4⟩, h5⟩ := h2
      unfold mtEs at h5
      split at h5
      · exact h_bnl g1 g2 (mtE_ok _ .v _ ok h4) h3
      · cases h5
    · cases h
  · split at h
    · simp only [Bool.and_eq_true, decide_eq_true_eq] at h
      obtain ⟨⟨h1, h2⟩, h3⟩ := h
      obtain ⟨d1, d2, _⟩ := mtD_shape h1
      exact h_dct (mtD_ok _ _ _ _ _ ok h1) d1 d2 h2 h3
    · cases h
  · cases h
end

/-! ### statements -/
/-- names of a tuple, all of them locals -/
def locs (M : Mc) : List Nat → List Expr → Bool
  | [], [] => true
  | i :: is, .Name x _ :: es => decide (M.N[i]? = some x) && decide (M.kd x = some .local) && locs M is es
  | _, _ => false
def nmsOf (ts : List Expr) : List Str := ts.filterMap fun | .Name x _ => some x | _ => none
/-- name = [..] -/
def lcOk (M : Mc) (y : Str) (py : Pos) (a : Expr) : Bool := match a with
  | .ListComp elt gs scope pos => decide (M.kd y ≠ some .local) || ((py.line == pos.line) && !(scope.names.any fun (n, k) => n == y && (k == .local || k == .cell)))
  | _ => notComp a
mutual
def mtS (M : Mc) : St → Stmt → Bool
  | .pass, s => (match s with | .Pass _ => true | _ => false)
  | .ex e, s => (match s with | .Expr a _ => notComp a && mtE M e .v a | _ => false)
  | .ret e, s => (match s with | .Return (some a) _ => (match e with | .var i => (match a with | .Name y _ => vis M i y | _ => false) | _ => notVar e && mtE M e .v a) | _ => false)
  | .retN, s => (match s with | .Return none _ => true | _ => false)
  | .reto e, s => (match s with | .Return (some a) _ => mtH M e a | _ => false)
  | .asg t e, s => (match s with | .Assign [tg] a _ => notComp a && notStar tg && swC M tg a && mtTg M t tg && mtE M e .v a | _ => false)
  | .own i e, s => (match s with | .Assign [.Name y py] a _ => loc M i y && lcOk M y py a && mtH M e a | _ => false)
  | .par is es, s => (match s with | .Assign [.Tuple ts _ _] (.Tuple vs _ _) _ => decide (swV M.sc ts vs = some (some (nmsOf ts))) && locs M is ts && decide is.Nodup && (decide (is.length = 2) || decide (is.length = 3)) && decide (vs.length = is.length) && mtEs M es vs | _ => false)
  | .setix i k e, s => (match s with | .Assign [.Subscript (.Name y _) r _] a _ => vis M i y && notComp a && notSlice r && mtE M k .v r && mtE M e .v a | _ => false)
  | .aug i o e, s => (match s with | .AugAssign (.Name y _) op a _ => decide (op = o.op) && o.ipOk && loc M i y && mtE M e .v a | _ => false)
  | .ifs c a b, s => (match s with | .If t p q _ => mtE M c .t t && mtSs M a p && mtSs M b q | _ => false)
  | .for_ t it b, s => (match s with | .For tg iter body [] _ => mtTg M t tg && mtI M it tg iter && notSet iter && mtSs M b body | _ => false)
  | .whl c b, s => (match s with | .While t body [] _ => mtE M c .t t && mtSs M b body | _ => false)
  | .app i e, s => (match s with | .Expr (.Call (.Attribute (.Name y _) n ap) [a] [] cp) _ => decide (n = "append") && vis M i y && lineOk ap cp && notStar a && mtE M e .v a | _ => false)
  | .ext i e, s => (match s with | .Expr (.Call (.Attribute (.Name y _) n ap) [a] [] cp) _ => decide (n = "extend") && vis M i y && lineOk ap cp && notStar a && mtE M e .v a | _ => false)
  | .ins i k e, s => (match s with | .Expr (.Call (.Attribute (.Name y _) n ap) [b, a] [] cp) _ => decide (n = "insert") && vis M i y && lineOk ap cp && notStar b && notStar a && mtE M k .v b && mtE M e .v a | _ => false)
  | .dset2 i k1 k2 e, s => (match s with
    | .Assign [tg] a _ => swC M tg a && notComp a && mtE M e .v a && (match tg with
      | .Tuple [.Subscript (.Name y _) (.Constant (.str c1) _ _) _, .Subscript (.Name z _) (.Constant (.str c2) _ _) _] _ _ => decide (y = z) && decide (k1 = c1) && decide (k2 = c2) && vis M i y
      | _ => false)
    | _ => false)
  | .setx2 i n j e, s => (match s with
    | .Assign [tg] a _ => swC M tg a && notComp a && mtE M e .v a && (match tg with
      | .Tuple [.Subscript (.Name y _) (.Constant (.int c) _ _) _, .Name z _] _ _ => decide (n = c) && vis M i y && loc M j z
      | _ => false)
    | _ => false)
  | .nil, _ => false
  | .seq _ _, _ => false
def mtSs (M : Mc) : St → List Stmt → Bool
  | .nil, x => (match x with | [] => true | _ => false)
  | .seq a b, x => (match x with | s :: ss => mtS M a s && mtSs M b ss | _ => false)
  | _, _ => false
end
end Pv

set_option Elab.async false
set_option linter.all false
set_option maxRecDepth 100000
set_option maxHeartbeats 8000000
/-! statements that match are kept -/
namespace Pv
open PySem L2

section
variable {X : Cx} {cl : Cl} {M : Mc}
theorem locs_ok (ok : MOk X cl M) : ∀ {is : List Nat} {ts : List Expr}, locs M is ts = true → ts.length = is.length ∧ ∀ (k i : Nat), is[k]? = some i → ∃ (x : Str) (p : Pos), ts[k]? = some (Expr.Name x p) ∧ X.N[i]? = some x ∧ X.env.scope.names.lookup x = some .local
  | [], [], _ => ⟨rfl, fun k i h => by simp at h⟩
  | i :: is, y :: es, h => by
    cases y <;> simp only [locs, Bool.and_eq_true, Bool.false_eq_true, decide_eq_true_eq] at h
    obtain ⟨⟨h1, h2⟩, h3⟩ := h
    obtain ⟨i1, i2⟩ := locs_ok ok h3
    refine ⟨by simp [i1], fun k j e => ?_⟩
    cases k with
    | zero =>
      simp at e
      subst e
      exact ⟨_, _, rfl, by rw [ok.n]; exact h1, by rw [ok.sc]; exact h2⟩
    | succ k => simpa using i2 k j (by simpa using e)
  | [], _ :: _, h => by simp [locs] at h
  | _ :: _, [], h => by simp [locs] at h
theorem par_ok {fu : Nat} (ok : MOk X cl M) {is : List Nat} {es : Exs} {ts vs : List Expr} {kt k2 : Nat} {pt pt2 pos : Pos} (h1 : swV M.sc ts vs = some (some (nmsOf ts))) (h2 : locs M is ts = true) (h3 : is.Nodup) (h4 : is.length = 2 ∨ is.length = 3) (h5 : vs.length = is.length) (h6 : mtEs M es vs = true) :
    PS X (.Assign [.Tuple ts kt pt] (.Tuple vs k2 pt2) pos) (rdS X.K (evS cl fu (.par is es))) := by
  have hw := fun k k2 p p2 => sw_ok (k := k) (k2 := k2) (p := p) (p2 := p2) ok.sc ok.kind h1
  have ha := mtEs_ok es vs ok h6
  obtain ⟨l1, l2⟩ := locs_ok ok h2
  rcases h4 with h4 | h4
  · match is, ts, vs, h4, l1, h5 with
    | [i, j], [t1, t2], [a, b], _, _, _ =>
      obtain ⟨x, px, e1, n1, k1⟩ := l2 0 i rfl
      obtain ⟨y, py, e2, n2, k2⟩ := l2 1 j rfl
      simp only [List.getElem?_cons_zero, List.getElem?_cons_succ, Option.some.injEq] at e1 e2
      subst e1 e2
      have hij : i ≠ j := fun z => by simp [z] at h3
      exact s_par2 ok.calm ok.nd n1 n2 hij k1 k2 ha (hw _ _ _ _)
  · match is, ts, vs, h4, l1, h5 with
    | [i, j, l], [t1, t2, t3], [a, b, c], _, _, _ =>
      obtain ⟨x, px, e1, n1, k1⟩ := l2 0 i rfl
      obtain ⟨y, py, e2, n2, k2⟩ := l2 1 j rfl
      obtain ⟨z, pz, e3, n3, k3⟩ := l2 2 l rfl
      simp only [List.getElem?_cons_zero, List.getElem?_cons_succ, Option.some.injEq] at e1 e2 e3
      subst e1 e2 e3
      simp only [List.nodup_cons, List.mem_cons, not_or, List.not_mem_nil, not_false_eq_true, and_true, List.nodup_nil] at h3
      exact s_par3 ok.calm ok.nd n1 n2 n3 h3.1.1 h3.1.2 h3.2 k1 k2 k3 ha (hw _ _ _ _)
/-- name = .. where no comprehension is swapped into the name -/
theorem sw_cell {elt : Expr} {gs : List Comprehension} {scope : Scope} {pos py : Pos} {y : Str} {l : Nat} {env : PySem.Env} (h : env.kindOf y ≠ some .local) : swapsWith (.ListComp elt gs scope pos) (some (.Name y py)) l env = pure false := by
  unfold swapsWith
  have : (env.kindOf y == some .local) = false := beq_eq_false_iff_ne.mpr h
  simp only [this, Bool.and_false, Bool.false_and]
theorem own_ok {fu : Nat} (ok : MOk X cl M) {i : Nat} {e : Ex} {y : Str} {py spos : Pos} {a : Expr} (h1 : loc M i y = true) (h2 : lcOk M y py a = true) (h3 : mtH M e a = true) : PS X (.Assign [.Name y py] a spos) (rdS X.K (evS cl fu (.own i e))) := by
  obtain ⟨g1, g2, g3⟩ := loc_ok ok h1
  by_cases hc : notComp a = true
  · exact s_own ok.nd g1 g2 g3 (mtH_ok ok h3) (swapsSole_none hc)
  · cases a <;> first | exact absurd rfl hc | skip
    case ListComp elt gs scope pos =>
      unfold lcOk at h2
      simp only [Bool.or_eq_true, decide_eq_true_eq, Bool.and_eq_true] at h2
      by_cases hl : M.kd y = some .local
      · obtain ⟨h4, h5⟩ := h2.resolve_left fun z => z hl
        have hl' : X.env.scope.names.lookup y = some .local := by rw [ok.sc]; exact hl
        have hkind : X.env.scope.kind = .function := by rw [ok.sc]; exact ok.kind
        have hsw := sw_true (elt := elt) (gs := gs) (l := spos.line) hkind hl' h4 (by simpa using h5)
        cases e <;> first | (simp only [mtH, Bool.false_eq_true] at h3; done) | skip
        case comp t it c e =>
          simp only [mtH] at h3
          unfold mtE at h3
          rw [Bool.and_eq_true] at h3
          obtain ⟨_, h⟩ := h3
          split at h
          · rename_i hq
            cases hq
            simp only [Bool.and_eq_true] at h
            obtain ⟨⟨⟨⟨⟨h1, h2⟩, h3⟩, h4⟩, h5⟩, h6⟩ := h
            obtain ⟨b1, b2⟩ := blkC_ok ok h3
            exact s_ownc ok.calm ok.nd g1 hl' hsw (mtI_ok _ _ _ ok h1) b1 b2 (fun s H C cls fp => mtTg_ok (blk_ok ok h3 s H C cls fp) h4) (fun s H C cls fp => mtC_ok _ _ (blk_ok ok h3 s H C cls fp) h5)
              (fun s H C cls fp => mtE_ok _ .v _ (blk_ok ok h3 s H C cls fp) h6) (notSet_ok h2)
          · cases h
        all_goals first
          | (simp [mtH, mtE] at h3; done)
          | (rename_i o p q; cases o <;> simp [mtH, mtE] at h3; done)
          | (rename_i f es; cases f <;> first | (simp [mtH] at h3; done) | (cases es <;> first | (simp [mtH] at h3; done) | (rename_i z zs; cases zs <;> simp [mtH, mtE] at h3; done)))
      · have hn : swapsWith (.ListComp elt gs scope pos) (some (.Name y py)) spos.line X.env = pure false := sw_cell (by unfold PySem.Env.kindOf; rw [ok.sc]; exact hl)
        exact s_own ok.nd g1 g2 g3 (mtH_ok ok h3) hn
    all_goals (simp [lcOk, notComp] at h2)
end
end Pv

set_option Elab.async false
set_option linter.all false
set_option maxRecDepth 100000
set_option maxHeartbeats 8000000
/-! suites that match are kept -/
namespace Pv
open PySem L2

section
variable {X : Cx} {cl : Cl} {M : Mc} {fu : Nat}
mutual
theorem mtS_ok (ok : MOk X cl M) : ∀ (st : St) (s : Stmt), mtS M st s = true → PS X s (rdS X.K (evS cl fu st))
  | .pass, s, h => by
    unfold mtS at h
    split at h
    · exact s_pass
    · cases h
  | .ex e, s, h => by
    unfold mtS at h
    split at h
    · rw [Bool.and_eq_true] at h
      exact s_ex (mtE_ok e .v _ ok h.2) h.1
    · cases h
  | .ret e, s, h => by
    unfold mtS at h
    split at h
    · split at h
      · split at h
        · obtain ⟨a, b, c, d⟩ := vis_ok ok h
          exact s_retv a b c d
        · cases h
      · rw [Bool.and_eq_true] at h
        exact s_ret (mtE_ok e .v _ ok h.2) h.1
    · cases h
  | .retN, s, h => by
    unfold mtS at h
    split at h
    · exact s_retN
    · cases h
  | .reto e, s, h => by
    unfold mtS at h
    split at h
    · exact s_reto (mtH_ok ok h)
    · cases h
  | .asg t e, s, h => by
    unfold mtS at h
    split at h
    · simp only [Bool.and_eq_true] at h
      obtain ⟨⟨⟨⟨h1, h2⟩, h3⟩, h4⟩, h5⟩ := h
      exact s_asg (mtE_ok e .v _ ok h5) (mtTg_ok ok h4) (swapsSole_none h1) (swC_ok ok h3) h2
    · cases h
  | .own i e, s, h => by
    unfold mtS at h
    split at h
    · simp only [Bool.and_eq_true] at h
      exact own_ok ok h.1.1 h.1.2 h.2
    · cases h
  | .par is es, s, h => by
    unfold mtS at h
    split at h
    · simp only [Bool.and_eq_true, Bool.or_eq_true, decide_eq_true_eq] at h
      obtain ⟨⟨⟨⟨⟨h1, h2⟩, h3⟩, h4⟩, h5⟩, h6⟩ := h
      exact par_ok ok h1 h2 h3 h4 h5 h6
    · cases h
  | .setix i k e, s, h => by
    unfold mtS at h
    split at h
    · simp only [Bool.and_eq_true] at h
      obtain ⟨⟨⟨⟨h1, h2⟩, h3⟩, h4⟩, h5⟩ := h
      obtain ⟨a, b, c, d⟩ := vis_ok ok h1
      exact s_setix a b c d (mtE_ok e .v _ ok h5) (mtE_ok k .v _ ok h4) h2 h3 (sw_sub _ _ _ _ _)
    · cases h
  | .aug i o e, s, h => by
    unfold mtS at h
    split at h
    · simp only [Bool.and_eq_true, decide_eq_true_eq] at h
      obtain ⟨⟨⟨rfl, h1⟩, h2⟩, h3⟩ := h
      obtain ⟨a, b, c⟩ := loc_ok ok h2
      exact s_aug ok.nd a b c (mtE_ok e .v _ ok h3) h1
    · cases h
  | .ifs c a b, s, h => by
    unfold mtS at h
    split at h
    · simp only [Bool.and_eq_true] at h
      exact s_if (mtE_ok c .t _ ok h.1.1) (mtSs_ok ok a _ h.1.2) (mtSs_ok ok b _ h.2)
    · cases h
  | .for_ t it b, s, h => by
    unfold mtS at h
    split at h
    · simp only [Bool.and_eq_true] at h
      obtain ⟨⟨⟨h1, h2⟩, h3⟩, h4⟩ := h
      exact s_for ok.own ok.calm (mtI_ok it _ _ ok h2) (mtTg_ok ok h1) (mtSs_ok ok b _ h4) (notSet_ok h3)
    · cases h
  | .whl c b, s, h => by
    unfold mtS at h
    split at h
    · rw [Bool.and_eq_true] at h
      exact s_whl ok.own (mtE_ok c .t _ ok h.1) (mtSs_ok ok b _ h.2)
    · cases h
  | .app i e, s, h => by
    unfold mtS at h
    split at h
    · simp only [Bool.and_eq_true, decide_eq_true_eq] at h
      obtain ⟨⟨⟨⟨rfl, h1⟩, h2⟩, h3⟩, h4⟩ := h
      obtain ⟨a, b, c, d⟩ := vis_ok ok h1
      exact s_app a b c d (mtE_ok e .v _ ok h4) h3 (lineOk_ok h2)
    · cases h
  | .ext i e, s, h => by
    unfold mtS at h
    split at h
    · simp only [Bool.and_eq_true, decide_eq_true_eq] at h
      obtain ⟨⟨⟨⟨rfl, h1⟩, h2⟩, h3⟩, h4⟩ := h
      obtain ⟨a, b, c, d⟩ := vis_ok ok h1
      exact s_ext a b c d (mtE_ok e .v _ ok h4) h3 (lineOk_ok h2)
    · cases h
  | .ins i k e, s, h => by
    unfold mtS at h
    split at h
    · simp only [Bool.and_eq_true, decide_eq_true_eq] at h
      obtain ⟨⟨⟨⟨⟨⟨rfl, h1⟩, h2⟩, h3⟩, h4⟩, h5⟩, h6⟩ := h
      obtain ⟨a, b, c, d⟩ := vis_ok ok h1
      exact s_ins a b c d (mtE_ok k .v _ ok h5) (mtE_ok e .v _ ok h6) h4 h3 (lineOk_ok h2)
    · cases h
  | .dset2 i k1 k2 e, s, h => by
    unfold mtS at h
    split at h
    · simp only [Bool.and_eq_true] at h
      obtain ⟨⟨⟨h1, h2⟩, h3⟩, h4⟩ := h
      split at h4
      · simp only [Bool.and_eq_true, decide_eq_true_eq] at h4
        obtain ⟨⟨⟨rfl, rfl⟩, rfl⟩, h5⟩ := h4
        obtain ⟨a, b, c, d⟩ := vis_ok ok h5
        exact s_dset2 ok.calm ok.units a b c d (mtE_ok e .v _ ok h3) h2 (swC_ok ok h1)
      · cases h4
    · cases h
  | .setx2 i n j e, s, h => by
    unfold mtS at h
    split at h
    · simp only [Bool.and_eq_true] at h
      obtain ⟨⟨⟨h1, h2⟩, h3⟩, h4⟩ := h
      split at h4
      · simp only [Bool.and_eq_true, decide_eq_true_eq] at h4
        obtain ⟨⟨rfl, h5⟩, h6⟩ := h4
        obtain ⟨a, b, c, d⟩ := vis_ok ok h5
        obtain ⟨a2, b2, c2⟩ := loc_ok ok h6
        exact s_setx2 (kp := 0) ok.calm ok.nd a b c d a2 b2 c2 (mtE_ok e .v _ ok h3) h2 (swC_ok ok h1)
      · cases h4
    · cases h
  | .nil, s, h => by unfold mtS at h; cases h
  | .seq _ _, s, h => by unfold mtS at h; cases h
theorem mtSs_ok (ok : MOk X cl M) : ∀ (st : St) (ss : List Stmt), mtSs M st ss = true → PSs X ss (rdS X.K (evS cl fu st))
  | .nil, ss, h => by
    unfold mtSs at h
    split at h
    · exact ss_nil
    · cases h
  | .seq a b, ss, h => by
    unfold mtSs at h
    split at h
    · rw [Bool.and_eq_true] at h
      exact ss_cons (mtS_ok ok a _ h.1) (mtSs_ok ok b _ h.2)
    · cases h
  | .pass, ss, h => by unfold mtSs at h; cases h
  | .ex _, ss, h => by unfold mtSs at h; cases h
  | .ret _, ss, h => by unfold mtSs at h; cases h
  | .retN, ss, h => by unfold mtSs at h; cases h
  | .reto _, ss, h => by unfold mtSs at h; cases h
  | .asg _ _, ss, h => by unfold mtSs at h; cases h
  | .own _ _, ss, h => by unfold mtSs at h; cases h
  | .par _ _, ss, h => by unfold mtSs at h; cases h
  | .setix _ _ _, ss, h => by unfold mtSs at h; cases h
  | .aug _ _ _, ss, h => by unfold mtSs at h; cases h
  | .ifs _ _ _, ss, h => by unfold mtSs at h; cases h
  | .for_ _ _ _, ss, h => by unfold mtSs at h; cases h
  | .whl _ _, ss, h => by unfold mtSs at h; cases h
  | .app _ _, ss, h => by unfold mtSs at h; cases h
  | .ext _ _, ss, h => by unfold mtSs at h; cases h
  | .ins _ _ _, ss, h => by unfold mtSs at h; cases h
  | .dset2 _ _ _ _, ss, h => by unfold mtSs at h; cases h
  | .setx2 _ _ _ _, ss, h => by unfold mtSs at h; cases h
end
end
end Pv

set_option Elab.async false
set_option linter.all false
set_option maxRecDepth 100000
set_option maxHeartbeats 8000000
/-! a table of defs -/
namespace Pv
open PySem L2

structure Row where
  x : Str
  st : Stmt
  fd : Fd
  N : List Str
def Row.ps (r : Row) : List Str := r.N.take r.fd.lent.length
def tblOf (rows : List Row) (i : Nat) : Option Fd := (rows[i]?).map (·.fd)
def fnsOf (rows : List Row) : List (Str × Nat) := rows.mapIdx fun i r => (r.x, i)
def rowC (gd : List (Str × List (Str × Option Str))) (fns : List (Str × Nat)) (r : Row) : Bool :=
  C8.scC r.N r.ps (defScope r.st) && decide (r.N.length = r.fd.n) && decide (r.ps.length = r.fd.lent.length) && mtSs ⟨r.N, defScope r.st, defScope r.st, gd, fns⟩ r.fd.body (defBody r.st)
structure RowOk (gd : List (Str × List (Str × Option Str))) (fns : List (Str × Nat)) (r : Row) : Prop where
  c : rowC gd fns r = true
  b : ∀ (kV doc pm : Value) (an : Option Addr) (cdv ct : Value) (us : List Value), us.length = r.ps.length → bindArgs (PySem.W.fnOf r.x r.x (defArgs r.st) (defBody r.st) (defScope r.st) .none kV doc pm an cdv ct) ⟨us, []⟩ = pure (r.ps.zip us)
/-- what stands behind the top -/
structure Facts (w : World) (K : PySem.W.Frag) (mg : Str → Option Value) (rows : List Row) (gd : List (Str × List (Str × Option Str))) : Prop where
  defs : ∀ (i : Nat) (r : Row), rows[i]? = some r → ∃ f fd, FunD K r.x r.x (defArgs r.st) (defBody r.st) (defScope r.st) [] [] f fd ∧ mg r.x = some (.ref f)
  bl : ∀ x ∈ blN, mg x = none
  gd : ∀ (x : Str) (kvs : List (Str × Option Str)), gd.lookup x = some kvs → ∃ d es n, mg x = some (.ref d) ∧ KDict K w d es n ∧ ∀ z o, kvs.lookup z = some o → match o with
    | some u => ∃ t, PySem.W.nsIn K d z = some (some (.str u t))
    | none => PySem.W.nsIn K d z = some none
theorem lookup_idx {x : Str} {f : Nat} : ∀ {rows : List Row} {k : Nat}, (rows.mapIdx fun i r => (r.x, i + k)).lookup x = some f → ∃ (i : Nat) (r : Row), f = i + k ∧ rows[i]? = some r ∧ r.x = x
  | [], k, h => by simp at h
  | r :: rows, k, h => by
    rw [List.mapIdx_cons, List.lookup_cons] at h
    split at h
    · rename_i hx
      cases h
      exact ⟨0, r, rfl, rfl, (eq_of_beq hx).symm⟩
    · have e : (rows.mapIdx fun i r => (r.x, i + 1 + k)) = rows.mapIdx fun i r => (r.x, i + (k + 1)) := by
        congr 1; funext i r; rw [Nat.add_assoc, Nat.add_comm 1 k]
      rw [e] at h
      obtain ⟨i, r', h1, h2, h3⟩ := lookup_idx h
      exact ⟨i + 1, r', by omega, by simpa using h2, h3⟩
section
variable {P : Program} {w : World} {K : PySem.W.Frag} {mg : Str → Option Value} {base : Heap} {rows : List Row} {gd : List (Str × List (Str × Option Str))} {fu : Nat}
theorem tbl_ok (hR : ∀ r ∈ rows, RowOk gd (fnsOf rows) r) (hF : Facts w K mg rows gd) : ∀ (k i : Nat) (r : Row) (f : Addr) (fd : FuncData), rows[i]? = some r → FunD K r.x r.x (defArgs r.st) (defBody r.st) (defScope r.st) [] [] f fd →
    FnOk P w K mg base C8.CX0 k f fd r.ps (spF K r.fd.lent (evF (tblOf rows) fu k i))
  | 0, i, r, f, fd, hr, F => by
    have hc := (hR r (List.mem_of_getElem? hr)).c
    unfold rowC at hc
    simp only [Bool.and_eq_true, decide_eq_true_eq] at hc
    refine ⟨fun vs H Q E h => by rw [spF_len vs H Q E h, hc.1.2], fun A outer s H args us vs Q E _ _ _ _ h => ?_⟩
    obtain ⟨S, ρ, fp, ts, t, ts', ρb, _, _, h, _⟩ := h
    unfold evF at h
    cases h
  | k + 1, i, r, f, fd, hr, F => by
    have hc := (hR r (List.mem_of_getElem? hr)).c
    unfold rowC at hc
    simp only [Bool.and_eq_true, decide_eq_true_eq] at hc
    obtain ⟨⟨⟨h1, h2⟩, h3⟩, h4⟩ := hc
    have sc := C8.fnScope_by h1
    have ht : tblOf rows i = some r.fd := by unfold tblOf; rw [hr]; rfl
    refine F.ok sc (fun vs H Q E h => by rw [spF_len vs H Q E h, h3]) fun cdv A outer s H vs Q E hroom h => ⟨rdS K (evS (evF (tblOf rows) fu k) fu r.fd.body), PSs.nox ?_, body_rd ht h2 h⟩
    refine mtSs_ok (M := ⟨r.N, defScope r.st, defScope r.st, gd, fnsOf rows⟩) ?_ r.fd.body (defBody r.st) h4
    refine ⟨rfl, sc.nd, rfl, sc.kind, fun _ _ => rfl, rfl, ?_, hF.bl, fun x kvs hx => ⟨hF.gd x kvs hx⟩, fun x g hx => ?_, PassesOwn.never⟩
    · have := hroom.un
      show (A.deeper _).units + 64 < cLine
      omega
    · obtain ⟨j, r', hj, hr', rfl⟩ := lookup_idx (k := 0) hx
      obtain rfl : g = j := hj
      obtain ⟨f', fd', F', hm⟩ := hF.defs g r' hr'
      have IH := tbl_ok hR hF k g r' f' fd' hr' F'
      have ht' : tblOf rows g = some r'.fd := by unfold tblOf; rw [hr']; rfl
      have b := F'.bindsN (hR r' (List.mem_of_getElem? hr')).b
      exact ⟨k, r'.fd.lent, ⟨f', fd', r'.ps, [], IH, hm, F'.kp, b, .nil⟩, hroom, cl_ends ht'⟩
end
end Pv

set_option Elab.async false
set_option linter.all false
set_option maxRecDepth 100000
set_option maxHeartbeats 8000000
/-! the head: what the top leaves behind, by the table -/
namespace Pv
open PySem PySem.W L2

abbrev Gds : Type := List (Str × List (Str × Option Str))
def fnD (rows : List Row) : List He.DefD := rows.map fun r => ⟨(r.x, none), r.x, r.x, defArgs r.st, defBody r.st, defScope r.st, [], []⟩
def faD (rows : List Row) (gd : Gds) : List He.Fa := rows.map (fun r => .glo r.x) ++ (gd.map (fun p => .glo p.1) ++ blN.map .free)
def tabD (gd : Gds) : List He.Tab := gd.map fun p => (fun K => He.ga K p.1, p.2.filterMap fun q => q.2.map fun _ => q.1)
def valOk (K : PySem.W.Frag) (a : Addr) (q : Str × Option Str) : Bool := match q.2 with
  | some u => (match PySem.W.nsIn K a q.1 with
    | some (some (.str y _)) => decide (y = u)
    | _ => false)
  | none => He.eqO (PySem.W.nsIn K a q.1) (some none)
def gdOk (gd : Gds) (K : PySem.W.Frag) : Bool := gd.all fun p => p.2.all (valOk K (He.ga K p.1))
abbrev AlP : Type := He.AlT × Bool
def obsP (n : Nat) (rows : List Row) (gd : Gds) (g : Addr → Option Obj) : AlP := (He.obsT (faD rows gd) (fnD rows) (tabD gd) (He.frG g (He.asD g n)), gdOk gd (He.frG g (He.asD g n)))
def hookP (n : Nat) (rows : List Row) (gd : Gds) : PySem.W.Hook where
  α := AlP
  obs := fun s => obsP n rows gd s.heap.get?
  val := fun w => (He.valT (fnD rows) (tabD gd) w, true)
  says := fun w h => ∃ K : PySem.W.Frag, K.In h ∧ He.SaysT (faD rows gd) (fnD rows) (tabD gd) w K ∧ gdOk gd K = true
  of := fun _ _ e => ⟨_, He.frG_in, congrArg Prod.fst e, congrArg Prod.snd e⟩
  keeps := fun _ _ _ ⟨K, hK, c⟩ k => ⟨K, PySem.W.Frag.In.keeps hK k, c⟩
def obP (n : Nat) (rows : List Row) (gd : Gds) (s : PySem.W.SharedT) : AlP := obsP n rows gd (HandSHeadRun.getT s)
theorem obP_eq {n : Nat} {rows : List Row} {gd : Gds} (s : PySem.W.SharedT) : obP n rows gd s = (hookP n rows gd).obs s.abs := by
  have e : HandSHeadRun.getT s = s.abs.heap.get? := funext (HandSHeadRun.getT_eq s)
  unfold obP
  rw [e] <;> rfl
section
variable {w : World} {K : PySem.W.Frag} {h : Heap} {mg : Str → Option Value} {rows : List Row} {gd : Gds}
theorem facts_of (X : K.In h) (G : h.Ns mainGlobals mg) (c : He.SaysT (faD rows gd) (fnD rows) (tabD gd) w K) (b : gdOk gd K = true) : Facts w K mg rows gd := by
  have fact : ∀ f ∈ faD rows gd, f.ok K = true := fun f hf => by
    obtain ⟨i, hi⟩ := List.mem_iff_getElem?.mp hf
    exact c.d.fact i hi
  have glo : ∀ x, He.Fa.glo x ∈ faD rows gd → mg x = some (.ref (He.ga K x)) := fun x hx => He.glo_ok X G (fact _ hx)
  refine ⟨fun i r hr => ?_, fun x hx => ?_, fun x kvs hx => ?_⟩
  · have hm : r ∈ rows := List.mem_of_getElem? hr
    obtain ⟨fd, F⟩ := c.d.def_ i (d := ⟨(r.x, none), r.x, r.x, defArgs r.st, defBody r.st, defScope r.st, [], []⟩) (by unfold fnD; rw [List.getElem?_map, hr]; rfl)
    exact ⟨_, fd, F, glo r.x (List.mem_append_left _ (List.mem_map.mpr ⟨r, hm, rfl⟩))⟩
  · exact He.free_ok X G (fact _ (List.mem_append_right _ (List.mem_append_right _ (List.mem_map.mpr ⟨x, hx, rfl⟩))))
  · have hm : (x, kvs) ∈ gd := PySem.mem_of_lookup hx
    obtain ⟨i, hi⟩ := List.mem_iff_getElem?.mp hm
    obtain ⟨es, n, kd⟩ := c.tab i (t := (fun K => He.ga K x, kvs.filterMap fun q => q.2.map fun _ => q.1)) (by unfold tabD; rw [List.getElem?_map, hi]; rfl)
    refine ⟨_, es, n, glo x (List.mem_append_right _ (List.mem_append_left _ (List.mem_map.mpr ⟨_, hm, rfl⟩))), kd, fun z o hz => ?_⟩
    have hq := List.all_eq_true.mp (List.all_eq_true.mp b _ hm) _ (PySem.mem_of_lookup hz)
    cases o with
    | some u =>
      unfold valOk at hq
      simp only at hq
      split at hq
      · rename_i y t e
        obtain rfl := of_decide_eq_true hq
        exact ⟨t, e⟩
      · cases hq
    | none => exact He.eqO_ok hq
end
/-- what a law's def gives at every list of ints: the evaluator's True is the law's -/
theorem law_sp {K : PySem.W.Frag} {cl : List OT → Option (OT × List OT)} {n : Nat} (h : ∀ ns : List Int, ns.length ≤ n → ∃ r, cl [.sh (.list (ns.map .int))] = some (.sh (.bool true), r) ∧ ∃ ρb, backE [false] r = some ρb)
    (H : Hp) (a : Addr) (ns : List Int) (hl : ns.length ≤ n) (hO : Only H) (hS : SqL K H a (ns.map V.int)) (E : XK) : spF K [false] cl [.ref a] H (fun v _ => v = .bl true) E := by
  obtain ⟨r, hr, ρb, hb⟩ := h ns hl
  have repi : ∀ (S : Addr → Prop) (ns : List Int), Reps K S H (ns.map V.int) (ns.map PyData.int) := fun S ns => Reps.map (fun i => .int i) ns
  have fin : ∀ (S : Addr → Prop), (∀ x, S x → ∃ o, H x = some o) → Rep K S H (.ref a) (.list (ns.map .int)) → spF K [false] cl [.ref a] H (fun v _ => v = .bl true) E := fun S live rp => by
    refine ⟨S, [.val false (.sh (.list (ns.map .int)))], fun _ _ => False, [.sh (.list (ns.map .int))], _, r, ρb, rfl, ⟨rfl, live, fun i s e => ?_, fun _ _ z => z.elim, fun _ _ _ z => z.elim, fun _ _ _ z => z⟩, hr, hb, fun S' fp' H' v G _ _ hh _ => ?_⟩
    · match i with
      | 0 =>
        cases e
        refine ⟨.ref a, rfl, ?_⟩
        unfold RepO
        exact ⟨fun _ z => z, rp⟩
      | i + 1 => simp at e
    · have := hh.rep_sh
      cases this
      rfl
  rcases hS with hS | hS
  · obtain ⟨o, ho⟩ := rd_some hS
    exact fin (fun x => x = a) (fun x hx => by rw [hx]; exact ⟨o, ho⟩) (.lst (.inl ⟨rfl, hS⟩) (repi _ ns))
  · exact fin (fun _ => False) (fun _ hx => hx.elim) (.lst (.inr hS) (repi _ ns))
end Pv

set_option Elab.async false
set_option linter.all false
set_option maxRecDepth 100000
set_option maxHeartbeats 0
/-! the defs of the law, in the small language -/
namespace K94
open PySem L2 Pv
def top (i : Nat) : Stmt := PySem.Challenge.pw_somesay_k94_whole_asked_next.main.body.getD i (.Pass ⟨0, 0, 0, 0⟩)
def gd_TURNED : List (Str × Option Str) := [("all", some "notall"), ("notall", some "all"), ("some", some "none"), ("none", some "some"), ("share", some "under"), ("under", some "share"), ("more", some "asmany"), ("asmany", some "more"), ("least", none), ("most", none), ("just", none)]
def gds : List (Str × List (Str × Option Str)) := [("TURNED", gd_TURNED)]
def b_cell_count : Pv.St := (.seq (.asg (.one 1) (.int 1)) (.seq (.for_ (.one 2) (.rng (.var 0)) (.seq (.asg (.one 1) (.op .mul (.int 2) (.var 1))) .nil)) (.seq (.ret (.var 1)) .nil)))
def r_cell_count : Row := ⟨"cell_count", top 1, ⟨[false], 3, b_cell_count⟩, ["many", "found", "k"]⟩
def b_is_of : Pv.St := (.seq (.ifs (.cmp .eq (.ix (.var 0) (.int 0)) (.str "any")) (.seq (.ret (.bl true)) .nil) .nil) (.seq (.ifs (.cmp .eq (.ix (.var 0) (.int 0)) (.str "is")) (.seq (.ret (.cmp .eq (.op .mod (.op .fdiv (.var 1) (.call 0 (.cons (.ix (.var 0) (.int 1)) .nil))) (.int 2)) (.int 1))) .nil) .nil) (.seq (.ifs (.cmp .eq (.ix (.var 0) (.int 0)) (.str "not")) (.seq (.ret (.not (.call 1 (.cons (.ix (.var 0) (.int 1)) (.cons (.var 1) .nil))))) .nil) .nil) (.seq (.ifs (.cmp .eq (.ix (.var 0) (.int 0)) (.str "and")) (.seq (.ret (.and (.call 1 (.cons (.ix (.var 0) (.int 1)) (.cons (.var 1) .nil))) (.last (.call 1 (.cons (.ix (.var 0) (.int 2)) (.cons (.var 1) .nil)))))) .nil) .nil) (.seq (.ret (.or (.call 1 (.cons (.ix (.var 0) (.int 1)) (.cons (.var 1) .nil))) (.last (.call 1 (.cons (.ix (.var 0) (.int 2)) (.cons (.var 1) .nil)))))) .nil)))))
def r_is_of : Row := ⟨"is_of", top 2, ⟨[false, false], 2, b_is_of⟩, ["term", "cell"]⟩
def b_things_counted : Pv.St := (.seq (.asg (.tup [3, 4, 5]) (.tup (.cons (.int 0) (.cons (.int 0) (.cons (.int 0) .nil))))) (.seq (.for_ (.tup [6, 7]) (.enum (.var 0)) (.seq (.par [8, 9] (.cons (.call 1 (.cons (.var 1) (.cons (.var 6) .nil))) (.cons (.call 1 (.cons (.var 2) (.cons (.var 6) .nil))) .nil))) (.seq (.ifs (.and (.var 8) (.last (.var 9))) (.seq (.aug 3 .add (.var 7)) .nil) (.seq (.ifs (.var 8) (.seq (.aug 4 .add (.var 7)) .nil) (.seq (.ifs (.var 9) (.seq (.aug 5 .add (.var 7)) .nil) .nil) .nil)) .nil)) .nil))) (.seq (.ret (.tup (.cons (.var 3) (.cons (.var 4) (.cons (.var 5) .nil))))) .nil)))
def r_things_counted : Row := ⟨"things_counted", top 5, ⟨[false, false, false], 10, b_things_counted⟩, ["world", "some", "other", "both", "alone", "behind", "cell", "count", "is_some", "is_other"]⟩
def b_holds : Pv.St := (.seq (.asg (.one 2) (.ix (.var 0) (.int 0))) (.seq (.asg (.tup [3, 4, 5]) (.call 2 (.cons (.var 1) (.cons (.ix (.var 0) (.neg (.int 2))) (.cons (.ix (.var 0) (.neg (.int 1))) .nil))))) (.seq (.ifs (.cmp .isin (.var 2) (.tup (.cons (.str "all") (.cons (.str "notall") .nil)))) (.seq (.ret (.cmp .eq (.cmp .eq (.var 4) (.int 0)) (.cmp .eq (.var 2) (.str "all")))) .nil) .nil) (.seq (.ifs (.cmp .isin (.var 2) (.tup (.cons (.str "some") (.cons (.str "none") .nil)))) (.seq (.ret (.cmp .eq (.cmp .gt (.var 3) (.int 0)) (.cmp .eq (.var 2) (.str "some")))) .nil) .nil) (.seq (.ifs (.cmp .eq (.var 2) (.str "least")) (.seq (.ret (.cmp .ge (.var 3) (.ix (.var 0) (.int 1)))) .nil) .nil) (.seq (.ifs (.cmp .eq (.var 2) (.str "most")) (.seq (.ret (.cmp .le (.var 3) (.ix (.var 0) (.int 1)))) .nil) .nil) (.seq (.ifs (.cmp .eq (.var 2) (.str "just")) (.seq (.ret (.cmp .eq (.var 3) (.ix (.var 0) (.int 1)))) .nil) .nil) (.seq (.ifs (.cmp .eq (.var 2) (.str "more")) (.seq (.ret (.cmp .gt (.var 4) (.var 5))) .nil) .nil) (.seq (.ifs (.cmp .eq (.var 2) (.str "asmany")) (.seq (.ret (.cmp .ge (.var 4) (.var 5))) .nil) .nil) (.seq (.ret (.cmp .eq (.cmp .ge (.op .mul (.ix (.var 0) (.int 2)) (.var 3)) (.op .mul (.ix (.var 0) (.int 1)) (.op .add (.var 3) (.var 4)))) (.cmp .eq (.var 2) (.str "share")))) .nil))))))))))
def r_holds : Row := ⟨"holds", top 6, ⟨[false, false], 6, b_holds⟩, ["saying", "world", "word", "both", "alone", "behind"]⟩
def b_opposites : Pv.St := (.seq (.asg (.one 1) (.ix (.var 0) (.int 0))) (.seq (.ifs (.cmp .isin (.var 1) (.tup (.cons (.str "more") (.cons (.str "asmany") .nil)))) (.seq (.reto (.lst (.cons (.tup (.cons (.gdx "TURNED" gd_TURNED (.var 1)) (.cons (.ix (.var 0) (.int 2)) (.cons (.ix (.var 0) (.int 1)) .nil)))) .nil))) .nil) .nil) (.seq (.ifs (.gdin false "TURNED" gd_TURNED (.var 1)) (.seq (.reto (.lst (.cons (.op .add (.tup (.cons (.gdx "TURNED" gd_TURNED (.var 1)) .nil)) (.sl (.var 0) (.yes (.int 1)) .no)) .nil))) .nil) .nil) (.seq (.own 2 (.lst .nil)) (.seq (.ifs (.and (.cmp .ne (.var 1) (.str "most")) (.last (.cmp .gt (.ix (.var 0) (.int 1)) (.int 0)))) (.seq (.app 2 (.op .add (.tup (.cons (.str "most") (.cons (.op .sub (.ix (.var 0) (.int 1)) (.int 1)) .nil))) (.sl (.var 0) (.yes (.int 2)) .no))) .nil) .nil) (.seq (.ifs (.cmp .ne (.var 1) (.str "least")) (.seq (.app 2 (.op .add (.tup (.cons (.str "least") (.cons (.op .add (.ix (.var 0) (.int 1)) (.int 1)) .nil))) (.sl (.var 0) (.yes (.int 2)) .no))) .nil) .nil) (.seq (.ret (.var 2)) .nil)))))))
def r_opposites : Row := ⟨"opposites", top 7, ⟨[false], 3, b_opposites⟩, ["saying", "word", "found"]⟩
def b_split_by : Pv.St := (.seq (.asg (.one 2) (.bs .len (.cons (.comp (.one 3) (.seq (.var 0)) (.yes (.call 3 (.cons (.var 1) (.cons (.var 3) .nil)))) (.var 3)) .nil))) (.seq (.ret (.tup (.cons (.var 2) (.cons (.op .sub (.bs .len (.cons (.var 0) .nil)) (.var 2)) .nil)))) .nil))
def r_split_by : Row := ⟨"split_by", top 9, ⟨[false, false], 4, b_split_by⟩, ["worlds", "saying", "yes", "world"]⟩
def b_best_ask : Pv.St := (.seq (.asg (.one 2) .non) (.seq (.for_ (.tup [3, 4]) (.enum (.var 1)) (.seq (.asg (.tup [5, 6]) (.call 5 (.cons (.var 0) (.cons (.var 4) .nil)))) (.seq (.ifs (.and (.cmp .gt (.var 5) (.int 0)) (.and (.cmp .gt (.var 6) (.int 0)) (.last (.or (.cmp .is (.var 2) .non) (.last (.cmp .lt (.bs .max (.cons (.var 5) (.cons (.var 6) .nil))) (.bs .max (.cons (.sl (.var 2) (.yes (.int 1)) .no) .nil)))))))) (.seq (.asg (.one 2) (.tup (.cons (.var 3) (.cons (.var 5) (.cons (.var 6) .nil))))) .nil) .nil) .nil))) (.seq (.ret (.var 2)) .nil)))
def r_best_ask : Row := ⟨"best_ask", top 10, ⟨[false, false], 7, b_best_ask⟩, ["worlds", "sayings", "best", "number", "saying", "yes", "no"]⟩
def b_ask_plan : Pv.St := (.seq (.asg (.one 2) (.bn .list (.cons (.var 0) .nil))) (.seq (.own 3 (.lst .nil)) (.seq (.asg (.one 4) (.call 6 (.cons (.var 2) (.cons (.var 1) .nil)))) (.seq (.whl (.cmp .isnot (.var 4) .non) (.seq (.app 3 (.var 4)) (.seq (.asg (.tup [5, 6, 7]) (.var 4)) (.seq (.own 2 (.comp (.one 8) (.seq (.var 2)) (.yes (.cmp .eq (.call 3 (.cons (.ix (.var 1) (.var 5)) (.cons (.var 8) .nil))) (.cmp .ge (.var 6) (.var 7)))) (.var 8))) (.seq (.asg (.one 4) (.call 6 (.cons (.var 2) (.cons (.var 1) .nil)))) .nil))))) (.seq (.ret (.var 3)) .nil)))))
def r_ask_plan : Row := ⟨"ask_plan", top 11, ⟨[false, false], 9, b_ask_plan⟩, ["worlds", "sayings", "left", "plan", "told", "number", "yes", "no", "world"]⟩
def b_all_counts : Pv.St := (.seq (.asg (.one 2) (.lst (.cons (.tup (.cons (.tup .nil) (.cons (.var 1) .nil))) .nil))) (.seq (.for_ (.one 3) (.rng (.var 0)) (.seq (.own 4 (.lst .nil)) (.seq (.for_ (.tup [5, 6]) (.seq (.var 2)) (.seq (.ext 4 (.comp (.one 7) (.rng (.op .add (.var 6) (.int 1))) .no (.tup (.cons (.op .add (.var 5) (.tup (.cons (.var 7) .nil))) (.cons (.op .sub (.var 6) (.var 7)) .nil))))) .nil)) (.seq (.asg (.one 2) (.var 4)) .nil)))) (.seq (.reto (.comp (.tup [5, 6]) (.seq (.var 2)) .no (.var 5))) .nil)))
def r_all_counts : Row := ⟨"all_counts", top 13, ⟨[false, false], 8, b_all_counts⟩, ["cells", "most", "found", "cell", "longer", "told", "left", "count"]⟩
def b_all_worlds : Pv.St := (.seq (.asg (.one 3) (.call 8 (.cons (.op .shl (.int 1) (.var 0)) (.cons (.var 1) .nil)))) (.seq (.reto (.comp (.one 4) (.seq (.var 3)) (.yes (.bs .all (.cons (.comp (.one 5) (.seq (.var 2)) .no (.call 3 (.cons (.var 5) (.cons (.var 4) .nil)))) .nil))) (.var 4))) .nil))
def r_all_worlds : Row := ⟨"all_worlds", top 14, ⟨[false, false, false], 6, b_all_worlds⟩, ["many", "most", "sayings", "worlds", "world", "saying"]⟩
def b_law_box : Pv.St := (.seq (.asg (.one 2) (.ix (.op .add (.var 0) (.rep (.int 0) (.op .add (.var 1) (.int 1)))) (.var 1))) (.seq (.reto (.lst (.cons (.op .mul (.bs .abs (.cons (.var 2) .nil)) (.bs .int (.cons (.cmp .ge (.bs .abs (.cons (.var 2) .nil)) (.op .pow (.int 10) (.int 18))) .nil))) (.cons (.op .mod (.op .mul (.op .add (.op .add (.op .mod (.var 2) (.int 2147483647)) (.op .mul (.int 7919) (.var 1))) (.int 11)) (.int 48271)) (.int 2147483629)) (.cons (.int 0) .nil))))) .nil))
def r_law_box : Row := ⟨"_law_box", top 16, ⟨[false, false], 3, b_law_box⟩, ["_law_script", "_law_k", "_law_cell"]⟩
def b_law_take : Pv.St := (.seq (.ifs (.cmp .gt (.ix (.pk 0) (.int 0)) (.int 0)) (.seq (.setx2 0 0 3 (.bn .divmod (.cons (.ix (.pk 0) (.int 0)) (.cons (.var 1) .nil)))) (.seq (.ret (.var 3)) .nil)) .nil) (.seq (.setix 0 (.int 2) (.op .add (.ix (.pk 0) (.int 2)) (.int 1))) (.seq (.asg (.one 2) (.op .mod (.op .mul (.op .add (.ix (.pk 0) (.int 1)) (.op .mul (.int 39373) (.ix (.pk 0) (.int 2)))) (.op .add (.int 48271) (.ix (.pk 0) (.int 2)))) (.int 2147483647))) (.seq (.setix 0 (.int 1) (.op .mod (.op .add (.op .mul (.var 2) (.op .add (.op .mod (.var 2) (.int 40009)) (.int 7))) (.ix (.pk 0) (.int 2))) (.int 2147483629))) (.seq (.ret (.op .mod (.op .fdiv (.op .mod (.op .mul (.ix (.pk 0) (.int 1)) (.op .add (.op .mod (.ix (.pk 0) (.int 1)) (.int 1009)) (.int 3))) (.int 998244353)) (.int 7)) (.var 1))) .nil)))))
def r_law_take : Row := ⟨"_law_take", top 17, ⟨[true, false], 4, b_law_take⟩, ["_law_box_here", "_law_many", "_law_once", "_law_found"]⟩
def b_law_folded : Pv.St := (.seq (.own 2 (.bn .list (.cons (.sl (.var 0) .no (.yes (.var 1))) .nil))) (.seq (.for_ (.tup [3, 4]) (.enum (.sl (.var 0) (.yes (.var 1)) (.yes (.int 63)))) (.seq (.setix 2 (.op .mod (.var 3) (.var 1)) (.op .add (.ix (.pk 2) (.op .mod (.var 3) (.var 1))) (.op .mul (.var 4) (.op .add (.var 3) (.int 2))))) .nil)) (.seq (.ret (.var 2)) .nil)))
def r_law_folded : Row := ⟨"_law_folded", top 18, ⟨[false, false], 5, b_law_folded⟩, ["_law_script", "_law_many", "_law_cells", "_law_k", "_law_cell"]⟩
def b_law_of : Pv.St := (.seq (.ifs (.cmp .eq (.ix (.var 0) (.int 0)) (.str "any")) (.seq (.ret (.bl true)) .nil) .nil) (.seq (.ifs (.cmp .eq (.ix (.var 0) (.int 0)) (.str "is")) (.seq (.ret (.cmp .eq (.op .mod (.op .fdiv (.var 1) (.ix (.lst (.cons (.int 1) (.cons (.int 2) (.cons (.int 4) (.cons (.int 8) .nil))))) (.ix (.var 0) (.int 1)))) (.int 2)) (.int 1))) .nil) .nil) (.seq (.ifs (.cmp .eq (.ix (.var 0) (.int 0)) (.str "not")) (.seq (.ret (.not (.call 13 (.cons (.ix (.var 0) (.int 1)) (.cons (.var 1) .nil))))) .nil) .nil) (.seq (.ifs (.cmp .eq (.ix (.var 0) (.int 0)) (.str "and")) (.seq (.ret (.and (.call 13 (.cons (.ix (.var 0) (.int 1)) (.cons (.var 1) .nil))) (.last (.call 13 (.cons (.ix (.var 0) (.int 2)) (.cons (.var 1) .nil)))))) .nil) .nil) (.seq (.ret (.or (.call 13 (.cons (.ix (.var 0) (.int 1)) (.cons (.var 1) .nil))) (.last (.call 13 (.cons (.ix (.var 0) (.int 2)) (.cons (.var 1) .nil)))))) .nil)))))
def r_law_of : Row := ⟨"_law_of", top 19, ⟨[false, false], 2, b_law_of⟩, ["_law_term_here", "_law_cell"]⟩
def b_law_counted : Pv.St := (.seq (.asg (.one 4) (.int 0)) (.seq (.for_ (.tup [5, 6]) (.enum (.var 0)) (.seq (.ifs (.and (.call 13 (.cons (.var 1) (.cons (.var 5) .nil))) (.last (.cmp .eq (.call 13 (.cons (.var 2) (.cons (.var 5) .nil))) (.var 3)))) (.seq (.asg (.one 4) (.op .add (.var 4) (.var 6))) .nil) .nil) .nil)) (.seq (.ret (.var 4)) .nil)))
def r_law_counted : Row := ⟨"_law_counted", top 20, ⟨[false, false, false, false], 7, b_law_counted⟩, ["_law_world_here", "_law_some", "_law_others", "_law_beside", "_law_found", "_law_cell", "_law_count"]⟩
def b_law_holds : Pv.St := (.seq (.par [3, 4, 5] (.cons (.ix (.var 0) (.int 0)) (.cons (.ix (.var 0) (.neg (.int 2))) (.cons (.ix (.var 0) (.neg (.int 1))) .nil)))) (.seq (.par [6, 7] (.cons (.call 14 (.cons (.var 1) (.cons (.var 4) (.cons (.var 5) (.cons (.bl true) .nil))))) (.cons (.call 14 (.cons (.var 1) (.cons (.var 4) (.cons (.var 5) (.cons (.bl false) .nil))))) .nil))) (.seq (.ifs (.cmp .isin (.var 3) (.tup (.cons (.str "all") (.cons (.str "notall") .nil)))) (.seq (.ret (.cmp .eq (.cmp .eq (.var 7) (.int 0)) (.cmp .eq (.var 3) (.str "all")))) .nil) .nil) (.seq (.ifs (.cmp .isin (.var 3) (.tup (.cons (.str "some") (.cons (.str "none") .nil)))) (.seq (.ret (.cmp .eq (.cmp .gt (.var 6) (.int 0)) (.cmp .eq (.var 3) (.str "some")))) .nil) .nil) (.seq (.ifs (.cmp .isin (.var 3) (.tup (.cons (.str "least") (.cons (.str "most") (.cons (.str "just") .nil))))) (.seq (.ret (.dix ["least", "most", "just"] (.cons (.cmp .ge (.var 6) (.ix (.var 0) (.int 1))) (.cons (.cmp .le (.var 6) (.ix (.var 0) (.int 1))) (.cons (.cmp .eq (.var 6) (.ix (.var 0) (.int 1))) .nil))) (.var 3))) .nil) .nil) (.seq (.ifs (.cmp .isin (.var 3) (.tup (.cons (.str "share") (.cons (.str "under") .nil)))) (.seq (.asg (.one 8) (.op .add (.var 6) (.var 7))) (.seq (.ret (.cmp .eq (.cmp .ge (.op .mul (.ix (.var 0) (.int 2)) (.var 6)) (.op .mul (.ix (.var 0) (.int 1)) (.var 8))) (.cmp .eq (.var 3) (.str "share")))) .nil)) .nil) (.seq (.asg (.one 2) (.call 14 (.cons (.var 1) (.cons (.var 5) (.cons (.var 4) (.cons (.bl false) .nil)))))) (.seq (.ret (.ite (.cmp .eq (.var 3) (.str "more")) (.cmp .gt (.var 7) (.var 2)) (.cmp .ge (.var 7) (.var 2)))) .nil))))))))
def r_law_holds : Row := ⟨"_law_holds", top 21, ⟨[false, false], 9, b_law_holds⟩, ["_law_saying_here", "_law_world_here", "_law_behind", "_law_word", "_law_some", "_law_others", "_law_both", "_law_alone", "_law_whole"]⟩
def b_law_term : Pv.St := (.seq (.asg (.one 3) (.call 11 (.cons (.pk 0) (.cons (.int 10) .nil)))) (.seq (.ifs (.cmp .eq (.var 3) (.int 9)) (.seq (.ret (.tup (.cons (.str "any") .nil))) .nil) .nil) (.seq (.ifs (.or (.cmp .lt (.var 2) (.int 2)) (.last (.cmp .lt (.var 3) (.int 5)))) (.seq (.ret (.tup (.cons (.str "is") (.cons (.call 11 (.cons (.pk 0) (.cons (.var 1) .nil))) .nil)))) .nil) .nil) (.seq (.ifs (.cmp .eq (.var 3) (.int 5)) (.seq (.ret (.tup (.cons (.str "not") (.cons (.call 16 (.cons (.pk 0) (.cons (.var 1) (.cons (.op .sub (.var 2) (.int 1)) .nil)))) .nil)))) .nil) .nil) (.seq (.asg (.one 4) (.ix (.lst (.cons (.str "and") (.cons (.str "or") .nil))) (.call 11 (.cons (.pk 0) (.cons (.int 2) .nil))))) (.seq (.ret (.tup (.cons (.var 4) (.cons (.call 16 (.cons (.pk 0) (.cons (.var 1) (.cons (.op .sub (.var 2) (.int 1)) .nil)))) (.cons (.call 16 (.cons (.pk 0) (.cons (.var 1) (.cons (.op .sub (.var 2) (.int 1)) .nil)))) .nil))))) .nil))))))
def r_law_term : Row := ⟨"_law_term", top 22, ⟨[true, false, false], 5, b_law_term⟩, ["_law_box_here", "_law_many", "_law_deep", "_law_way", "_law_word"]⟩
def b_law_number : Pv.St := (.seq (.asg (.one 2) (.lst (.cons (.call 11 (.cons (.pk 0) (.cons (.int 4) .nil))) (.cons (.call 11 (.cons (.pk 0) (.cons (.int 4) .nil))) (.cons (.bs .max (.cons (.int 0) (.cons (.op .sub (.var 1) (.call 11 (.cons (.pk 0) (.cons (.int 3) .nil)))) .nil))) (.cons (.call 11 (.cons (.pk 0) (.cons (.int 41) .nil))) .nil)))))) (.seq (.ret (.ix (.var 2) (.call 11 (.cons (.pk 0) (.cons (.int 4) .nil))))) .nil))
def r_law_number : Row := ⟨"_law_number", top 23, ⟨[true, false], 3, b_law_number⟩, ["_law_box_here", "_law_most", "_law_some"]⟩
def b_law_made : Pv.St := (.seq (.ifs (.cmp .isin (.var 1) (.tup (.cons (.str "least") (.cons (.str "most") (.cons (.str "just") .nil))))) (.seq (.ret (.tup (.cons (.var 1) (.cons (.call 17 (.cons (.pk 0) (.cons (.var 4) .nil))) (.cons (.var 2) (.cons (.var 3) .nil)))))) .nil) .nil) (.seq (.ifs (.cmp .isin (.var 1) (.tup (.cons (.str "share") (.cons (.str "under") .nil)))) (.seq (.asg (.one 5) (.ix (.lst (.cons (.int 2) (.cons (.int 3) (.cons (.op .add (.int 1) (.call 11 (.cons (.pk 0) (.cons (.ix (.lst (.cons (.int 4) (.cons (.int 12) .nil))) (.bs .int (.cons (.cmp .lt (.var 4) (.int 13)) .nil))) .nil)))) .nil)))) (.call 11 (.cons (.pk 0) (.cons (.int 3) .nil))))) (.seq (.ret (.tup (.cons (.var 1) (.cons (.call 11 (.cons (.pk 0) (.cons (.op .add (.var 5) (.int 1)) .nil))) (.cons (.var 5) (.cons (.var 2) (.cons (.var 3) .nil))))))) .nil)) .nil) (.seq (.ret (.tup (.cons (.var 1) (.cons (.var 2) (.cons (.var 3) .nil))))) .nil)))
def r_law_made : Row := ⟨"_law_made", top 24, ⟨[true, false, false, false, false], 6, b_law_made⟩, ["_law_box_here", "_law_word", "_law_some", "_law_others", "_law_most", "_law_bottom"]⟩
def b_law_saying : Pv.St := (.seq (.asg (.one 3) (.lst (.cons (.str "all") (.cons (.str "notall") (.cons (.str "some") (.cons (.str "none") (.cons (.str "least") (.cons (.str "most") (.cons (.str "just") (.cons (.str "more") (.cons (.str "asmany") (.cons (.str "share") (.cons (.str "under") .nil))))))))))))) (.seq (.asg (.one 4) (.ix (.var 3) (.call 11 (.cons (.pk 0) (.cons (.int 11) .nil))))) (.seq (.asg (.one 5) (.ix (.lst (.cons (.int 1) (.cons (.int 2) (.cons (.int 2) (.cons (.int 3) .nil))))) (.call 11 (.cons (.pk 0) (.cons (.int 4) .nil))))) (.seq (.ret (.call 18 (.cons (.pk 0) (.cons (.var 4) (.cons (.call 16 (.cons (.pk 0) (.cons (.var 1) (.cons (.var 5) .nil)))) (.cons (.call 16 (.cons (.pk 0) (.cons (.var 1) (.cons (.var 5) .nil)))) (.cons (.var 2) .nil))))))) .nil))))
def r_law_saying : Row := ⟨"_law_saying", top 25, ⟨[true, false, false], 6, b_law_saying⟩, ["_law_box_here", "_law_many", "_law_most", "_law_words", "_law_word", "_law_deep"]⟩
def b_law_world : Pv.St := (.seq (.asg (.one 3) (.var 2)) (.seq (.own 4 (.lst .nil)) (.seq (.for_ (.one 5) (.rng (.ix (.lst (.cons (.int 1) (.cons (.int 2) (.cons (.int 4) (.cons (.int 8) (.cons (.int 16) .nil)))))) (.var 1))) (.seq (.asg (.one 6) (.bs .min (.cons (.var 3) (.cons (.ix (.lst (.cons (.int 0) (.cons (.int 0) (.cons (.int 1) (.cons (.call 11 (.cons (.pk 0) (.cons (.int 4) .nil))) (.cons (.call 11 (.cons (.pk 0) (.cons (.op .add (.var 2) (.int 1)) .nil))) .nil)))))) (.call 11 (.cons (.pk 0) (.cons (.int 5) .nil)))) .nil)))) (.seq (.app 4 (.var 6)) (.seq (.asg (.one 3) (.op .sub (.var 3) (.var 6))) .nil)))) (.seq (.ret (.bn .tuple (.cons (.var 4) .nil))) .nil))))
def r_law_world : Row := ⟨"_law_world", top 26, ⟨[true, false, false], 7, b_law_world⟩, ["_law_box_here", "_law_many", "_law_most", "_law_left", "_law_found", "_law_cell", "_law_count"]⟩
def b_law_kept_one : Pv.St := (.seq (.asg (.one 4) (.call 19 (.cons (.pk 0) (.cons (.var 1) (.cons (.var 2) .nil))))) (.seq (.ifs (.call 15 (.cons (.var 4) (.cons (.var 3) .nil))) (.seq (.ret (.var 4)) .nil) .nil) (.seq (.par [7, 8, 9] (.cons (.ix (.var 4) (.int 0)) (.cons (.ix (.var 4) (.neg (.int 2))) (.cons (.ix (.var 4) (.neg (.int 1))) .nil)))) (.seq (.asg (.one 5) (.call 14 (.cons (.var 3) (.cons (.var 8) (.cons (.var 9) (.cons (.bl true) .nil)))))) (.seq (.ifs (.cmp .isin (.var 7) (.tup (.cons (.str "least") (.cons (.str "most") (.cons (.str "just") .nil))))) (.seq (.ret (.tup (.cons (.var 7) (.cons (.var 5) (.cons (.var 8) (.cons (.var 9) .nil)))))) .nil) .nil) (.seq (.ifs (.cmp .isin (.var 7) (.tup (.cons (.str "share") (.cons (.str "under") .nil)))) (.seq (.ret (.op .add (.tup (.cons (.ix (.lst (.cons (.str "share") (.cons (.str "under") .nil))) (.bs .int (.cons (.cmp .eq (.var 7) (.str "share")) .nil))) .nil)) (.sl (.var 4) (.yes (.int 1)) .no))) .nil) .nil) (.seq (.own 6 (.dct ["all", "notall", "some", "none"] (.cons (.str "notall") (.cons (.str "all") (.cons (.str "none") (.cons (.str "some") .nil)))))) (.seq (.ifs (.din false 6 (.var 7)) (.seq (.ret (.tup (.cons (.dget 6 (.var 7)) (.cons (.var 8) (.cons (.var 9) .nil))))) .nil) .nil) (.seq (.ret (.ite (.cmp .eq (.var 7) (.str "more")) (.tup (.cons (.str "asmany") (.cons (.var 9) (.cons (.var 8) .nil)))) (.tup (.cons (.str "more") (.cons (.var 9) (.cons (.var 8) .nil)))))) .nil)))))))))
def r_law_kept_one : Row := ⟨"_law_kept_one", top 27, ⟨[true, false, false, false], 10, b_law_kept_one⟩, ["_law_box_here", "_law_many", "_law_most", "_law_world_here", "_law_saying_here", "_law_both", "_law_turned_here", "_law_word", "_law_some", "_law_others"]⟩
def b_law_kept : Pv.St := (.seq (.reto (.comp (.one 5) (.rng (.var 4)) .no (.call 21 (.cons (.pk 0) (.cons (.var 1) (.cons (.var 2) (.cons (.var 3) .nil))))))) .nil)
def r_law_kept : Row := ⟨"_law_kept", top 28, ⟨[true, false, false, false, false], 6, b_law_kept⟩, ["_law_box_here", "_law_many", "_law_most", "_law_world_here", "_law_count", "_law_k"]⟩
def b_law_class : Pv.St := (.seq (.ret (.tup (.cons (.str "is") (.cons (.call 11 (.cons (.pk 0) (.cons (.var 1) .nil))) .nil)))) .nil)
def r_law_class : Row := ⟨"_law_class", top 29, ⟨[true, false], 2, b_law_class⟩, ["_law_box_here", "_law_many"]⟩
def b_law_chain : Pv.St := (.seq (.own 2 (.lrg (.var 1))) (.seq (.own 3 (.comp (.one 10) (.rng (.var 1)) .no (.popi 2 (.call 11 (.cons (.pk 0) (.cons (.bs .len (.cons (.pk 2) .nil)) .nil)))))) (.seq (.own 4 (.lst .nil)) (.seq (.for_ (.tup [6, 7]) (.zip (.var 3) (.sl (.var 3) (.yes (.int 1)) .no)) (.seq (.app 4 (.tup (.cons (.str "all") (.cons (.tup (.cons (.str "is") (.cons (.var 6) .nil))) (.cons (.tup (.cons (.str "is") (.cons (.var 7) .nil))) .nil))))) .nil)) (.seq (.asg (.one 5) (.ix (.lst (.cons (.str "all") (.cons (.str "all") (.cons (.str "some") (.cons (.str "asmany") .nil))))) (.call 11 (.cons (.pk 0) (.cons (.int 4) .nil))))) (.seq (.par [8, 9] (.cons (.tup (.cons (.str "is") (.cons (.ix (.var 3) (.int 0)) .nil))) (.cons (.tup (.cons (.str "is") (.cons (.ix (.var 3) (.neg (.int 1))) .nil))) .nil))) (.seq (.ifs (.cmp .eq (.var 5) (.str "some")) (.seq (.app 4 (.tup (.cons (.str "some") (.cons (.var 8) (.cons (.tup (.cons (.str "any") .nil)) .nil))))) .nil) .nil) (.seq (.ifs (.cmp .eq (.var 5) (.str "asmany")) (.seq (.ret (.tup (.cons (.var 4) (.cons (.tup (.cons (.str "asmany") (.cons (.var 9) (.cons (.var 8) .nil)))) .nil)))) .nil) .nil) (.seq (.ret (.tup (.cons (.var 4) (.cons (.tup (.cons (.var 5) (.cons (.var 8) (.cons (.var 9) .nil)))) .nil)))) .nil)))))))))
def r_law_chain : Row := ⟨"_law_chain", top 30, ⟨[true, false], 11, b_law_chain⟩, ["_law_box_here", "_law_many", "_law_left", "_law_order", "_law_found", "_law_word", "_law_one", "_law_other", "_law_first", "_law_last", "_law_k"]⟩
def b_law_counts : Pv.St := (.seq (.par [6, 7] (.cons (.call 23 (.cons (.pk 0) (.cons (.var 1) .nil))) (.cons (.call 23 (.cons (.pk 0) (.cons (.var 1) .nil))) .nil))) (.seq (.par [8, 9] (.cons (.call 11 (.cons (.pk 0) (.cons (.int 6) .nil))) (.cons (.call 11 (.cons (.pk 0) (.cons (.int 6) .nil))) .nil))) (.seq (.asg (.one 3) (.bs .max (.cons (.var 8) (.cons (.var 9) (.cons (.bs .min (.cons (.var 2) (.cons (.op .sub (.op .add (.var 8) (.var 9)) (.call 11 (.cons (.pk 0) (.cons (.int 4) .nil)))) .nil))) .nil))))) (.seq (.asg (.one 4) (.lst (.cons (.tup (.cons (.str "least") (.cons (.var 8) (.cons (.tup (.cons (.str "any") .nil)) (.cons (.var 6) .nil))))) (.cons (.tup (.cons (.str "least") (.cons (.var 9) (.cons (.tup (.cons (.str "any") .nil)) (.cons (.var 7) .nil))))) (.cons (.tup (.cons (.str "most") (.cons (.var 3) (.cons (.tup (.cons (.str "any") .nil)) (.cons (.tup (.cons (.str "any") .nil)) .nil))))) .nil))))) (.seq (.asg (.one 5) (.op .sub (.op .add (.var 8) (.var 9)) (.var 3))) (.seq (.ifs (.cmp .eq (.var 6) (.var 7)) (.seq (.asg (.one 5) (.bs .max (.cons (.var 8) (.cons (.var 9) .nil)))) .nil) .nil) (.seq (.ret (.tup (.cons (.var 4) (.cons (.tup (.cons (.str "least") (.cons (.bs .max (.cons (.int 0) (.cons (.op .add (.var 5) (.call 11 (.cons (.pk 0) (.cons (.int 2) .nil)))) .nil))) (.cons (.var 6) (.cons (.var 7) .nil))))) .nil)))) .nil)))))))
def r_law_counts : Row := ⟨"_law_counts", top 31, ⟨[true, false, false], 10, b_law_counts⟩, ["_law_box_here", "_law_many", "_law_most", "_law_whole", "_law_sayings_here", "_law_due", "_law_a", "_law_b", "_law_n", "_law_m"]⟩
def b_law_halves : Pv.St := (.seq (.asg (.one 3) (.call 16 (.cons (.pk 0) (.cons (.var 1) (.cons (.int 2) .nil))))) (.seq (.asg (.one 4) (.call 11 (.cons (.pk 0) (.cons (.op .add (.bs .min (.cons (.var 2) (.cons (.int 12) .nil))) (.int 1)) .nil)))) (.seq (.own 5 (.lst (.cons (.tup (.cons (.str "share") (.cons (.int 1) (.cons (.int 2) (.cons (.tup (.cons (.str "any") .nil)) (.cons (.var 3) .nil)))))) (.cons (.tup (.cons (.str "share") (.cons (.int 1) (.cons (.int 2) (.cons (.tup (.cons (.str "any") .nil)) (.cons (.tup (.cons (.str "not") (.cons (.var 3) .nil))) .nil)))))) .nil)))) (.seq (.app 5 (.tup (.cons (.str "just") (.cons (.var 4) (.cons (.tup (.cons (.str "any") .nil)) (.cons (.tup (.cons (.str "any") .nil)) .nil)))))) (.seq (.ret (.tup (.cons (.var 5) (.cons (.tup (.cons (.str "just") (.cons (.op .fdiv (.var 4) (.int 2)) (.cons (.tup (.cons (.str "any") .nil)) (.cons (.var 3) .nil))))) .nil)))) .nil)))))
def r_law_halves : Row := ⟨"_law_halves", top 32, ⟨[true, false, false], 6, b_law_halves⟩, ["_law_box_here", "_law_many", "_law_most", "_law_a", "_law_whole", "_law_sayings_here"]⟩
def b_law_shares : Pv.St := (.seq (.asg (.one 3) (.op .add (.int 2) (.call 11 (.cons (.pk 0) (.cons (.int 5) .nil))))) (.seq (.asg (.one 4) (.call 11 (.cons (.pk 0) (.cons (.op .add (.var 3) (.int 1)) .nil)))) (.seq (.par [6, 7, 8] (.cons (.tup (.cons (.str "any") .nil)) (.cons (.call 23 (.cons (.pk 0) (.cons (.var 1) .nil))) (.cons (.call 23 (.cons (.pk 0) (.cons (.var 1) .nil))) .nil)))) (.seq (.asg (.one 5) (.lst (.cons (.tup (.cons (.str "share") (.cons (.var 4) (.cons (.var 3) (.cons (.var 6) (.cons (.var 7) .nil)))))) (.cons (.tup (.cons (.str "share") (.cons (.op .sub (.var 3) (.var 4)) (.cons (.var 3) (.cons (.var 6) (.cons (.var 8) .nil)))))) (.cons (.tup (.cons (.str "none") (.cons (.var 7) (.cons (.var 8) .nil)))) .nil))))) (.seq (.ret (.tup (.cons (.var 5) (.cons (.tup (.cons (.str "share") (.cons (.op .sub (.var 3) (.var 4)) (.cons (.var 3) (.cons (.var 6) (.cons (.tup (.cons (.str "not") (.cons (.var 7) .nil))) .nil)))))) .nil)))) .nil)))))
def r_law_shares : Row := ⟨"_law_shares", top 33, ⟨[true, false, false], 9, b_law_shares⟩, ["_law_box_here", "_law_many", "_law_most", "_law_b", "_law_t", "_law_sayings_here", "_law_some", "_law_one", "_law_other"]⟩
def b_law_more : Pv.St := (.seq (.own 2 (.lrg (.var 1))) (.seq (.own 3 (.comp (.one 7) (.rng (.var 1)) .no (.popi 2 (.call 11 (.cons (.pk 0) (.cons (.bs .len (.cons (.pk 2) .nil)) .nil)))))) (.seq (.own 4 (.lst .nil)) (.seq (.for_ (.tup [5, 6]) (.zip (.var 3) (.sl (.var 3) (.yes (.int 1)) .no)) (.seq (.app 4 (.tup (.cons (.ix (.lst (.cons (.str "more") (.cons (.str "asmany") .nil))) (.call 11 (.cons (.pk 0) (.cons (.int 2) .nil)))) (.cons (.tup (.cons (.str "is") (.cons (.var 5) .nil))) (.cons (.tup (.cons (.str "is") (.cons (.var 6) .nil))) .nil))))) .nil)) (.seq (.ret (.tup (.cons (.var 4) (.cons (.tup (.cons (.ix (.lst (.cons (.str "more") (.cons (.str "asmany") .nil))) (.call 11 (.cons (.pk 0) (.cons (.int 2) .nil)))) (.cons (.tup (.cons (.str "is") (.cons (.ix (.var 3) (.int 0)) .nil))) (.cons (.tup (.cons (.str "is") (.cons (.ix (.var 3) (.neg (.int 1))) .nil))) .nil)))) .nil)))) .nil)))))
def r_law_more : Row := ⟨"_law_more", top 34, ⟨[true, false], 8, b_law_more⟩, ["_law_box_here", "_law_many", "_law_left", "_law_order", "_law_found", "_law_one", "_law_other", "_law_k"]⟩
def b_law_told_kind : Pv.St := (.seq (.asg (.one 3) (.call 11 (.cons (.pk 0) (.cons (.int 5) .nil)))) (.seq (.ifs (.cmp .eq (.var 3) (.int 0)) (.seq (.ret (.call 24 (.cons (.pk 0) (.cons (.var 1) .nil)))) .nil) .nil) (.seq (.ifs (.cmp .eq (.var 3) (.int 1)) (.seq (.ret (.call 25 (.cons (.pk 0) (.cons (.var 1) (.cons (.var 2) .nil))))) .nil) .nil) (.seq (.ifs (.cmp .eq (.var 3) (.int 2)) (.seq (.ret (.call 26 (.cons (.pk 0) (.cons (.var 1) (.cons (.var 2) .nil))))) .nil) .nil) (.seq (.ifs (.cmp .eq (.var 3) (.int 3)) (.seq (.ret (.call 27 (.cons (.pk 0) (.cons (.var 1) (.cons (.var 2) .nil))))) .nil) .nil) (.seq (.ret (.call 28 (.cons (.pk 0) (.cons (.var 1) .nil)))) .nil))))))
def r_law_told_kind : Row := ⟨"_law_told_kind", top 35, ⟨[true, false, false], 4, b_law_told_kind⟩, ["_law_box_here", "_law_many", "_law_most", "_law_way"]⟩
def b_law_turned : Pv.St := (.seq (.par [3, 4] (.cons (.ix (.var 0) (.int 0)) (.cons (.sl (.var 0) (.yes (.int 1)) .no) .nil))) (.seq (.own 1 (.dct ["all", "notall", "some", "none"] (.cons (.str "notall") (.cons (.str "all") (.cons (.str "none") (.cons (.str "some") .nil)))))) (.seq (.dset2 1 "share" "under" (.tup (.cons (.str "under") (.cons (.str "share") .nil)))) (.seq (.ifs (.din false 1 (.var 3)) (.seq (.reto (.lst (.cons (.op .add (.tup (.cons (.dget 1 (.var 3)) .nil)) (.var 4)) .nil))) .nil) .nil) (.seq (.ifs (.cmp .isin (.var 3) (.tup (.cons (.str "more") (.cons (.str "asmany") .nil)))) (.seq (.reto (.lst (.cons (.tup (.cons (.dix ["more", "asmany"] (.cons (.str "asmany") (.cons (.str "more") .nil)) (.var 3)) (.cons (.ix (.var 0) (.int 2)) (.cons (.ix (.var 0) (.int 1)) .nil)))) .nil))) .nil) .nil) (.seq (.own 2 (.lst .nil)) (.seq (.ifs (.and (.cmp .ne (.var 3) (.str "most")) (.last (.cmp .gt (.ix (.var 0) (.int 1)) (.int 0)))) (.seq (.app 2 (.op .add (.tup (.cons (.str "most") (.cons (.op .sub (.ix (.var 0) (.int 1)) (.int 1)) .nil))) (.sl (.var 0) (.yes (.int 2)) .no))) .nil) .nil) (.seq (.ifs (.cmp .ne (.var 3) (.str "least")) (.seq (.app 2 (.op .add (.tup (.cons (.str "least") (.cons (.op .add (.ix (.var 0) (.int 1)) (.int 1)) .nil))) (.sl (.var 0) (.yes (.int 2)) .no))) .nil) .nil) (.seq (.ret (.var 2)) .nil)))))))))
def r_law_turned : Row := ⟨"_law_turned", top 36, ⟨[false], 5, b_law_turned⟩, ["_law_saying_here", "_law_turned_here", "_law_found", "_law_word", "_law_rest"]⟩
def b_law_sayings : Pv.St := (.seq (.asg (.one 4) (.call 11 (.cons (.pk 0) (.cons (.int 4) .nil)))) (.seq (.own 5 (.lst .nil)) (.seq (.ifs (.cmp .lt (.var 4) (.int 2)) (.seq (.asg (.tup [5, 8]) (.call 29 (.cons (.pk 0) (.cons (.var 1) (.cons (.var 2) .nil))))) (.seq (.ifs (.cmp .eq (.var 4) (.int 1)) (.seq (.own 5 (.op .add (.var 5) (.sl (.call 30 (.cons (.var 8) .nil)) .no (.yes (.int 1))))) .nil) .nil) .nil)) .nil) (.seq (.ifs (.cmp .eq (.var 4) (.int 3)) (.seq (.own 5 (.comp (.one 9) (.rng (.op .add (.int 1) (.call 11 (.cons (.pk 0) (.cons (.int 3) .nil))))) .no (.call 19 (.cons (.pk 0) (.cons (.var 1) (.cons (.var 2) .nil)))))) .nil) .nil) (.seq (.asg (.one 6) (.call 20 (.cons (.pk 0) (.cons (.var 1) (.cons (.var 2) .nil))))) (.seq (.own 5 (.op .add (.var 5) (.call 22 (.cons (.pk 0) (.cons (.var 1) (.cons (.var 2) (.cons (.var 6) (.cons (.call 11 (.cons (.pk 0) (.cons (.bs .max (.cons (.int 1) (.cons (.op .add (.op .sub (.var 3) (.bs .len (.cons (.pk 5) .nil))) (.int 1)) .nil))) .nil))) .nil)))))))) (.seq (.own 5 (.sl (.var 5) .no (.yes (.var 3)))) (.seq (.own 7 (.lst .nil)) (.seq (.whl (.cmp .ne (.pk 5) (.lst .nil)) (.seq (.app 7 (.popi 5 (.call 11 (.cons (.pk 0) (.cons (.bs .len (.cons (.pk 5) .nil)) .nil))))) .nil)) (.seq (.ret (.var 7)) .nil))))))))))
def r_law_sayings : Row := ⟨"_law_sayings", top 37, ⟨[true, false, false, false], 10, b_law_sayings⟩, ["_law_box_here", "_law_many", "_law_most", "_law_count", "_law_way", "_law_found", "_law_world_here", "_law_order", "_law_last", "_law_k"]⟩
def b_law_worlds : Pv.St := (.seq (.asg (.one 2) (.lst (.cons (.tup .nil) .nil))) (.seq (.for_ (.one 3) (.rng (.ix (.lst (.cons (.int 1) (.cons (.int 2) (.cons (.int 4) (.cons (.int 8) (.cons (.int 16) .nil)))))) (.var 0))) (.seq (.own 4 (.lst .nil)) (.seq (.for_ (.one 5) (.seq (.var 2)) (.seq (.ext 4 (.comp (.one 6) (.rng (.op .add (.op .sub (.var 1) (.bs .sum (.cons (.var 5) .nil))) (.int 1))) .no (.op .add (.var 5) (.tup (.cons (.var 6) .nil))))) .nil)) (.seq (.asg (.one 2) (.var 4)) .nil)))) (.seq (.ret (.var 2)) .nil)))
def r_law_worlds : Row := ⟨"_law_worlds", top 38, ⟨[false, false], 7, b_law_worlds⟩, ["_law_many", "_law_most", "_law_found", "_law_cell", "_law_longer", "_law_world_here", "_law_count"]⟩
def b_law_best : Pv.St := (.seq (.own 2 (.lst .nil)) (.seq (.for_ (.tup [3, 4]) (.enum (.var 1)) (.seq (.asg (.one 5) (.bs .len (.cons (.comp (.one 6) (.seq (.var 0)) (.yes (.call 15 (.cons (.var 4) (.cons (.var 6) .nil)))) (.var 6)) .nil))) (.seq (.ifs (.chain .lt .lt (.int 0) (.var 5) (.bs .len (.cons (.var 0) .nil))) (.seq (.app 2 (.tup (.cons (.bs .max (.cons (.var 5) (.cons (.op .sub (.bs .len (.cons (.var 0) .nil)) (.var 5)) .nil))) (.cons (.var 3) (.cons (.var 5) (.cons (.op .sub (.bs .len (.cons (.var 0) .nil)) (.var 5)) .nil)))))) .nil) .nil) .nil))) (.seq (.ret (.ite (.cmp .ne (.pk 2) (.lst .nil)) (.sl (.bn .min (.cons (.var 2) .nil)) (.yes (.int 1)) .no) .non)) .nil)))
def r_law_best : Row := ⟨"_law_best", top 39, ⟨[false, false], 7, b_law_best⟩, ["_law_worlds_here", "_law_sayings_here", "_law_found", "_law_number_here", "_law_saying_here", "_law_yes", "_law_world_here"]⟩
def b_law_plan_right : Pv.St := (.seq (.asg (.one 2) (.bn .list (.cons (.var 0) .nil))) (.seq (.own 3 (.lst .nil)) (.seq (.asg (.one 4) (.call 33 (.cons (.var 2) (.cons (.var 1) .nil)))) (.seq (.whl (.cmp .isnot (.var 4) .non) (.seq (.app 3 (.var 4)) (.seq (.own 2 (.comp (.one 6) (.seq (.var 2)) (.yes (.cmp .eq (.call 15 (.cons (.ix (.var 1) (.ix (.var 4) (.int 0))) (.cons (.var 6) .nil))) (.cmp .ge (.ix (.var 4) (.int 1)) (.ix (.var 4) (.int 2))))) (.var 6))) (.seq (.asg (.one 4) (.call 33 (.cons (.var 2) (.cons (.var 1) .nil)))) .nil)))) (.seq (.ifs (.cmp .ne (.call 7 (.cons (.var 0) (.cons (.var 1) .nil))) (.pk 3)) (.seq (.ret (.bl false)) .nil) .nil) (.seq (.for_ (.one 5) (.seq (.var 1)) (.seq (.ifs (.cmp .gt (.lset (.comp (.one 6) (.seq (.var 2)) .no (.call 15 (.cons (.var 5) (.cons (.var 6) .nil))))) (.int 1)) (.seq (.ret (.bl false)) .nil) .nil) .nil)) (.seq (.ret (.bl true)) .nil)))))))
def r_law_plan_right : Row := ⟨"_law_plan_right", top 40, ⟨[false, false], 7, b_law_plan_right⟩, ["_law_worlds_here", "_law_sayings_here", "_law_left", "_law_due", "_law_best_here", "_law_saying_here", "_law_world_here"]⟩
def b_law_right : Pv.St := (.seq (.own 4 (.comp (.one 7) (.seq (.call 32 (.cons (.var 0) (.cons (.var 1) .nil)))) (.yes (.bs .all (.cons (.comp (.one 6) (.seq (.var 2)) .no (.call 15 (.cons (.var 6) (.cons (.var 7) .nil)))) .nil))) (.var 7))) (.seq (.asg (.one 5) (.call 9 (.cons (.var 0) (.cons (.var 1) (.cons (.var 2) .nil))))) (.seq (.ifs (.or (.cmp .ne (.var 5) (.var 4)) (.last (.cmp .ne (.call 6 (.cons (.var 5) (.cons (.var 3) .nil))) (.call 33 (.cons (.var 4) (.cons (.var 3) .nil)))))) (.seq (.ret (.bl false)) .nil) .nil) (.seq (.for_ (.one 6) (.seq (.sl (.var 3) .no (.yes (.int 3)))) (.seq (.asg (.tup [8, 9]) (.call 5 (.cons (.var 5) (.cons (.var 6) .nil)))) (.seq (.ifs (.cmp .ne (.bs .len (.cons (.call 9 (.cons (.var 0) (.cons (.var 1) (.cons (.op .add (.var 2) (.lst (.cons (.var 6) .nil))) .nil)))) .nil)) (.var 8)) (.seq (.ret (.bl false)) .nil) .nil) (.seq (.ifs (.cmp .ne (.bs .sum (.cons (.comp (.one 10) (.seq (.call 4 (.cons (.var 6) .nil))) .no (.bs .len (.cons (.call 9 (.cons (.var 0) (.cons (.var 1) (.cons (.op .add (.var 2) (.lst (.cons (.var 10) .nil))) .nil)))) .nil))) .nil)) (.var 9)) (.seq (.ret (.bl false)) .nil) .nil) .nil)))) (.seq (.ret (.call 34 (.cons (.sl (.var 4) .no (.yes (.int 40))) (.cons (.var 3) .nil)))) .nil)))))
def r_law_right : Row := ⟨"_law_right", top 41, ⟨[false, false, false, false], 11, b_law_right⟩, ["_law_many", "_law_most", "_law_known", "_law_sayings_here", "_law_worlds_here", "_law_told", "_law_saying_here", "_law_world_here", "_law_yes", "_law_no", "_law_other"]⟩
def b_law : Pv.St := (.seq (.asg (.one 1) (.call 12 (.cons (.var 0) (.cons (.int 3) .nil)))) (.seq (.for_ (.one 2) (.rng (.op .add (.bs .min (.cons (.int 3) (.cons (.bs .len (.cons (.var 0) .nil)) .nil))) (.int 1))) (.seq (.own 3 (.call 10 (.cons (.var 1) (.cons (.var 2) .nil)))) (.seq (.asg (.one 4) (.ix (.lst (.cons (.int 1) (.cons (.int 2) (.cons (.int 2) (.cons (.int 3) .nil))))) (.call 11 (.cons (.pk 3) (.cons (.int 4) .nil))))) (.seq (.asg (.one 5) (.call 11 (.cons (.pk 3) (.cons (.ix (.lst (.cons (.int 9) (.cons (.int 9) (.cons (.int 5) (.cons (.int 3) .nil))))) (.var 4)) .nil)))) (.seq (.asg (.one 6) (.call 31 (.cons (.pk 3) (.cons (.var 4) (.cons (.var 5) (.cons (.int 3) .nil)))))) (.seq (.own 7 (.comp (.one 8) (.rng (.op .add (.int 2) (.call 11 (.cons (.pk 3) (.cons (.int 7) .nil))))) .no (.call 19 (.cons (.pk 3) (.cons (.var 4) (.cons (.var 5) .nil)))))) (.seq (.ifs (.cmp .eq (.call 11 (.cons (.pk 3) (.cons (.int 2) .nil))) (.int 0)) (.seq (.app 7 (.ix (.pk 7) (.int 0))) .nil) .nil) (.seq (.ifs (.not (.call 35 (.cons (.var 4) (.cons (.var 5) (.cons (.var 6) (.cons (.var 7) .nil)))))) (.seq (.ret (.bl false)) .nil) .nil) .nil)))))))) (.seq (.ret (.bl true)) .nil)))
def r_law : Row := ⟨"law", top 42, ⟨[false], 9, b_law⟩, ["_law_script", "_law_cells", "_law_k", "_law_box_here", "_law_many", "_law_most", "_law_known", "_law_sayings_here", "_law_turn"]⟩
def rows : List Row := [r_cell_count, r_is_of, r_things_counted, r_holds, r_opposites, r_split_by, r_best_ask, r_ask_plan, r_all_counts, r_all_worlds, r_law_box, r_law_take, r_law_folded, r_law_of, r_law_counted, r_law_holds, r_law_term, r_law_number, r_law_made, r_law_saying, r_law_world, r_law_kept_one, r_law_kept, r_law_class, r_law_chain, r_law_counts, r_law_halves, r_law_shares, r_law_more, r_law_told_kind, r_law_turned, r_law_sayings, r_law_worlds, r_law_best, r_law_plan_right, r_law_right, r_law]

end K94

set_option Elab.async false
set_option linter.all false
set_option maxRecDepth 100000
set_option maxHeartbeats 0
namespace K94
open PySem L2 Pv
def fns0 : List (Str × Nat) := fnsOf rows
theorem c_cell_count : rowC gds (fnsOf rows) r_cell_count = true := by decide +kernel
theorem c_is_of : rowC gds (fnsOf rows) r_is_of = true := by decide +kernel
theorem c_things_counted : rowC gds (fnsOf rows) r_things_counted = true := by decide +kernel
theorem c_holds : rowC gds (fnsOf rows) r_holds = true := by decide +kernel
theorem c_opposites : rowC gds (fnsOf rows) r_opposites = true := by decide +kernel
theorem c_split_by : rowC gds (fnsOf rows) r_split_by = true := by decide +kernel
theorem c_best_ask : rowC gds (fnsOf rows) r_best_ask = true := by decide +kernel
theorem c_ask_plan : rowC gds (fnsOf rows) r_ask_plan = true := by decide +kernel
theorem c_all_counts : rowC gds (fnsOf rows) r_all_counts = true := by decide +kernel
theorem c_all_worlds : rowC gds (fnsOf rows) r_all_worlds = true := by decide +kernel
theorem c_law_box : rowC gds (fnsOf rows) r_law_box = true := by decide +kernel
theorem c_law_take : rowC gds (fnsOf rows) r_law_take = true := by decide +kernel
theorem c_law_folded : rowC gds (fnsOf rows) r_law_folded = true := by decide +kernel
theorem c_law_of : rowC gds (fnsOf rows) r_law_of = true := by decide +kernel
theorem c_law_counted : rowC gds (fnsOf rows) r_law_counted = true := by decide +kernel
theorem c_law_holds : rowC gds (fnsOf rows) r_law_holds = true := by decide +kernel
theorem c_law_term : rowC gds (fnsOf rows) r_law_term = true := by decide +kernel
theorem c_law_number : rowC gds (fnsOf rows) r_law_number = true := by decide +kernel
theorem c_law_made : rowC gds (fnsOf rows) r_law_made = true := by decide +kernel
theorem c_law_saying : rowC gds (fnsOf rows) r_law_saying = true := by decide +kernel
theorem c_law_world : rowC gds (fnsOf rows) r_law_world = true := by decide +kernel
theorem c_law_kept_one : rowC gds (fnsOf rows) r_law_kept_one = true := by decide +kernel
theorem c_law_kept : rowC gds (fnsOf rows) r_law_kept = true := by decide +kernel
theorem c_law_class : rowC gds (fnsOf rows) r_law_class = true := by decide +kernel
theorem c_law_chain : rowC gds (fnsOf rows) r_law_chain = true := by decide +kernel
theorem c_law_counts : rowC gds (fnsOf rows) r_law_counts = true := by decide +kernel
theorem c_law_halves : rowC gds (fnsOf rows) r_law_halves = true := by decide +kernel
theorem c_law_shares : rowC gds (fnsOf rows) r_law_shares = true := by decide +kernel
theorem c_law_more : rowC gds (fnsOf rows) r_law_more = true := by decide +kernel
theorem c_law_told_kind : rowC gds (fnsOf rows) r_law_told_kind = true := by decide +kernel
theorem c_law_turned : rowC gds (fnsOf rows) r_law_turned = true := by decide +kernel
theorem c_law_sayings : rowC gds (fnsOf rows) r_law_sayings = true := by decide +kernel
theorem c_law_worlds : rowC gds (fnsOf rows) r_law_worlds = true := by decide +kernel
theorem c_law_best : rowC gds (fnsOf rows) r_law_best = true := by decide +kernel
theorem c_law_plan_right : rowC gds (fnsOf rows) r_law_plan_right = true := by decide +kernel
theorem c_law_right : rowC gds (fnsOf rows) r_law_right = true := by decide +kernel
theorem c_law : rowC gds (fnsOf rows) r_law = true := by decide +kernel
end K94

set_option Elab.async false
set_option linter.all false
set_option maxRecDepth 100000
set_option maxHeartbeats 0
namespace K94
open PySem PySem.W PySem.Calls PyProof.Rows
abbrev R : OpenRow := OpenLaw.row PySem.Challenge.rw_somesay_k94_whole_asked_next
def lawAt : Nat := 42
def names : List PySem.Str := (["cell_count", "is_of", "things_counted", "holds", "opposites", "split_by", "best_ask", "ask_plan", "all_counts", "all_worlds", "_law_box", "_law_take"] : List PySem.Str) ++ (["_law_folded", "_law_of", "_law_counted", "_law_holds", "_law_term", "_law_number", "_law_made", "_law_saying", "_law_world", "_law_kept_one", "_law_kept", "_law_class"] : List PySem.Str) ++ (["_law_chain", "_law_counts", "_law_halves", "_law_shares", "_law_more", "_law_told_kind", "_law_turned", "_law_sayings", "_law_worlds", "_law_best", "_law_plan_right", "_law_right"] : List PySem.Str) ++ (["TURNED"] : List PySem.Str)
abbrev Pr (w : World) : Prop := HandSHeadRun.RunEq R (view R.prog [42]) (Pv.hookP 4 rows gds) (Pv.obP 4 rows gds) 3000 names w
theorem runF (w : World) : Pr (w.withFollow "special-get-raises" false) := by
  intro os
  kernel_rfl
theorem runT (w : World) : Pr (w.withFollow "special-get-raises" true) := by
  intro os
  kernel_rfl
theorem run (w : World) : Pr w := byRow2 "special-get-raises" runF runT w
end K94

set_option Elab.async false
set_option linter.all false
set_option maxRecDepth 100000
set_option maxHeartbeats 0
namespace K94
open PySem PySem.W PySem.Calls PyProof.Rows L2 Pv
theorem ro_cell_count : RowOk gds (fnsOf rows) r_cell_count := ⟨c_cell_count, fun _ _ _ _ _ _ us hl => match us, hl with | [_], _ => rfl⟩
theorem ro_is_of : RowOk gds (fnsOf rows) r_is_of := ⟨c_is_of, fun _ _ _ _ _ _ us hl => match us, hl with | [_, _], _ => rfl⟩
theorem ro_things_counted : RowOk gds (fnsOf rows) r_things_counted := ⟨c_things_counted, fun _ _ _ _ _ _ us hl => match us, hl with | [_, _, _], _ => rfl⟩
theorem ro_holds : RowOk gds (fnsOf rows) r_holds := ⟨c_holds, fun _ _ _ _ _ _ us hl => match us, hl with | [_, _], _ => rfl⟩
theorem ro_opposites : RowOk gds (fnsOf rows) r_opposites := ⟨c_opposites, fun _ _ _ _ _ _ us hl => match us, hl with | [_], _ => rfl⟩
theorem ro_split_by : RowOk gds (fnsOf rows) r_split_by := ⟨c_split_by, fun _ _ _ _ _ _ us hl => match us, hl with | [_, _], _ => rfl⟩
theorem ro_best_ask : RowOk gds (fnsOf rows) r_best_ask := ⟨c_best_ask, fun _ _ _ _ _ _ us hl => match us, hl with | [_, _], _ => rfl⟩
theorem ro_ask_plan : RowOk gds (fnsOf rows) r_ask_plan := ⟨c_ask_plan, fun _ _ _ _ _ _ us hl => match us, hl with | [_, _], _ => rfl⟩
theorem ro_all_counts : RowOk gds (fnsOf rows) r_all_counts := ⟨c_all_counts, fun _ _ _ _ _ _ us hl => match us, hl with | [_, _], _ => rfl⟩
theorem ro_all_worlds : RowOk gds (fnsOf rows) r_all_worlds := ⟨c_all_worlds, fun _ _ _ _ _ _ us hl => match us, hl with | [_, _, _], _ => rfl⟩
theorem ro_law_box : RowOk gds (fnsOf rows) r_law_box := ⟨c_law_box, fun _ _ _ _ _ _ us hl => match us, hl with | [_, _], _ => rfl⟩
theorem ro_law_take : RowOk gds (fnsOf rows) r_law_take := ⟨c_law_take, fun _ _ _ _ _ _ us hl => match us, hl with | [_, _], _ => rfl⟩
theorem ro_law_folded : RowOk gds (fnsOf rows) r_law_folded := ⟨c_law_folded, fun _ _ _ _ _ _ us hl => match us, hl with | [_, _], _ => rfl⟩
theorem ro_law_of : RowOk gds (fnsOf rows) r_law_of := ⟨c_law_of, fun _ _ _ _ _ _ us hl => match us, hl with | [_, _], _ => rfl⟩
theorem ro_law_counted : RowOk gds (fnsOf rows) r_law_counted := ⟨c_law_counted, fun _ _ _ _ _ _ us hl => match us, hl with | [_, _, _, _], _ => rfl⟩
theorem ro_law_holds : RowOk gds (fnsOf rows) r_law_holds := ⟨c_law_holds, fun _ _ _ _ _ _ us hl => match us, hl with | [_, _], _ => rfl⟩
theorem ro_law_term : RowOk gds (fnsOf rows) r_law_term := ⟨c_law_term, fun _ _ _ _ _ _ us hl => match us, hl with | [_, _, _], _ => rfl⟩
theorem ro_law_number : RowOk gds (fnsOf rows) r_law_number := ⟨c_law_number, fun _ _ _ _ _ _ us hl => match us, hl with | [_, _], _ => rfl⟩
theorem ro_law_made : RowOk gds (fnsOf rows) r_law_made := ⟨c_law_made, fun _ _ _ _ _ _ us hl => match us, hl with | [_, _, _, _, _], _ => rfl⟩
theorem ro_law_saying : RowOk gds (fnsOf rows) r_law_saying := ⟨c_law_saying, fun _ _ _ _ _ _ us hl => match us, hl with | [_, _, _], _ => rfl⟩
theorem ro_law_world : RowOk gds (fnsOf rows) r_law_world := ⟨c_law_world, fun _ _ _ _ _ _ us hl => match us, hl with | [_, _, _], _ => rfl⟩
theorem ro_law_kept_one : RowOk gds (fnsOf rows) r_law_kept_one := ⟨c_law_kept_one, fun _ _ _ _ _ _ us hl => match us, hl with | [_, _, _, _], _ => rfl⟩
theorem ro_law_kept : RowOk gds (fnsOf rows) r_law_kept := ⟨c_law_kept, fun _ _ _ _ _ _ us hl => match us, hl with | [_, _, _, _, _], _ => rfl⟩
theorem ro_law_class : RowOk gds (fnsOf rows) r_law_class := ⟨c_law_class, fun _ _ _ _ _ _ us hl => match us, hl with | [_, _], _ => rfl⟩
theorem ro_law_chain : RowOk gds (fnsOf rows) r_law_chain := ⟨c_law_chain, fun _ _ _ _ _ _ us hl => match us, hl with | [_, _], _ => rfl⟩
theorem ro_law_counts : RowOk gds (fnsOf rows) r_law_counts := ⟨c_law_counts, fun _ _ _ _ _ _ us hl => match us, hl with | [_, _, _], _ => rfl⟩
theorem ro_law_halves : RowOk gds (fnsOf rows) r_law_halves := ⟨c_law_halves, fun _ _ _ _ _ _ us hl => match us, hl with | [_, _, _], _ => rfl⟩
theorem ro_law_shares : RowOk gds (fnsOf rows) r_law_shares := ⟨c_law_shares, fun _ _ _ _ _ _ us hl => match us, hl with | [_, _, _], _ => rfl⟩
theorem ro_law_more : RowOk gds (fnsOf rows) r_law_more := ⟨c_law_more, fun _ _ _ _ _ _ us hl => match us, hl with | [_, _], _ => rfl⟩
theorem ro_law_told_kind : RowOk gds (fnsOf rows) r_law_told_kind := ⟨c_law_told_kind, fun _ _ _ _ _ _ us hl => match us, hl with | [_, _, _], _ => rfl⟩
theorem ro_law_turned : RowOk gds (fnsOf rows) r_law_turned := ⟨c_law_turned, fun _ _ _ _ _ _ us hl => match us, hl with | [_], _ => rfl⟩
theorem ro_law_sayings : RowOk gds (fnsOf rows) r_law_sayings := ⟨c_law_sayings, fun _ _ _ _ _ _ us hl => match us, hl with | [_, _, _, _], _ => rfl⟩
theorem ro_law_worlds : RowOk gds (fnsOf rows) r_law_worlds := ⟨c_law_worlds, fun _ _ _ _ _ _ us hl => match us, hl with | [_, _], _ => rfl⟩
theorem ro_law_best : RowOk gds (fnsOf rows) r_law_best := ⟨c_law_best, fun _ _ _ _ _ _ us hl => match us, hl with | [_, _], _ => rfl⟩
theorem ro_law_plan_right : RowOk gds (fnsOf rows) r_law_plan_right := ⟨c_law_plan_right, fun _ _ _ _ _ _ us hl => match us, hl with | [_, _], _ => rfl⟩
theorem ro_law_right : RowOk gds (fnsOf rows) r_law_right := ⟨c_law_right, fun _ _ _ _ _ _ us hl => match us, hl with | [_, _, _, _], _ => rfl⟩
theorem ro_law : RowOk gds (fnsOf rows) r_law := ⟨c_law, fun _ _ _ _ _ _ us hl => match us, hl with | [_], _ => rfl⟩
theorem rows_ok : ∀ r ∈ rows, RowOk gds (fnsOf rows) r := by
  intro r hr
  simp only [rows, List.mem_cons, List.not_mem_nil, or_false] at hr
  rcases hr with rfl | rfl | rfl | rfl | rfl | rfl | rfl | rfl | rfl | rfl | rfl | rfl | rfl | rfl | rfl | rfl | rfl | rfl | rfl | rfl | rfl | rfl | rfl | rfl | rfl | rfl | rfl | rfl | rfl | rfl | rfl | rfl | rfl | rfl | rfl | rfl | rfl
  · exact ro_cell_count
  · exact ro_is_of
  · exact ro_things_counted
  · exact ro_holds
  · exact ro_opposites
  · exact ro_split_by
  · exact ro_best_ask
  · exact ro_ask_plan
  · exact ro_all_counts
  · exact ro_all_worlds
  · exact ro_law_box
  · exact ro_law_take
  · exact ro_law_folded
  · exact ro_law_of
  · exact ro_law_counted
  · exact ro_law_holds
  · exact ro_law_term
  · exact ro_law_number
  · exact ro_law_made
  · exact ro_law_saying
  · exact ro_law_world
  · exact ro_law_kept_one
  · exact ro_law_kept
  · exact ro_law_class
  · exact ro_law_chain
  · exact ro_law_counts
  · exact ro_law_halves
  · exact ro_law_shares
  · exact ro_law_more
  · exact ro_law_told_kind
  · exact ro_law_turned
  · exact ro_law_sayings
  · exact ro_law_worlds
  · exact ro_law_best
  · exact ro_law_plan_right
  · exact ro_law_right
  · exact ro_law
abbrev lawN : Nat := 36
theorem row_law : rows[lawN]? = some r_law := rfl
theorem holds_of {fu : Nat} (hl : ∀ ns : List Int, ns.length ≤ 63 → ∃ r, Pv.evF (Pv.tblOf rows) fu 40 lawN [.sh (.list (ns.map .int))] = some (.sh (.bool true), r) ∧ ∃ ρb, Pv.backE [false] r = some ρb) : PySem.Challenge.rw_somesay_k94_whole_asked_next.Holds := by
  w_on; o_law
  refine HandSHeadRun.head_any (r := R) (q := view R.prog [42]) (H := Pv.hookP 4 rows gds) (ob := Pv.obP 4 rows gds) (M := 3000) (loose := names) (d := HandSHeadRun.topDef R.prog lawAt) (kwd := []) Pv.obP_eq
    (by kernel_rfl) (fun s => by kernel_rfl) run (by kernel_rfl) (by kernel_rfl) (by kernel_rfl) (by rfl) (by first | assumption | decide +kernel) (by decide +kernel) ⟨rfl, rfl, rfl, rfl, rfl, by decide +kernel⟩ ?hw ?hc
  case hw => w_witness2
  case hc =>
    refine L2.walk_ofE (l := PySem.Challenge.rw_somesay_k94_whole_asked_next) (n := 63) (k := 40) (x := "_law_script") (CX := C8.CX0) rfl (by decide) (by kernel_rfl) ⟨rfl, by decide, by decide⟩ ?F (fun _ _ _ _ z => z)
    intro w mg fa h Y G hmg0
    obtain ⟨K, KX, c, b⟩ := Y
    have hF := Pv.facts_of KX G c b
    have hmg : mg ("law" : PySem.Str) = some (.ref fa) := by
      have e : (HandSHeadRun.topDef R.prog lawAt).name = ("law" : PySem.Str) := by kernel_rfl
      rw [← e]
      exact hmg0
    obtain ⟨f, fd, F, hm⟩ := hF.defs lawN r_law row_law
    have e : mg ("law" : PySem.Str) = some (.ref f) := hm
    cases hmg.symm.trans e
    exact ⟨K, fd, _, KX, fun s u => F.bindsA (ps := ["_law_script"]) ro_law.b s [u] rfl, fun H a ns h1 h2 h3 => Pv.law_sp hl H a ns h1 h2 h3 _, fun base _ _ => Pv.tbl_ok (fu := fu) rows_ok hF 40 lawN r_law _ fd row_law F⟩
end K94

set_option Elab.async false
set_option linter.all false
set_option maxRecDepth 100000
set_option maxHeartbeats 4000000
/-! what an evaluation gives, told ahead -/
namespace Pv.Wp
open PySem L2 Pv

/-- it keeps what follows from being looked into -/
inductive Tag {α : Type} (Q : α → Prop) : Type
  | mk
inductive Tag2 (P Q : Prop) : Type
  | mk
def Wo {α : Type} (o : Option α) (Q : α → Prop) (_T : Tag Q := .mk) : Prop := ∃ a, o = some a ∧ Q a
/-- both ways -/
def Br (k : Bool) (P Q : Prop) (_T : Tag2 P Q := .mk) : Prop := (k = true → P) ∧ (k = false → Q)
@[simp ↓] theorem Br_true {P Q : Prop} : Br true P Q ↔ P := ⟨fun h => h.1 rfl, fun h => ⟨fun _ => h, fun e => Bool.noConfusion e⟩⟩
@[simp ↓] theorem Br_false {P Q : Prop} : Br false P Q ↔ Q := ⟨fun h => h.2 rfl, fun h => ⟨fun e => Bool.noConfusion e, fun _ => h⟩⟩
theorem Br_dec {p : Prop} [Decidable p] {P Q : Prop} (h1 : p → P) (h2 : ¬p → Q) : Br (decide p) P Q := ⟨fun h => h1 (of_decide_eq_true h), fun h => h2 (of_decide_eq_false h)⟩
section
variable {α β : Type} {Q : α → Prop}
@[simp ↓] theorem Wo_some {a : α} : Wo (some a) Q ↔ Q a := ⟨fun ⟨_, e, h⟩ => by cases e; exact h, fun h => ⟨_, rfl, h⟩⟩
@[simp ↓] theorem Wo_none : Wo none Q ↔ False := ⟨fun ⟨_, e, _⟩ => (by cases e), fun h => h.elim⟩
@[simp ↓] theorem Wo_ite {c : Prop} [Decidable c] {o : Option α} : Wo (if c then o else none) Q ↔ c ∧ Wo o Q := by
  by_cases h : c
  · rw [if_pos h]; exact ⟨fun x => ⟨h, x⟩, fun x => x.2⟩
  · rw [if_neg h]; exact ⟨fun x => (Wo_none.mp x).elim, fun x => (h x.1).elim⟩
theorem Wo_mono {Q' : α → Prop} {o : Option α} (h : Wo o Q) (g : ∀ a, Q a → Q' a) : Wo o Q' := by
  obtain ⟨a, e, q⟩ := h
  exact ⟨a, e, g a q⟩
theorem Wo_eq {o : Option α} {a : α} (e : o = some a) (q : Q a) : Wo o Q := ⟨a, e, q⟩
@[simp ↓] theorem Wo_map {o : Option β} {f : β → α} : Wo (o.map f) Q ↔ Wo o fun b => Q (f b) := by
  cases o with
  | none => exact ⟨fun h => (Wo_none.mp h).elim, fun h => (Wo_none.mp h).elim⟩
  | some b => exact (Wo_some (Q := Q) (a := f b)).trans (Wo_some (Q := fun b => Q (f b))).symm
@[simp ↓] theorem Wo_bind {o : Option β} {f : β → Option α} : Wo (o.bind f) Q ↔ Wo o fun b => Wo (f b) Q := by
  cases o with
  | none => exact ⟨fun h => (Wo_none.mp h).elim, fun h => (Wo_none.mp h).elim⟩
  | some b => exact (Wo_some (Q := fun b => Wo (f b) Q) (a := b)).symm
@[simp ↓] theorem Wo_bnd {m : Res β} {f : β → Env → Option α} : Wo (bnd m f) Q ↔ Wo m fun p => Wo (f p.1 p.2) Q := by
  cases m with
  | none => exact ⟨fun h => (Wo_none.mp h).elim, fun h => (Wo_none.mp h).elim⟩
  | some b => exact (Wo_some (Q := fun p => Wo (f p.1 p.2) Q) (a := b)).symm
@[simp ↓] theorem Wo_giv {o : Option α} {ρ : Env} {Q : α × Env → Prop} : Wo (giv o ρ) Q ↔ Wo o fun a => Q (a, ρ) := by
  cases o with
  | none => exact ⟨fun h => (Wo_none.mp h).elim, fun h => (Wo_none.mp h).elim⟩
  | some b => exact (Wo_some (Q := Q) (a := (b, ρ))).trans (Wo_some (Q := fun a => Q (a, ρ))).symm
end
def hasV (ρ : Env) (i : Nat) : Bool := match ρ[i]? with
  | some (.val _ _) => true
  | _ => false
/-- a truth value in hand -/
def AB (v : AV) (P : Bool → Prop) : Prop := match v with
  | .dat (.bool k) => P k
  | _ => False
@[simp] theorem AB_bool {k : Bool} {P : Bool → Prop} : AB (.dat (.bool k)) P ↔ P k := Iff.rfl
def AI (v : AV) (P : Int → Prop) : Prop := match v with
  | .dat (.int k) => P k
  | _ => False
@[simp] theorem AI_int {k : Int} {P : Int → Prop} : AI (.dat (.int k)) P ↔ P k := Iff.rfl
def AL (v : AV) (P : List D → Prop) : Prop := match v with
  | .dat (.list k) => P k
  | _ => False
@[simp] theorem AL_list {k : List D} {P : List D → Prop} : AL (.dat (.list k)) P ↔ P k := Iff.rfl
@[simp] theorem st_dat {d : D} : AV.st (.dat d) = some d := rfl
@[simp] theorem wk_dat {d : D} {ρ : Env} : AV.wk ρ (.dat d) = some d := rfl
@[simp] theorem wk_pk {i : Nat} {ρ : Env} : AV.wk ρ (.pk i) = fzs ρ i := rfl
section
variable {cl : Cl} {ρ : Env} {Q : AV × Env → Prop} {a b c e : Ex} {es : Exs} {lo hi : Eo}
theorem bool_cases {v : AV} {P : Bool → Prop} : (match v with | .dat (.bool true) => P true | .dat (.bool false) => P false | _ => False) ↔ AB v P := by
  cases v with
  | pk i => exact Iff.rfl
  | dat d => cases d with
    | bool k => cases k <;> exact Iff.rfl
    | _ => exact Iff.rfl
theorem w_var {i : Nat} : Wo (evE cl (.var i) ρ) Q ↔ Wo (rdVar i ρ) fun p => Q (.dat p.1, p.2) := by rw [evE, Wo_bnd]; exact ⟨fun h => Wo_mono h fun _ q => Wo_some.mp q, fun h => Wo_mono h fun _ q => Wo_some.mpr q⟩
theorem w_pk {i : Nat} : Wo (evE cl (.pk i) ρ) Q ↔ hasV ρ i = true ∧ Q (.pk i, ρ) := by
  rw [evE]; unfold hasV
  cases h : ρ[i]? with
  | none => exact Wo_none.trans ⟨fun h => h.elim, fun h => by cases h.1⟩
  | some s => cases s with
    | non => exact Wo_none.trans ⟨fun h => h.elim, fun h => by cases h.1⟩
    | val b t => exact Wo_some.trans ⟨fun h => ⟨rfl, h⟩, fun h => h.2⟩
theorem w_non : Wo (evE cl .non ρ) Q ↔ Q (.dat .none, ρ) := by rw [evE, Wo_some]
theorem w_bl {k : Bool} : Wo (evE cl (.bl k) ρ) Q ↔ Q (.dat (.bool k), ρ) := by rw [evE, Wo_some]
theorem w_int {k : Int} : Wo (evE cl (.int k) ρ) Q ↔ Q (.dat (.int k), ρ) := by rw [evE, Wo_some]
theorem w_str {k : Str} : Wo (evE cl (.str k) ρ) Q ↔ Q (.dat (.str k), ρ) := by rw [evE, Wo_some]
theorem wiff {α : Type} {o : Option α} {Q Q' : α → Prop} (h : ∀ a, Q a ↔ Q' a) : Wo o Q ↔ Wo o Q' := ⟨fun x => Wo_mono x fun a q => (h a).mp q, fun x => Wo_mono x fun a q => (h a).mpr q⟩
theorem w_op {o : O2} : Wo (evE cl (.op o a b) ρ) Q ↔ Wo (evE cl a ρ) fun x => Wo (evE cl b x.2) fun y => Wo x.1.st fun d => Wo y.1.st fun e => Wo (o.f d e) fun r => Q (.dat r, y.2) := by
  rw [evE, Wo_bnd]
  refine wiff fun x => ?_
  rw [Wo_bnd]
  refine wiff fun y => ?_
  rw [Wo_giv, Wo_map, Wo_bind]
  refine wiff fun d => ?_
  rw [Wo_bind]
theorem w_cmp {o : C2} : Wo (evE cl (.cmp o a b) ρ) Q ↔ Wo (evE cl a ρ) fun x => Wo (evE cl b x.2) fun y => Wo (x.1.wk y.2) fun d => Wo (y.1.wk y.2) fun e => Wo (o.b d e) fun r => Q (.dat (.bool r), y.2) := by
  rw [evE, Wo_bnd]
  refine wiff fun x => ?_
  rw [Wo_bnd]
  refine wiff fun y => ?_
  rw [Wo_giv, Wo_map, Wo_bind]
  refine wiff fun d => ?_
  rw [Wo_bind]
  refine wiff fun e => ?_
  unfold C2.f
  rw [Wo_map]
theorem w_chain {o o' : C2} : Wo (evE cl (.chain o o' a b c) ρ) Q ↔ Wo (evE cl a ρ) fun x => Wo (evE cl b x.2) fun y => Wo x.1.st fun d => Wo y.1.st fun e => Wo (o.b d e) fun k => Br k (Wo (evE cl c y.2) fun z => Wo z.1.st fun f => Wo (o'.b e f) fun r => Q (.dat (.bool r), z.2)) (Q (.dat (.bool false), y.2)) := by
  rw [evE, Wo_bnd]
  refine wiff fun x => ?_
  rw [Wo_bnd]
  refine wiff fun y => ?_
  cases hx : x.1.st with
  | none => exact Wo_none.trans Wo_none.symm
  | some d =>
    rw [Wo_some, Option.bind_some]
    cases hy : y.1.st with
    | none => exact Wo_none.trans Wo_none.symm
    | some e =>
      rw [Wo_some, Option.bind_some]
      cases ho : o.b d e with
      | none => exact Wo_none.trans Wo_none.symm
      | some k =>
        rw [Wo_some]
        cases k with
        | false => simp only; rw [Wo_some, Br_false]
        | true =>
          simp only
          rw [Br_true, Wo_bnd]
          refine wiff fun z => ?_
          rw [Wo_giv, Wo_map, Option.bind_some, Wo_bind]
          refine wiff fun f => ?_
          unfold C2.f
          rw [Wo_map]
theorem w_neg : Wo (evE cl (.neg a) ρ) Q ↔ Wo (evE cl a ρ) fun x => AI x.1 fun k => Q (.dat (.int (-k)), x.2) := by
  rw [evE, Wo_bnd]
  refine wiff fun x => ?_
  obtain ⟨v, ρ1⟩ := x
  cases v with
  | pk i => exact Wo_none
  | dat d => cases d with
    | int z => exact Wo_some
    | _ => exact Wo_none
theorem w_last : Wo (evE cl (.last a) ρ) Q ↔ Wo (evE cl a ρ) Q := by rw [evE]
theorem w_and : Wo (evE cl (.and a b) ρ) Q ↔ Wo (evE cl a ρ) fun x => AB x.1 fun k => Br k (Wo (evE cl b x.2) Q) (Q (.dat (.bool false), x.2)) := by
  rw [evE, Wo_bnd]
  refine wiff fun x => ?_
  obtain ⟨v, ρ1⟩ := x
  cases v with
  | pk i => exact Wo_none
  | dat d => cases d with
    | bool k =>
      cases k
      · exact Wo_some.trans (AB_bool.trans Br_false).symm
      · exact (AB_bool.trans Br_true).symm
    | _ => exact Wo_none
theorem w_or : Wo (evE cl (.or a b) ρ) Q ↔ Wo (evE cl a ρ) fun x => AB x.1 fun k => Br k (Q (.dat (.bool true), x.2)) (Wo (evE cl b x.2) Q) := by
  rw [evE, Wo_bnd]
  refine wiff fun x => ?_
  obtain ⟨v, ρ1⟩ := x
  cases v with
  | pk i => exact Wo_none
  | dat d => cases d with
    | bool k =>
      cases k
      · exact (AB_bool.trans Br_false).symm
      · exact Wo_some.trans (AB_bool.trans Br_true).symm
    | _ => exact Wo_none
theorem w_not : Wo (evE cl (.not a) ρ) Q ↔ Wo (evE cl a ρ) fun x => AB x.1 fun k => Q (.dat (.bool (!k)), x.2) := by
  rw [evE, Wo_bnd]
  refine wiff fun x => ?_
  obtain ⟨v, ρ1⟩ := x
  cases v with
  | pk i => exact Wo_none
  | dat d => cases d with
    | bool z => exact Wo_some
    | _ => exact Wo_none
theorem w_ite : Wo (evE cl (.ite c a b) ρ) Q ↔ Wo (evT cl c ρ) fun x => Br x.1 (Wo (evE cl a x.2) Q) (Wo (evE cl b x.2) Q) := by
  rw [evE, Wo_bnd]
  refine wiff fun x => ?_
  obtain ⟨k, ρ1⟩ := x
  cases k
  · exact Br_false.symm
  · exact Br_true.symm
theorem w_ix : Wo (evE cl (.ix a b) ρ) Q ↔ Wo (evE cl a ρ) fun x => Wo (evE cl b x.2) fun y => Wo y.1.st fun i => Wo (x.1.ix y.2 i) fun r => Q (.dat r, y.2) := by
  rw [evE, Wo_bnd]
  refine wiff fun x => ?_
  rw [Wo_bnd]
  refine wiff fun y => ?_
  rw [Wo_giv, Wo_map, Wo_bind]
theorem w_sl : Wo (evE cl (.sl a lo hi) ρ) Q ↔ Wo (evE cl a ρ) fun x => Wo (evO cl lo x.2) fun l => Wo (evO cl hi l.2) fun h => Wo x.1.st fun d => Wo (slD d l.1 h.1) fun r => Q (.dat r, h.2) := by
  rw [evE, Wo_bnd]
  refine wiff fun x => ?_
  rw [Wo_bnd]
  refine wiff fun l => ?_
  rw [Wo_bnd]
  refine wiff fun h => ?_
  rw [Wo_giv, Wo_map, Wo_bind]
theorem w_lst : Wo (evE cl (.lst es) ρ) Q ↔ Wo (evEs cl es ρ) fun x => Wo (lstD x.1) fun ds => Q (.dat (.list ds), x.2) := by
  rw [evE, Wo_bnd]
  refine wiff fun x => ?_
  rw [Wo_giv, Wo_map]
theorem w_tup : Wo (evE cl (.tup es) ρ) Q ↔ Wo (evEs cl es ρ) fun x => Wo (sts x.1) fun ds => ds.length ≤ sizeLine ∧ Q (.dat (.tuple ds), x.2) := by
  rw [evE, Wo_bnd]
  refine wiff fun x => ?_
  rw [Wo_giv, Wo_bind]
  refine wiff fun ds => ?_
  rw [Wo_ite, Wo_some]
theorem w_rep : Wo (evE cl (.rep a b) ρ) Q ↔ Wo (evE cl a ρ) fun x => Wo (evE cl b x.2) fun y => Wo (repD x.1 y.1) fun ds => Q (.dat (.list ds), y.2) := by
  rw [evE, Wo_bnd]
  refine wiff fun x => ?_
  rw [Wo_bnd]
  refine wiff fun y => ?_
  rw [Wo_giv, Wo_map]
theorem w_bs {f : Bs} : Wo (evE cl (.bs f es) ρ) Q ↔ Wo (evEs cl es ρ) fun x => Wo (wks x.2 x.1) fun ds => Wo (f.f ds) fun r => Q (.dat r, x.2) := by
  rw [evE, Wo_bnd]
  refine wiff fun x => ?_
  rw [Wo_giv, Wo_map, Wo_bind]
theorem w_bn {f : Bn} : Wo (evE cl (.bn f es) ρ) Q ↔ Wo (evEs cl es ρ) fun x => Wo (sts x.1) fun ds => Wo (f.f ds) fun r => Q (.dat r, x.2) := by
  rw [evE, Wo_bnd]
  refine wiff fun x => ?_
  rw [Wo_giv, Wo_map, Wo_bind]
theorem w_call {f : Nat} : Wo (evE cl (.call f es) ρ) Q ↔ Wo (evEs cl es ρ) fun x => (lentOf x.1).Nodup ∧ Wo (argTs x.2 x.1) fun ts => Wo (cl f ts) fun r => Wo r.1.fz fun d => Wo (backT x.2 x.1 r.2) fun ρ' => Q (.dat d, ρ') := by
  rw [evE, Wo_bnd]
  refine wiff fun x => ?_
  rw [Wo_ite]
  refine and_congr Iff.rfl ?_
  cases argTs x.2 x.1 with
  | none => exact Wo_none.trans Wo_none.symm
  | some ts =>
    rw [Wo_some, Option.bind_some]
    cases cl f ts with
    | none => exact Wo_none.trans Wo_none.symm
    | some r =>
      rw [Wo_some]
      obtain ⟨t, ts'⟩ := r
      simp only
      cases t.fz with
      | none => exact Wo_none.trans Wo_none.symm
      | some d =>
        rw [Wo_some]
        cases backT x.2 x.1 ts' with
        | none => exact Wo_none.trans Wo_none.symm
        | some ρ' => rw [Wo_some]; exact (Wo_some (Q := fun ρ' => Q (.dat d, ρ'))).symm
theorem w_comp {t : Tg} {it : It} {k : Eo} : Wo (evE cl (.comp t it k e) ρ) Q ↔ Wo (evI cl it ρ) fun x => Wo (compE (fun ρ => bnd (evC cl k ρ) fun k ρ => match k with
      | true => bnd (evE cl e ρ) fun x ρ => giv (x.st.map some) ρ
      | false => some (none, ρ)) t t.slots x.1 [] x.2) fun y => Q (.dat (.list y.1), wipeE y.2 t.slots) := by
  rw [evE, Wo_bnd]
  refine wiff fun x => ?_
  rw [Wo_bnd]
  refine wiff fun y => ?_
  rw [Wo_some]
theorem w_lset : Wo (evE cl (.lset a) ρ) Q ↔ Wo (evE cl a ρ) fun x => AL x.1 fun xs => Wo (boolsOf xs) fun bs => Q (.dat (.int (cntB bs : Nat)), x.2) := by
  rw [evE, Wo_bnd]
  refine wiff fun x => ?_
  obtain ⟨v, ρ1⟩ := x
  cases v with
  | pk i => exact Wo_none
  | dat d => cases d with
    | list z => exact Wo_giv.trans Wo_map
    | _ => exact Wo_none
theorem w_lrg : Wo (evE cl (.lrg a) ρ) Q ↔ Wo (evE cl a ρ) fun x => AI x.1 fun n => (rngOk n = true ∧ n ≤ 16777216) ∧ Q (.dat (.list (rangeD 0 n)), x.2) := by
  rw [evE, Wo_bnd]
  refine wiff fun x => ?_
  obtain ⟨v, ρ1⟩ := x
  cases v with
  | pk i => exact Wo_none
  | dat d => cases d with
    | int z => exact Wo_ite.trans (and_congr Iff.rfl Wo_some)
    | _ => exact Wo_none
/-- a text in hand -/
def AS (v : AV) (P : Str → Prop) : Prop := match v with
  | .dat (.str k) => P k
  | _ => False
@[simp] theorem AS_str {k : Str} {P : Str → Prop} : AS (.dat (.str k)) P ↔ P k := Iff.rfl
theorem w_gdx {x : Str} {kvs : List (Str × Option Str)} : Wo (evE cl (.gdx x kvs a) ρ) Q ↔ Wo (evE cl a ρ) fun y => AS y.1 fun z => Wo (kvs.lookup z) fun o => Wo o fun u => Q (.dat (.str u), y.2) := by
  rw [evE, Wo_bnd]
  refine wiff fun y => ?_
  obtain ⟨v, ρ1⟩ := y
  cases v with
  | pk i => exact Wo_none
  | dat d => cases d with
    | str z =>
      refine Iff.trans ?_ AS_str.symm
      simp only
      cases kvs.lookup z with
      | none => exact Wo_none.trans Wo_none.symm
      | some o => cases o with
        | none => rw [Wo_some]; exact Wo_none.trans Wo_none.symm
        | some u => rw [Wo_some, Wo_some, Wo_some]
    | _ => exact Wo_none
theorem w_gdin {n : Bool} {x : Str} {kvs : List (Str × Option Str)} : Wo (evE cl (.gdin n x kvs a) ρ) Q ↔ Wo (evE cl a ρ) fun y => AS y.1 fun z => Wo (kvs.lookup z) fun o => Q (.dat (.bool (if n = true then !o.isSome else o.isSome)), y.2) := by
  rw [evE, Wo_bnd]
  refine wiff fun y => ?_
  obtain ⟨v, ρ1⟩ := y
  cases v with
  | pk i => exact Wo_none
  | dat d => cases d with
    | str z =>
      refine Iff.trans ?_ AS_str.symm
      simp only
      cases kvs.lookup z with
      | none => exact Wo_none.trans Wo_none.symm
      | some o => rw [Wo_some, Wo_some]
    | _ => exact Wo_none
theorem w_dix {ks : List Str} : Wo (evE cl (.dix ks es a) ρ) Q ↔ Wo (evEs cl es ρ) fun x => Wo (evE cl a x.2) fun y => AS y.1 fun z => Wo (dctD ks x.1) fun kds => Wo (atD kds (.inr z)) fun d => Q (.dat d, y.2) := by
  rw [evE, Wo_bnd]
  refine wiff fun x => ?_
  rw [Wo_bnd]
  refine wiff fun y => ?_
  obtain ⟨v, ρ1⟩ := y
  cases hk : dctD ks x.1 with
  | none =>
    simp only
    rw [Wo_none]
    refine ⟨fun h => h.elim, fun h => ?_⟩
    unfold AS at h
    split at h
    · exact Wo_none.mp h
    · exact h
  | some kds =>
    cases v with
    | pk i => exact Wo_none
    | dat d => cases d with
      | str z => exact (Wo_giv.trans Wo_map).trans (AS_str.trans Wo_some).symm
      | _ => exact Wo_none
theorem w_pop {i : Nat} : Wo (evE cl (.pop i) ρ) Q ↔ Wo (match ρ[i]? with
    | some (.val b (.lst ts)) => match ts.getLast? with
      | some (.sh d) => some (AV.dat d, ρ.set i (.val b (.lst ts.dropLast)))
      | _ => none
    | _ => none) Q := by first | (rw [evE]; done) | (rw [evE]; exact Iff.rfl)
theorem w_popi {i : Nat} : Wo (evE cl (.popi i e) ρ) Q ↔ isLst ρ i = true ∧ Wo (evE cl e ρ) fun x => Wo (match x.1, x.2[i]? with
      | .dat (.int k), some (.val b (.lst ts)) => if rngOk k = true then match ixN ts.length k with
        | some j => match ts[j]? with
          | some (.sh d) => some (AV.dat d, x.2.set i (.val b (.lst (ts.eraseIdx j))))
          | _ => none
        | none => none
        else none
      | _, _ => none) Q := by
  first | (rw [evE, Wo_ite, Wo_bnd]; done) | (rw [evE, Wo_ite, Wo_bnd]; exact and_congr Iff.rfl (wiff fun x => Iff.rfl))
theorem w_dget {i : Nat} : Wo (evE cl (.dget i a) ρ) Q ↔ isDct ρ i = true ∧ Wo (evE cl a ρ) fun y => Wo (match y.1, y.2[i]? with
    | .dat (.str z), some (.val _ (.dK kds)) => giv ((atD kds (.inr z)).map .dat) y.2
    | _, _ => none) Q := by
  first | (rw [evE, Wo_ite, Wo_bnd]; done) | (rw [evE, Wo_ite, Wo_bnd]; exact and_congr Iff.rfl (wiff fun x => Iff.rfl))
theorem w_din {n : Bool} {i : Nat} : Wo (evE cl (.din n i a) ρ) Q ↔ Wo (evE cl a ρ) fun y => Wo (match y.1, y.2[i]? with
    | .dat (.str z), some (.val _ (.dK kds)) => some (AV.dat (.bool (if n = true then !(atD kds (.inr z)).isSome else (atD kds (.inr z)).isSome)), y.2)
    | _, _ => none) Q := by
  first | (rw [evE, Wo_bnd]; done) | (rw [evE, Wo_bnd]; exact wiff fun x => Iff.rfl)
end
section
variable {cl : Cl} {ρ : Env} {a b c e : Ex} {es : Exs} {lo hi : Eo}
theorem w_nils {Q : List AV × Env → Prop} : Wo (evEs cl .nil ρ) Q ↔ Q ([], ρ) := by rw [evEs, Wo_some]
theorem w_cons {Q : List AV × Env → Prop} : Wo (evEs cl (.cons e es) ρ) Q ↔ Wo (evE cl e ρ) fun x => Wo (evEs cl es x.2) fun xs => Q (x.1 :: xs.1, xs.2) := by
  rw [evEs, Wo_bnd]
  refine wiff fun x => ?_
  rw [Wo_bnd]
  refine wiff fun y => ?_
  rw [Wo_some]
theorem w_no {Q : Option Int × Env → Prop} : Wo (evO cl .no ρ) Q ↔ Q (none, ρ) := by rw [evO, Wo_some]
theorem w_yes {Q : Option Int × Env → Prop} : Wo (evO cl (.yes e) ρ) Q ↔ Wo (evE cl e ρ) fun x => AI x.1 fun k => Q (some k, x.2) := by
  rw [evO, Wo_bnd]
  refine wiff fun x => ?_
  obtain ⟨v, ρ1⟩ := x
  cases v with
  | pk i => exact Wo_none
  | dat d => cases d with
    | int z => exact Wo_some
    | _ => exact Wo_none
theorem wc_no {Q : Bool × Env → Prop} : Wo (evC cl .no ρ) Q ↔ Q (true, ρ) := by rw [evC, Wo_some]
theorem wc_yes {Q : Bool × Env → Prop} : Wo (evC cl (.yes e) ρ) Q ↔ Wo (evT cl e ρ) Q := by rw [evC]
theorem wt_and {Q : Bool × Env → Prop} : Wo (evT cl (.and a b) ρ) Q ↔ Wo (evT cl a ρ) fun x => Br x.1 (Wo (evT cl b x.2) Q) (Q (false, x.2)) := by
  rw [evT, Wo_bnd]
  refine wiff fun x => ?_
  obtain ⟨k, ρ1⟩ := x
  cases k
  · exact Wo_some.trans Br_false.symm
  · exact Br_true.symm
theorem wt_or {Q : Bool × Env → Prop} : Wo (evT cl (.or a b) ρ) Q ↔ Wo (evT cl a ρ) fun x => Br x.1 (Q (true, x.2)) (Wo (evT cl b x.2) Q) := by
  rw [evT, Wo_bnd]
  refine wiff fun x => ?_
  obtain ⟨k, ρ1⟩ := x
  cases k
  · exact Br_false.symm
  · exact Wo_some.trans Br_true.symm
theorem wt_not {Q : Bool × Env → Prop} : Wo (evT cl (.not a) ρ) Q ↔ Wo (evT cl a ρ) fun x => Q (!x.1, x.2) := by
  rw [evT, Wo_bnd]
  refine wiff fun x => ?_
  rw [Wo_some]
theorem wt_last {Q : Bool × Env → Prop} : Wo (evT cl (.last a) ρ) Q ↔ Wo (evT cl a ρ) Q := by rw [evT]
theorem wt_any {Q : Bool × Env → Prop} (h : evT cl e ρ = bnd (evE cl e ρ) fun x ρ => giv ((x.wk ρ).bind truD) ρ) : Wo (evT cl e ρ) Q ↔ Wo (evE cl e ρ) fun x => Wo (x.1.wk x.2) fun d => Wo (truD d) fun k => Q (k, x.2) := by
  rw [h, Wo_bnd]
  refine wiff fun x => ?_
  rw [Wo_giv, Wo_bind]
theorem wt_cmp {o : C2} {Q : Bool × Env → Prop} : Wo (evT cl (.cmp o a b) ρ) Q ↔ Wo (evE cl (.cmp o a b) ρ) fun x => Wo (x.1.wk x.2) fun d => Wo (truD d) fun k => Q (k, x.2) := wt_any (by rw [evT] <;> simp)
theorem wt_chain {o o' : C2} {Q : Bool × Env → Prop} : Wo (evT cl (.chain o o' a b c) ρ) Q ↔ Wo (evE cl (.chain o o' a b c) ρ) fun x => Wo (x.1.wk x.2) fun d => Wo (truD d) fun k => Q (k, x.2) := wt_any (by rw [evT] <;> simp)
theorem wt_var {i : Nat} {Q : Bool × Env → Prop} : Wo (evT cl (.var i) ρ) Q ↔ Wo (evE cl (.var i) ρ) fun x => Wo (x.1.wk x.2) fun d => Wo (truD d) fun k => Q (k, x.2) := wt_any (by rw [evT] <;> simp)
theorem wt_call {f : Nat} {Q : Bool × Env → Prop} : Wo (evT cl (.call f es) ρ) Q ↔ Wo (evE cl (.call f es) ρ) fun x => Wo (x.1.wk x.2) fun d => Wo (truD d) fun k => Q (k, x.2) := wt_any (by rw [evT] <;> simp)
theorem wt_bs {f : Bs} {Q : Bool × Env → Prop} : Wo (evT cl (.bs f es) ρ) Q ↔ Wo (evE cl (.bs f es) ρ) fun x => Wo (x.1.wk x.2) fun d => Wo (truD d) fun k => Q (k, x.2) := wt_any (by rw [evT] <;> simp)
theorem wt_din {n : Bool} {i : Nat} {Q : Bool × Env → Prop} : Wo (evT cl (.din n i a) ρ) Q ↔ Wo (evE cl (.din n i a) ρ) fun x => Wo (x.1.wk x.2) fun d => Wo (truD d) fun k => Q (k, x.2) := wt_any (by rw [evT] <;> simp)
theorem wt_gdin {n : Bool} {y : Str} {kvs : List (Str × Option Str)} {Q : Bool × Env → Prop} : Wo (evT cl (.gdin n y kvs a) ρ) Q ↔ Wo (evE cl (.gdin n y kvs a) ρ) fun x => Wo (x.1.wk x.2) fun d => Wo (truD d) fun k => Q (k, x.2) := wt_any (by rw [evT] <;> simp)
theorem wi_seq {Q : List D × Env → Prop} : Wo (evI cl (.seq a) ρ) Q ↔ Wo (evE cl a ρ) fun x => Wo x.1.st fun d => Wo (itemsOf d) fun xs => Q (xs, x.2) := by
  rw [evI, Wo_bnd]
  refine wiff fun x => ?_
  rw [Wo_giv, Wo_bind]
theorem wi_rng {Q : List D × Env → Prop} : Wo (evI cl (.rng a) ρ) Q ↔ Wo (evE cl a ρ) fun x => AI x.1 fun n => rngOk n = true ∧ Q (rangeD 0 n, x.2) := by
  rw [evI, Wo_bnd]
  refine wiff fun x => ?_
  obtain ⟨v, ρ1⟩ := x
  cases v with
  | pk i => exact Wo_none
  | dat d => cases d with
    | int z => exact Wo_ite.trans (and_congr Iff.rfl Wo_some)
    | _ => exact Wo_none
theorem wi_enum {Q : List D × Env → Prop} : Wo (evI cl (.enum a) ρ) Q ↔ Wo (evE cl a ρ) fun x => Wo x.1.st fun d => Wo (itemsOf d) fun xs => Q (enumD xs, x.2) := by
  rw [evI, Wo_bnd]
  refine wiff fun x => ?_
  obtain ⟨v, ρ1⟩ := x
  cases v with
  | pk i => exact Wo_none.trans Wo_none.symm
  | dat d =>
    rw [st_dat, Wo_some]
    cases d with
    | list xs => exact Wo_some.trans (Wo_some (Q := fun xs => Q (enumD xs, ρ1))).symm
    | tuple xs => exact Wo_some.trans (Wo_some (Q := fun xs => Q (enumD xs, ρ1))).symm
    | _ => exact Wo_none.trans Wo_none.symm
theorem wi_zip {Q : List D × Env → Prop} : Wo (evI cl (.zip a b) ρ) Q ↔ Wo (evE cl a ρ) fun x => Wo (evE cl b x.2) fun y => AL x.1 fun xs => AL y.1 fun ys => Q (zipD xs ys, y.2) := by
  rw [evI, Wo_bnd]
  refine wiff fun x => ?_
  rw [Wo_bnd]
  refine wiff fun y => ?_
  obtain ⟨v, ρ1⟩ := x
  obtain ⟨u, ρ2⟩ := y
  cases v with
  | pk i => exact Wo_none
  | dat d =>
    cases d with
    | list xs =>
      cases u with
      | pk i => exact Wo_none
      | dat d => cases d with
        | list ys => exact Wo_some
        | _ => exact Wo_none
    | _ => exact Wo_none
end
/-- how a statement goes on -/
def nxT (r : Fl) (P : Env → Prop) (Q : Fl → Prop) : Prop := match r with
  | .nx ρ => P ρ
  | r => Q r
section
variable {P : Env → Prop} {Q : Fl → Prop} {ρ : Env} {t : OT}
@[simp ↓] theorem nxT_nx : nxT (.nx ρ) P Q ↔ P ρ := Iff.rfl
@[simp ↓] theorem nxT_ret : nxT (.ret t ρ) P Q ↔ Q (.ret t ρ) := Iff.rfl
end
section
variable {cl : Cl} {fu : Nat} {ρ : Env} {Q : Fl → Prop} {e c k : Ex} {es : Exs} {a b : St}
theorem s_nil : Wo (evS cl fu .nil ρ) Q ↔ Q (.nx ρ) := by rw [evS, Wo_some]
theorem s_seq : Wo (evS cl fu (.seq a b) ρ) Q ↔ Wo (evS cl fu a ρ) fun r => nxT r (fun ρ1 => Wo (evS cl fu b ρ1) Q) Q := by
  rw [evS]
  cases evS cl fu a ρ with
  | none => exact Wo_none.trans Wo_none.symm
  | some r =>
    rw [Wo_some]
    cases r with
    | nx ρ1 => exact Iff.rfl
    | _ => exact Wo_some
theorem s_retv {i : Nat} : Wo (evS cl fu (.ret (.var i)) ρ) Q ↔ Wo (match ρ[i]? with
    | some (.val false t) => some (Fl.ret t (ρ.set i .non))
    | some (.val true (.sh d)) => some (.ret (.sh d) ρ)
    | _ => none) Q := by first | (rw [evS]; done) | (rw [evS]; exact Iff.rfl)
def notVar : Ex → Bool
  | .var _ => false
  | _ => true
theorem s_ret (h : notVar e = true) : Wo (evS cl fu (.ret e) ρ) Q ↔ Wo (evE cl e ρ) fun x => Wo x.1.st fun d => Q (.ret (.sh d) x.2) := by
  have E : evS cl fu (.ret e) ρ = bnd (evE cl e ρ) fun x ρ => match x with
    | .dat d => some (.ret (.sh d) ρ)
    | _ => none := by cases e <;> first | (cases h; done) | (rw [evS] <;> first | exact rfl | (intro i hi; cases hi))
  rw [E, Wo_bnd]
  refine wiff fun x => ?_
  obtain ⟨v, ρ1⟩ := x
  cases v with
  | pk i => exact Wo_none.trans Wo_none.symm
  | dat d => exact Wo_some.trans (Wo_some (Q := fun d => Q (.ret (.sh d) ρ1))).symm
theorem s_retN : Wo (evS cl fu .retN ρ) Q ↔ Q (.ret (.sh .none) ρ) := by rw [evS, Wo_some]
theorem s_ex : Wo (evS cl fu (.ex e) ρ) Q ↔ Wo (evE cl e ρ) fun x => Q (.nx x.2) := by
  rw [evS, Wo_bnd]
  refine wiff fun x => ?_
  rw [Wo_some]
theorem s_asg {t : Tg} : Wo (evS cl fu (.asg t e) ρ) Q ↔ Wo (evE cl e ρ) fun x => Wo x.1.st fun d => Wo (tgE x.2 t d) fun ρ' => Q (.nx ρ') := by
  rw [evS, Wo_bnd]
  refine wiff fun x => ?_
  obtain ⟨v, ρ1⟩ := x
  cases v with
  | pk i => exact Wo_none.trans Wo_none.symm
  | dat d => exact Wo_map.trans (Wo_some (Q := fun d => Wo (tgE ρ1 t d) fun ρ' => Q (.nx ρ'))).symm
theorem s_own {i : Nat} : Wo (evS cl fu (.own i e) ρ) Q ↔ Wo (evOwn cl e ρ) fun x => (i < x.2.length ∧ isLent x.2 i = false) ∧ Q (.nx (x.2.set i (.val false x.1))) := by
  rw [evS, Wo_bnd]
  refine wiff fun x => ?_
  rw [Wo_ite, Wo_some]
theorem s_par {is : List Nat} : Wo (evS cl fu (.par is es) ρ) Q ↔ Wo (evEs cl es ρ) fun x => Wo (sts x.1) fun ds => Wo (putsE x.2 is ds) fun ρ' => Q (.nx ρ') := by
  rw [evS, Wo_bnd]
  refine wiff fun x => ?_
  rw [Wo_bind]
  refine wiff fun ds => ?_
  rw [Wo_map]
theorem s_ifs : Wo (evS cl fu (.ifs c a b) ρ) Q ↔ Wo (evT cl c ρ) fun x => Br x.1 (Wo (evS cl fu a x.2) Q) (Wo (evS cl fu b x.2) Q) := by
  rw [evS, Wo_bnd]
  refine wiff fun x => ?_
  obtain ⟨k, ρ1⟩ := x
  cases k
  · exact Br_false.symm
  · exact Br_true.symm
theorem s_for {t : Tg} {it : It} : Wo (evS cl fu (.for_ t it b) ρ) Q ↔ Wo (evI cl it ρ) fun x => Wo (forE (evS cl fu b) t x.1 x.2) Q := by rw [evS, Wo_bnd]
theorem s_whl : Wo (evS cl fu (.whl c b) ρ) Q ↔ Wo (whlE (evT cl c) (evS cl fu b) fu ρ) Q := by rw [evS]
theorem s_reto : Wo (evS cl fu (.reto e) ρ) Q ↔ Wo (evOwn cl e ρ) fun x => Q (.ret x.1 x.2) := by
  rw [evS, Wo_bnd]
  refine wiff fun x => ?_
  rw [Wo_some]
theorem s_aug {i : Nat} {o : O2} : Wo (evS cl fu (.aug i o e) ρ) Q ↔ Wo (rdVar i ρ) fun p => Wo (evE cl e p.2) fun x => Wo (match p.1, x.1 with
    | .int a, .dat (.int b) => match o with
      | .add => (putE x.2 i (.int (a + b))).map Fl.nx
      | .sub => (putE x.2 i (.int (a - b))).map .nx
      | _ => none
    | _, _ => none) Q := by
  rw [evS, Wo_bnd]
  refine wiff fun x => ?_
  first | (rw [Wo_bnd]; done) | (rw [Wo_bnd]; exact wiff fun _ => Iff.rfl)
theorem s_setix {i : Nat} : Wo (evS cl fu (.setix i k e) ρ) Q ↔ Wo (evE cl e ρ) fun x => isLst x.2 i = true ∧ Wo (evE cl k x.2) fun y => Wo (match x.1, y.1, y.2[i]? with
      | .dat d, .dat (.int n), some (.val b (.lst ts)) => match ixN ts.length n with
        | some j => some (Fl.nx (y.2.set i (.val b (.lst (ts.set j (.sh d))))))
        | none => none
      | _, _, _ => none) Q := by
  rw [evS, Wo_bnd]
  refine wiff fun x => ?_
  rw [Wo_ite]
  refine and_congr Iff.rfl ?_
  first | (rw [Wo_bnd]; done) | (rw [Wo_bnd]; exact wiff fun _ => Iff.rfl)
theorem s_app {i : Nat} : Wo (evS cl fu (.app i e) ρ) Q ↔ isLst ρ i = true ∧ Wo (evE cl e ρ) fun x => Wo (match x.1, x.2[i]? with
      | .dat d, some (.val b (.lst ts)) => if ts.length < sizeLine then some (Fl.nx (x.2.set i (.val b (.lst (ts ++ [.sh d]))))) else none
      | _, _ => none) Q := by
  rw [evS, Wo_ite]
  refine and_congr Iff.rfl ?_
  first | (rw [Wo_bnd]; done) | (rw [Wo_bnd]; exact wiff fun _ => Iff.rfl)
theorem s_ext {i : Nat} : Wo (evS cl fu (.ext i e) ρ) Q ↔ isLst ρ i = true ∧ Wo (evE cl e ρ) fun x => Wo (match x.1, x.2[i]? with
      | .dat (.list ds), some (.val b (.lst ts)) => if ts.length + ds.length ≤ sizeLine then some (Fl.nx (x.2.set i (.val b (.lst (ts ++ ds.map .sh))))) else none
      | _, _ => none) Q := by
  rw [evS, Wo_ite]
  refine and_congr Iff.rfl ?_
  first | (rw [Wo_bnd]; done) | (rw [Wo_bnd]; exact wiff fun _ => Iff.rfl)
theorem s_dset2 {i : Nat} {k1 k2 : Str} : Wo (evS cl fu (.dset2 i k1 k2 e) ρ) Q ↔ Wo (evE cl e ρ) fun x => Wo (match x.1, x.2[i]? with
    | .dat (.tuple [d1, d2]), some (.val b (.dK kds)) => if kds.length + 2 ≤ sizeLine then some (Fl.nx (x.2.set i (.val b (.dK (putD (putD kds (.inr k1) d1) (.inr k2) d2))))) else none
    | _, _ => none) Q := by
  first | (rw [evS, Wo_bnd]; done) | (rw [evS, Wo_bnd]; exact wiff fun _ => Iff.rfl)
theorem s_setx2 {i j : Nat} {n : Int} : Wo (evS cl fu (.setx2 i n j e) ρ) Q ↔ Wo (evE cl e ρ) fun x => Wo (match x.1, x.2[i]? with
    | .dat (.tuple [d1, d2]), some (.val b (.lst ts)) => match ixN ts.length n with
      | some m => (putE (x.2.set i (.val b (.lst (ts.set m (.sh d1))))) j d2).map Fl.nx
      | none => none
    | _, _ => none) Q := by
  first | (rw [evS, Wo_bnd]; done) | (rw [evS, Wo_bnd]; exact wiff fun _ => Iff.rfl)

end
section
variable {cl : Cl} {ρ : Env} {Q : OT × Env → Prop} {e a b : Ex} {es : Exs} {lo hi : Eo}
theorem o_lst : Wo (evOwn cl (.lst es) ρ) Q ↔ Wo (evEs cl es ρ) fun x => Wo (lstD x.1) fun ds => Q (.lst (ds.map .sh), x.2) := by
  rw [evOwn, Wo_bnd]
  refine wiff fun x => ?_
  rw [Wo_giv, Wo_map]
theorem o_any (h : evOwn cl e ρ = bnd (evE cl e ρ) fun x ρ => match x with
    | .dat (.list ds) => some (.lst (ds.map .sh), ρ)
    | _ => none) : Wo (evOwn cl e ρ) Q ↔ Wo (evE cl e ρ) fun x => AL x.1 fun ds => Q (.lst (ds.map .sh), x.2) := by
  rw [h, Wo_bnd]
  refine wiff fun x => ?_
  obtain ⟨v, ρ1⟩ := x
  cases v with
  | pk i => exact Wo_none
  | dat d => cases d with
    | list z => exact Wo_some
    | _ => exact Wo_none
theorem o_comp {t : Tg} {it : It} {k : Eo} : Wo (evOwn cl (.comp t it k e) ρ) Q ↔ Wo (evE cl (.comp t it k e) ρ) fun x => AL x.1 fun ds => Q (.lst (ds.map .sh), x.2) := o_any (by first | (rw [evOwn]; done) | (rw [evOwn]; exact rfl))
theorem o_sl : Wo (evOwn cl (.sl a lo hi) ρ) Q ↔ Wo (evE cl (.sl a lo hi) ρ) fun x => AL x.1 fun ds => Q (.lst (ds.map .sh), x.2) := o_any (by first | (rw [evOwn]; done) | (rw [evOwn]; exact rfl))
theorem o_add : Wo (evOwn cl (.op .add a b) ρ) Q ↔ Wo (evE cl (.op .add a b) ρ) fun x => AL x.1 fun ds => Q (.lst (ds.map .sh), x.2) := o_any (by first | (rw [evOwn]; done) | (rw [evOwn]; exact rfl))
theorem o_list : Wo (evOwn cl (.bn .list es) ρ) Q ↔ Wo (evE cl (.bn .list es) ρ) fun x => AL x.1 fun ds => Q (.lst (ds.map .sh), x.2) := o_any (by first | (rw [evOwn]; done) | (rw [evOwn]; exact rfl))
theorem o_lrg : Wo (evOwn cl (.lrg a) ρ) Q ↔ Wo (evE cl (.lrg a) ρ) fun x => AL x.1 fun ds => Q (.lst (ds.map .sh), x.2) := o_any (by first | (rw [evOwn]; done) | (rw [evOwn]; exact rfl))
theorem o_dct {ks : List Str} : Wo (evOwn cl (.dct ks es) ρ) Q ↔ Wo (evEs cl es ρ) fun x => Wo (dctD ks x.1) fun ds => Q (.dK ds, x.2) := by
  rw [evOwn, Wo_bnd]
  refine wiff fun x => ?_
  rw [Wo_giv, Wo_map]
theorem o_call {f : Nat} : Wo (evOwn cl (.call f es) ρ) Q ↔ Wo (evEs cl es ρ) fun x => (lentOf x.1).Nodup ∧ Wo (argTs x.2 x.1) fun ts => Wo (cl f ts) fun r => Wo (backT x.2 x.1 r.2) fun ρ' => Q (r.1, ρ') := by
  rw [evOwn, Wo_bnd]
  refine wiff fun x => ?_
  rw [Wo_ite]
  refine and_congr Iff.rfl ?_
  cases argTs x.2 x.1 with
  | none => exact Wo_none.trans Wo_none.symm
  | some ts =>
    rw [Wo_some, Option.bind_some]
    cases cl f ts with
    | none => exact Wo_none.trans Wo_none.symm
    | some r =>
      rw [Wo_some]
      obtain ⟨t, ts'⟩ := r
      simp only
      cases backT x.2 x.1 ts' with
      | none => exact Wo_none.trans Wo_none.symm
      | some ρ' => rw [Wo_some]; exact (Wo_some (Q := fun ρ' => Q (t, ρ'))).symm
end
/-! loops -/
def nxF (r : Fl) (P : Env → Prop) (Q : Fl → Prop) : Prop := match r with
  | .nx ρ => P ρ
  | .cont ρ => P ρ
  | .brk ρ => Q (.nx ρ)
  | .ret t ρ => Q (.ret t ρ)
section
variable {P : Env → Prop} {Q : Fl → Prop} {ρ : Env} {t : OT}
@[simp ↓] theorem nxF_nx : nxF (.nx ρ) P Q ↔ P ρ := Iff.rfl
@[simp ↓] theorem nxF_ret : nxF (.ret t ρ) P Q ↔ Q (.ret t ρ) := Iff.rfl
end
section
variable {Q : Fl → Prop}
theorem for_inv {body : Env → Option Fl} {t : Tg} (P : List D → Env → Prop) (hs : ∀ x xs ρ, P (x :: xs) ρ → Wo (tgE ρ t x) fun ρ1 => Wo (body ρ1) fun r => nxF r (P xs) Q)
    (hd : ∀ ρ, P [] ρ → Q (.nx ρ)) : ∀ (ds : List D) (ρ : Env), P ds ρ → Wo (forE body t ds ρ) Q
  | [], ρ, h => by rw [forE, Wo_some]; exact hd ρ h
  | x :: xs, ρ, h => by
    obtain ⟨ρ1, e1, r, e2, q⟩ := hs x xs ρ h
    rw [forE, e1]
    simp only
    rw [e2]
    cases r with
    | nx ρ2 => exact for_inv P hs hd xs ρ2 q
    | cont ρ2 => exact for_inv P hs hd xs ρ2 q
    | brk ρ2 => exact Wo_some.mpr q
    | ret v ρ2 => exact Wo_some.mpr q
theorem whl_inv {test : Env → Res Bool} {body : Env → Option Fl} (P : Nat → Env → Prop) (hs : ∀ n ρ, P n ρ → Wo (test ρ) fun p => Br p.1 (∃ m, m < n ∧ Wo (body p.2) fun r => nxF r (P m) Q) (Q (.nx p.2))) :
    ∀ (fu n : Nat) (ρ : Env), P n ρ → n < fu → Wo (whlE test body fu ρ) Q
  | 0, n, ρ, h, hn => absurd hn (Nat.not_lt_zero _)
  | fu + 1, n, ρ, h, hn => by
    obtain ⟨⟨k, ρ1⟩, e1, q⟩ := hs n ρ h
    rw [whlE, e1]
    cases k with
    | false => exact Wo_some.mpr (Br_false.mp q)
    | true =>
      obtain ⟨m, hm, r, e2, q⟩ := Br_true.mp q
      simp only
      rw [e2]
      cases r with
      | nx ρ2 => exact whl_inv P hs fu m ρ2 q (by omega)
      | cont ρ2 => exact whl_inv P hs fu m ρ2 q (by omega)
      | brk ρ2 => exact Wo_some.mpr q
      | ret v ρ2 => exact Wo_some.mpr q
end
/-- a comprehension's item -/
def oneE (cl : Cl) (k : Eo) (e : Ex) : Env → Res (Option D) := fun ρ => bnd (evC cl k ρ) fun k ρ => match k with
      | true => bnd (evE cl e ρ) fun x ρ => giv (x.st.map some) ρ
      | false => some (none, ρ)
theorem w_one {cl : Cl} {k : Eo} {e : Ex} {ρ : Env} {Q : Option D × Env → Prop} : Wo (oneE cl k e ρ) Q ↔ Wo (evC cl k ρ) fun x => Br x.1 (Wo (evE cl e x.2) fun y => Wo y.1.st fun d => Q (some d, y.2)) (Q (none, x.2)) := by
  unfold oneE
  rw [Wo_bnd]
  refine wiff fun x => ?_
  obtain ⟨k, ρ1⟩ := x
  cases k
  · exact Wo_some.trans Br_false.symm
  · refine Iff.trans ?_ Br_true.symm
    rw [Wo_bnd]
    refine wiff fun y => ?_
    rw [Wo_giv, Wo_map]
theorem w_comp' {cl : Cl} {ρ : Env} {Q : AV × Env → Prop} {t : Tg} {it : It} {k : Eo} {e : Ex} : Wo (evE cl (.comp t it k e) ρ) Q ↔ Wo (evI cl it ρ) fun x => Wo (compE (oneE cl k e) t t.slots x.1 [] x.2) fun y => Q (.dat (.list y.1), wipeE y.2 t.slots) := w_comp
/-- what a comprehension's item adds -/
def adE (o : Option D) (acc : List D) (P : List D → Prop) : Prop := match o with
  | none => P acc
  | some y => acc.length < sizeLine ∧ P (acc ++ [y])
@[simp ↓] theorem adE_none {acc : List D} {P : List D → Prop} : adE none acc P ↔ P acc := Iff.rfl
@[simp ↓] theorem adE_some {acc : List D} {y : D} {P : List D → Prop} : adE (some y) acc P ↔ acc.length < sizeLine ∧ P (acc ++ [y]) := Iff.rfl
theorem comp_inv {elt : Env → Res (Option D)} {t : Tg} {vs : List Nat} {Q : List D × Env → Prop} (P : List D → List D → Env → Prop)
    (hs : ∀ x xs acc ρ, P (x :: xs) acc ρ → Wo (tgE (wipeE ρ vs) t x) fun ρ1 => Wo (elt ρ1) fun p => adE p.1 acc fun acc' => P xs acc' (wipeE p.2 vs))
    (hd : ∀ acc ρ, P [] acc ρ → Q (acc, ρ)) : ∀ (ds acc : List D) (ρ : Env), P ds acc ρ → Wo (compE elt t vs ds acc ρ) Q
  | [], acc, ρ, h => by rw [compE, Wo_some]; exact hd acc ρ h
  | x :: xs, acc, ρ, h => by
    obtain ⟨ρ1, e1, ⟨o, ρ2⟩, e2, q⟩ := hs x xs acc ρ h
    rw [compE, e1]
    simp only
    rw [Wo_bnd, e2, Wo_some]
    cases o with
    | none => exact comp_inv P hs hd xs acc _ q
    | some y =>
      simp only
      rw [if_pos q.1]
      exact comp_inv P hs hd xs _ _ q.2
/-- a comprehension that changes nothing: what it takes -/
theorem comp_filter {elt : Env → Res (Option D)} {t : Tg} {vs : List Nat} {Q : List D × Env → Prop} {α : Type} (g : α → Option D) (f : α → D) (ρ : Env) (hw : wipeE ρ vs = ρ) (xs : List α) (hn : xs.length ≤ sizeLine)
    (hs : ∀ x ∈ xs, Wo (tgE ρ t (f x)) fun ρ1 => Wo (elt ρ1) fun p => p.1 = g x ∧ wipeE p.2 vs = ρ) (hd : Q (xs.filterMap g, ρ)) : Wo (compE elt t vs (xs.map f) [] ρ) Q := by
  refine comp_inv (fun ds acc ρ' => ρ' = ρ ∧ ∃ ys, (∀ x ∈ ys, x ∈ xs) ∧ ds = ys.map f ∧ acc.length + ys.length ≤ sizeLine ∧ acc ++ ys.filterMap g = xs.filterMap g) (fun x xs' acc ρ' h => ?_) (fun acc ρ' h => ?_) _ _ _ ⟨rfl, xs, fun _ h => h, rfl, by simpa using hn, rfl⟩
  · obtain ⟨rfl, ys, hm, e, hl, ha⟩ := h
    cases ys with
    | nil => cases e
    | cons y ys =>
      rw [List.map_cons] at e
      cases e
      rw [hw]
      refine Wo_mono (hs y (hm y (List.mem_cons_self ..))) fun ρ1 q => Wo_mono q fun p q => ?_
      obtain ⟨q1, q2⟩ := q
      rw [q1]
      rw [List.length_cons] at hl
      rw [List.filterMap_cons] at ha
      cases hg : g y with
      | none =>
        rw [hg] at ha
        exact ⟨q2, ys, fun x hx => hm x (List.mem_cons_of_mem _ hx), rfl, by omega, ha⟩
      | some z =>
        rw [hg] at ha
        refine ⟨by omega, q2, ys, fun x hx => hm x (List.mem_cons_of_mem _ hx), rfl, by rw [List.length_append]; simp only [List.length_cons, List.length_nil]; omega, ?_⟩
        simpa using ha
  · obtain ⟨rfl, ys, hm, e, hl, ha⟩ := h
    cases ys with
    | nil =>
      simp at ha
      rw [ha]
      exact hd
    | cons y ys => cases e
/-! the frame -/
theorem w_evF {tbl : Nat → Option Fd} {fu k f : Nat} {ts : List OT} {Q : OT × List OT → Prop} : Wo (evF tbl fu (k + 1) f ts) Q ↔ Wo (tbl f) fun fd => Wo (startE fd.lent ts) fun ρ => Wo (evS (evF tbl fu k) fu fd.body (ρ ++ List.replicate (fd.n - fd.lent.length) .non)) fun r => match r with
    | .ret t ρ' => Wo (endE ρ' fd.lent 0) fun b => Q (t, b)
    | .nx ρ' => Wo (endE ρ' fd.lent 0) fun b => Q (.sh .none, b)
    | _ => False := by
  have E : evF tbl fu (k + 1) f ts = (tbl f).bind fun fd => (startE fd.lent ts).bind fun ρ => (evS (evF tbl fu k) fu fd.body (ρ ++ List.replicate (fd.n - fd.lent.length) .non)).bind fun r => match r with
    | .ret t ρ' => (endE ρ' fd.lent 0).map fun b => (t, b)
    | .nx ρ' => (endE ρ' fd.lent 0).map fun b => (.sh .none, b)
    | _ => none := by
    conv => lhs; unfold evF
    cases tbl f with
    | none => exact rfl
    | some fd =>
      simp only [Option.bind_some]
      cases h1 : startE fd.lent ts with
      | none => exact rfl
      | some ρ =>
        simp only [Option.bind_some]
        cases evS (evF tbl fu k) fu fd.body (ρ ++ List.replicate (fd.n - fd.lent.length) .non) with
        | none => exact rfl
        | some r => cases r <;> exact rfl
  rw [E, Wo_bind]
  refine wiff fun fd => ?_
  rw [Wo_bind]
  refine wiff fun ρ => ?_
  rw [Wo_bind]
  refine wiff fun r => ?_
  cases r with
  | ret t ρ' => exact Wo_map
  | nx ρ' => exact Wo_map
  | _ => exact Wo_none
/-- how a def ends -/
def fin (lent : List Bool) (Q : OT × List OT → Prop) (r : Fl) : Prop := match r with
    | .ret t ρ' => Wo (endE ρ' lent 0) fun b => Q (t, b)
    | .nx ρ' => Wo (endE ρ' lent 0) fun b => Q (.sh .none, b)
    | _ => False
@[simp ↓] theorem fin_ret {lent : List Bool} {Q : OT × List OT → Prop} {t : OT} {ρ : Env} : fin lent Q (.ret t ρ) ↔ Wo (endE ρ lent 0) fun b => Q (t, b) := Iff.rfl
@[simp ↓] theorem fin_nx {lent : List Bool} {Q : OT × List OT → Prop} {ρ : Env} : fin lent Q (.nx ρ) ↔ Wo (endE ρ lent 0) fun b => Q (.sh .none, b) := Iff.rfl
theorem w_fn {tbl : Nat → Option Fd} {fu k f : Nat} {fd : Fd} {ts : List OT} {Q : OT × List OT → Prop} (h : tbl f = some fd) {ρ : Env} (hs : startE fd.lent ts = some ρ)
    (q : Wo (evS (evF tbl fu k) fu fd.body (ρ ++ List.replicate (fd.n - fd.lent.length) .non)) (fin fd.lent Q)) : Wo (evF tbl fu (k + 1) f ts) Q := by
  rw [w_evF, h, Wo_some, hs, Wo_some]
  exact q
/-! small steps -/
section
variable {ρ : Env} {s : Slot} {d : D} {i : Nat} {b : Bool} {t : OT} {ts : List OT}
@[simp] theorem rdVar_0 : rdVar 0 (.val b (.sh d) :: ρ) = some (d, .val b (.sh d) :: ρ) := rfl
@[simp] theorem rdVar_1 : rdVar (i + 1) (s :: ρ) = (rdVar i ρ).map fun p => (p.1, s :: p.2) := by
  unfold rdVar
  rw [List.getElem?_cons_succ]
  cases ρ[i]? with
  | none => rfl
  | some sl => cases sl with
    | non => rfl
    | val b t => cases t with
      | sh d => rfl
      | _ => cases b with
        | true => rfl
        | false =>
          simp only
          generalize OT.fz _ = o
          cases o <;> rfl
@[simp] theorem rdVar_lst {ds : List D} : rdVar 0 (.val false (.lst (ds.map .sh)) :: ρ) = some (.list ds, .val false (.sh (.list ds)) :: ρ) := by
  unfold rdVar
  simp only [List.getElem?_cons_zero]
  unfold OT.fz
  rw [fzs_sh]
  rfl
@[simp] theorem fz_sh : OT.fz (.sh d) = some d := by unfold OT.fz; rfl
@[simp] theorem fz_lst {ds : List D} : OT.fz (.lst (ds.map .sh)) = some (.list ds) := by unfold OT.fz; rw [fzs_sh]; rfl
@[simp] theorem putE_0n : putE (.non :: ρ) 0 d = some (.val false (.sh d) :: ρ) := rfl
@[simp] theorem putE_0v : putE (.val false t :: ρ) 0 d = some (.val false (.sh d) :: ρ) := rfl
@[simp] theorem putE_1 : putE (s :: ρ) (i + 1) d = (putE ρ i d).map (s :: ·) := by
  have h : (i + 1 < (s :: ρ).length ∧ isLent (s :: ρ) (i + 1) = false) ↔ (i < ρ.length ∧ isLent ρ i = false) := by
    rw [List.length_cons, Nat.add_lt_add_iff_right]; exact Iff.rfl
  unfold putE
  by_cases c : i < ρ.length ∧ isLent ρ i = false
  · rw [if_pos c, if_pos (h.mpr c)]; rfl
  · rw [if_neg c, if_neg (fun x => c (h.mp x))]; rfl
@[simp] theorem putsE_nil : putsE ρ [] [] = some ρ := rfl
@[simp] theorem putsE_cons {is : List Nat} {ds : List D} : putsE ρ (i :: is) (d :: ds) = (putE ρ i d).bind fun ρ' => putsE ρ' is ds := rfl
@[simp] theorem tgE_one : tgE ρ (.one i) d = putE ρ i d := rfl
@[simp] theorem tgE_tup {is : List Nat} {ds : List D} : tgE ρ (.tup is) (.tuple ds) = putsE ρ is ds := rfl
@[simp] theorem hasV_0 : hasV (.val b t :: ρ) 0 = true := rfl
@[simp] theorem hasV_1 : hasV (s :: ρ) (i + 1) = hasV ρ i := rfl
@[simp] theorem isLst_0 : isLst (.val b (.lst ts) :: ρ) 0 = true := rfl
@[simp] theorem isLst_1 : isLst (s :: ρ) (i + 1) = isLst ρ i := rfl
@[simp] theorem isLent_0n : isLent (.non :: ρ) 0 = false := rfl
@[simp] theorem isLent_0v : isLent (.val false t :: ρ) 0 = false := rfl
@[simp] theorem isLent_1 : isLent (s :: ρ) (i + 1) = isLent ρ i := rfl
@[simp] theorem fzs_0 : fzs (.val b t :: ρ) 0 = t.fz := rfl
@[simp] theorem fzs_1 : fzs (s :: ρ) (i + 1) = fzs ρ i := rfl
@[simp] theorem wipe_nil : wipeE ρ [] = ρ := rfl
@[simp] theorem wipe_cons {vs : List Nat} : wipeE ρ (i :: vs) = (wipeE ρ vs).set i .non := rfl
@[simp] theorem sts_nil : sts [] = some [] := rfl
@[simp] theorem sts_cons {as : List AV} : sts (.dat d :: as) = (sts as).map (d :: ·) := by
  have : sts (.dat d :: as) = match AV.st (.dat d), sts as with
    | some d, some ds => some (d :: ds)
    | _, _ => none := rfl
  rw [this]
  cases sts as <;> rfl
@[simp] theorem wks_nil : wks ρ [] = some [] := rfl
@[simp] theorem wks_dat {as : List AV} : wks ρ (.dat d :: as) = (wks ρ as).map (d :: ·) := by
  have : wks ρ (.dat d :: as) = match AV.wk ρ (.dat d), wks ρ as with
    | some d, some ds => some (d :: ds)
    | _, _ => none := rfl
  rw [this]
  cases wks ρ as <;> rfl
@[simp] theorem wks_pk {as : List AV} : wks ρ (.pk i :: as) = (fzs ρ i).bind fun d => (wks ρ as).map (d :: ·) := by
  rw [wks, wk_pk]
  cases fzs ρ i with
  | none => rfl
  | some d => cases wks ρ as <;> rfl
@[simp] theorem lent_nil : lentOf [] = [] := rfl
@[simp] theorem lent_dat {as : List AV} : lentOf (.dat d :: as) = lentOf as := rfl
@[simp] theorem lent_pk {as : List AV} : lentOf (.pk i :: as) = i :: lentOf as := rfl
@[simp] theorem argTs_nil : argTs ρ [] = some [] := rfl
@[simp] theorem argTs_dat {as : List AV} : argTs ρ (.dat d :: as) = (argTs ρ as).map (.sh d :: ·) := by
  rw [argTs]
  simp only [argT]
  cases argTs ρ as <;> rfl
def lstAt (ρ : Env) (i : Nat) : Option (List OT) := match ρ[i]? with
  | some (.val _ (.lst ts)) => some ts
  | _ => none
theorem lstAt_0 : lstAt (.val b (.lst ts) :: ρ) 0 = some ts := rfl
theorem lstAt_1 : lstAt (s :: ρ) (i + 1) = lstAt ρ i := rfl
@[simp] theorem argT_0 : argT (.val b (.lst ts) :: ρ) (.pk 0) = some (.lst ts) := rfl
@[simp] theorem argT_1 : argT (s :: ρ) (.pk (i + 1)) = argT ρ (.pk i) := rfl
@[simp] theorem argTs_pk {as : List AV} : argTs ρ (.pk i :: as) = (argT ρ (.pk i)).bind fun t => (argTs ρ as).map (t :: ·) := by
  rw [argTs]
  cases argT ρ (.pk i) with
  | none => rfl
  | some d => cases argTs ρ as <;> rfl
@[simp] theorem backT_nil : backT ρ [] [] = some ρ := rfl
@[simp] theorem backT_dat {as : List AV} {t : OT} : backT ρ (.dat d :: as) (t :: ts) = backT ρ as ts := rfl
def bkAt : Env → Nat → OT → Option Env
  | .val b _ :: ρ, 0, t => some (.val b t :: ρ)
  | s :: ρ, i + 1, t => (bkAt ρ i t).map (s :: ·)
  | _, _, _ => none
@[simp] theorem bkAt_0 {u : OT} : bkAt (.val b u :: ρ) 0 t = some (.val b t :: ρ) := by rw [bkAt]
@[simp] theorem bkAt_1 : bkAt (s :: ρ) (i + 1) t = (bkAt ρ i t).map (s :: ·) := by rw [bkAt]
theorem bkAt_ok : ∀ {ρ : Env} {i : Nat} {t : OT}, bkAt ρ i t = match ρ[i]? with
    | some (.val b _) => some (ρ.set i (.val b t))
    | _ => none
  | [], _, _ => by rw [bkAt] <;> simp
  | .non :: ρ, 0, t => by rw [bkAt] <;> simp
  | .val b u :: ρ, 0, t => by rw [bkAt]; simp
  | s :: ρ, i + 1, t => by
    rw [bkAt_1, bkAt_ok, List.getElem?_cons_succ]
    cases ρ[i]? with
    | none => rfl
    | some u => cases u <;> rfl
@[simp] theorem backT_pk {as : List AV} : backT ρ (.pk i :: as) (t :: ts) = (bkAt ρ i t).bind fun ρ' => backT ρ' as ts := by
  rw [backT, bkAt_ok]
  cases ρ[i]? with
  | none => rfl
  | some u => cases u <;> rfl
end
@[simp] theorem eq_str {a b : Str} : C2.b .eq (.str a) (.str b) = some (decide (a = b)) := rfl
@[simp] theorem eq_int {a b : Int} : C2.b .eq (.int a) (.int b) = some (decide (a = b)) := rfl
@[simp] theorem eq_bool {a b : Bool} : C2.b .eq (.bool a) (.bool b) = some (decide (a = b)) := rfl
@[simp] theorem ne_str {a b : Str} : C2.b .ne (.str a) (.str b) = some (!decide (a = b)) := rfl
@[simp] theorem ne_int {a b : Int} : C2.b .ne (.int a) (.int b) = some (!decide (a = b)) := rfl
@[simp] theorem lt_int {a b : Int} : C2.b .lt (.int a) (.int b) = some (decide (a < b)) := rfl
@[simp] theorem le_int {a b : Int} : C2.b .le (.int a) (.int b) = some (decide (a ≤ b)) := rfl
@[simp] theorem gt_int {a b : Int} : C2.b .gt (.int a) (.int b) = some (decide (b < a)) := rfl
@[simp] theorem ge_int {a b : Int} : C2.b .ge (.int a) (.int b) = some (decide (b ≤ a)) := rfl
@[simp] theorem add_int {a b : Int} : O2.f .add (.int a) (.int b) = some (.int (a + b)) := rfl
@[simp] theorem sub_int {a b : Int} : O2.f .sub (.int a) (.int b) = some (.int (a - b)) := rfl
@[simp] theorem mul_int {a b : Int} : O2.f .mul (.int a) (.int b) = if mulOk a b then some (.int (a * b)) else none := rfl
@[simp] theorem mod_int {a b : Int} : O2.f .mod (.int a) (.int b) = if 0 < b then some (.int (a % b)) else none := rfl
@[simp] theorem fdiv_int {a b : Int} : O2.f .fdiv (.int a) (.int b) = if 0 < b ∧ Builtin.divisionGoesByPylong a b = false then some (.int (a / b)) else none := rfl
@[simp] theorem add_lst {a b : List D} : O2.f .add (.list a) (.list b) = if a.length + b.length ≤ sizeLine then some (.list (a ++ b)) else none := rfl
@[simp] theorem add_tup {a b : List D} : O2.f .add (.tuple a) (.tuple b) = if a.length + b.length ≤ sizeLine then some (.tuple (a ++ b)) else none := rfl
theorem mem_str {x : Str} {ys : List Str} : C2.b .isin (.str x) (.tuple (ys.map .str)) = some (ys.any fun y => decide (y = x)) := by
  have : C2.b .isin (.str x) (.tuple (ys.map .str)) = if flatD (.str x) = true ∧ (ys.map PyData.str).all flatD = true then some (inD (.str x) (ys.map .str)) else none := rfl
  rw [this]
  rw [if_pos ⟨rfl, by rw [List.all_map]; exact List.all_eq_true.mpr fun _ _ => rfl⟩]
  unfold inD
  rw [List.any_map]
  congr 1
@[simp] theorem mem_str2 {x a b : Str} : C2.b .isin (.str x) (.tuple [.str a, .str b]) = some (decide (a = x) || decide (b = x)) := by
  have := @mem_str x [a, b]
  simpa using this
@[simp] theorem mem_str3 {x a b c : Str} : C2.b .isin (.str x) (.tuple [.str a, .str b, .str c]) = some (decide (a = x) || (decide (b = x) || decide (c = x))) := by
  have := @mem_str x [a, b, c]
  simpa using this
@[simp] theorem tru_bool {b : Bool} : truD (.bool b) = some b := rfl
theorem mul_ok1 {a b : Int} (h : a.natAbs < 2 ^ 64) : mulOk a b = true := by
  unfold mulOk
  rw [decide_eq_true h]; rfl
theorem mul_ok2 {a b : Int} (h : b.natAbs < 2 ^ 64) : mulOk a b = true := by
  unfold mulOk
  rw [decide_eq_true h, Bool.or_true]; rfl
theorem div_ok {a b : Int} (h0 : 0 ≤ b) (h : b < 1073741824) : Builtin.divisionGoesByPylong a b = false := by
  unfold Builtin.divisionGoesByPylong
  rw [Bool.and_eq_false_iff]
  left
  rw [decide_eq_false_iff_not]
  show ¬ ((if (b == 0) = true then 0 else b.natAbs.log2 / 30 + 1) > 300)
  split
  · omega
  · rename_i hb
    have hne : b.natAbs ≠ 0 := by
      intro e
      apply hb
      rw [beq_iff_eq]
      omega
    have : b.natAbs.log2 < 30 := (Nat.log2_lt hne).mpr (by omega)
    omega
@[simp] theorem ix_dat {ρ : Env} {d i : D} : AV.ix ρ (.dat d) i = ixD d i := rfl
@[simp] theorem ixD_list {xs : List D} {i : Int} : ixD (.list xs) (.int i) = atI xs i := rfl
@[simp] theorem ixD_tup {xs : List D} {i : Int} : ixD (.tuple xs) (.int i) = atI xs i := rfl
@[simp] theorem slots_one {i : Nat} : (Tg.one i).slots = [i] := rfl
@[simp] theorem slots_tup {is : List Nat} : (Tg.tup is).slots = is := rfl
@[simp] theorem ix_pk {ρ : Env} {i : Nat} {d : D} : AV.ix ρ (.pk i) d = match ρ[i]? with
    | some (.val _ (.sh e)) => ixD e d
    | some (.val _ (.lst ts)) => match d with
      | .int n => match atI ts n with
        | some (.sh d) => some d
        | _ => none
      | _ => none
    | _ => none := rfl
@[simp] theorem endE_nil {ρ : Env} {i : Nat} : endE ρ [] i = some [] := rfl
@[simp] theorem endE_f {ρ : Env} {bs : List Bool} {i : Nat} : endE ρ (false :: bs) i = (endE ρ bs (i + 1)).map (.sh .none :: ·) := rfl
@[simp] theorem endE_t {ρ : Env} {bs : List Bool} {t : OT} : endE (.val true t :: ρ) (true :: bs) 0 = (endE (.val true t :: ρ) bs 1).map (t :: ·) := rfl
/-! the same, with the state apart -/
inductive Tag3 {α β : Type} (Q : α → β → Prop) : Type
  | mk
def Wr {α β : Type} (o : Option (α × β)) (Q : α → β → Prop) (_T : Tag3 Q := .mk) : Prop := Wo o fun p => Q p.1 p.2
section
variable {α β γ : Type} {Q : α → β → Prop}
@[simp ↓] theorem Wr_some {a : α} {b : β} : Wr (some (a, b)) Q ↔ Q a b := Wo_some
@[simp ↓] theorem Wr_none : Wr none Q ↔ False := Wo_none
@[simp ↓] theorem Wr_ite {c : Prop} [Decidable c] {o : Option (α × β)} : Wr (if c then o else none) Q ↔ c ∧ Wr o Q := Wo_ite
@[simp ↓] theorem Wr_map {o : Option γ} {f : γ → α × β} : Wr (o.map f) Q ↔ Wo o fun b => Q (f b).1 (f b).2 := Wo_map
@[simp ↓] theorem Wr_mapr {o : Option (α × β)} {δ ε : Type} {Q : δ → ε → Prop} {f : α × β → δ × ε} : Wr (o.map f) Q ↔ Wr o fun a b => Q (f (a, b)).1 (f (a, b)).2 := Wo_map
@[simp ↓] theorem Wr_giv {o : Option α} {ρ : Env} {Q : α → Env → Prop} : Wr (giv o ρ) Q ↔ Wo o fun a => Q a ρ := Wo_giv
@[simp ↓] theorem Wr_bnd {m : Res γ} {f : γ → Env → Option (α × β)} : Wr (bnd m f) Q ↔ Wr m fun x ρ => Wr (f x ρ) Q := Wo_bnd
theorem Wr_mono {Q' : α → β → Prop} {o : Option (α × β)} (h : Wr o Q) (g : ∀ a b, Q a b → Q' a b) : Wr o Q' := Wo_mono h fun a => g a.1 a.2
theorem Wr_eq {o : Option (α × β)} {a : α} {b : β} (e : o = some (a, b)) (q : Q a b) : Wr o Q := ⟨(a, b), e, q⟩
end
section
variable {cl : Cl} {ρ : Env} {Q : AV → Env → Prop} {a b c e : Ex} {es : Exs} {lo hi : Eo}
@[simp ↓] theorem r_w_var {i : Nat} : Wr (evE cl (.var i) ρ) Q ↔ Wr (rdVar i ρ) fun p pρ => Q (.dat p) pρ := w_var (Q := fun p => Q p.1 p.2)
@[simp ↓] theorem r_w_pk {i : Nat} : Wr (evE cl (.pk i) ρ) Q ↔ hasV ρ i = true ∧ Q (.pk i) ρ := w_pk (Q := fun p => Q p.1 p.2)
@[simp ↓] theorem r_w_non : Wr (evE cl .non ρ) Q ↔ Q (.dat .none) ρ := w_non (Q := fun p => Q p.1 p.2)
@[simp ↓] theorem r_w_bl {k : Bool} : Wr (evE cl (.bl k) ρ) Q ↔ Q (.dat (.bool k)) ρ := w_bl (Q := fun p => Q p.1 p.2)
@[simp ↓] theorem r_w_int {k : Int} : Wr (evE cl (.int k) ρ) Q ↔ Q (.dat (.int k)) ρ := w_int (Q := fun p => Q p.1 p.2)
@[simp ↓] theorem r_w_str {k : Str} : Wr (evE cl (.str k) ρ) Q ↔ Q (.dat (.str k)) ρ := w_str (Q := fun p => Q p.1 p.2)
@[simp ↓] theorem r_w_op {o : O2} : Wr (evE cl (.op o a b) ρ) Q ↔ Wr (evE cl a ρ) fun x xρ => Wr (evE cl b xρ) fun y yρ => Wo x.st fun d => Wo y.st fun e => Wo (o.f d e) fun r => Q (.dat r) yρ := w_op (Q := fun p => Q p.1 p.2)
@[simp ↓] theorem r_w_cmp {o : C2} : Wr (evE cl (.cmp o a b) ρ) Q ↔ Wr (evE cl a ρ) fun x xρ => Wr (evE cl b xρ) fun y yρ => Wo (x.wk yρ) fun d => Wo (y.wk yρ) fun e => Wo (o.b d e) fun r => Q (.dat (.bool r)) yρ := w_cmp (Q := fun p => Q p.1 p.2)
@[simp ↓] theorem r_w_chain {o o' : C2} : Wr (evE cl (.chain o o' a b c) ρ) Q ↔ Wr (evE cl a ρ) fun x xρ => Wr (evE cl b xρ) fun y yρ => Wo x.st fun d => Wo y.st fun e => Wo (o.b d e) fun k => Br k (Wr (evE cl c yρ) fun z zρ => Wo z.st fun f => Wo (o'.b e f) fun r => Q (.dat (.bool r)) zρ) (Q (.dat (.bool false)) yρ) := w_chain (Q := fun p => Q p.1 p.2)
@[simp ↓] theorem r_w_neg : Wr (evE cl (.neg a) ρ) Q ↔ Wr (evE cl a ρ) fun x xρ => AI x fun k => Q (.dat (.int (-k))) xρ := w_neg (Q := fun p => Q p.1 p.2)
@[simp ↓] theorem r_w_last : Wr (evE cl (.last a) ρ) Q ↔ Wr (evE cl a ρ) Q := w_last (Q := fun p => Q p.1 p.2)
@[simp ↓] theorem r_w_and : Wr (evE cl (.and a b) ρ) Q ↔ Wr (evE cl a ρ) fun x xρ => AB x fun k => Br k (Wr (evE cl b xρ) Q) (Q (.dat (.bool false)) xρ) := w_and (Q := fun p => Q p.1 p.2)
@[simp ↓] theorem r_w_or : Wr (evE cl (.or a b) ρ) Q ↔ Wr (evE cl a ρ) fun x xρ => AB x fun k => Br k (Q (.dat (.bool true)) xρ) (Wr (evE cl b xρ) Q) := w_or (Q := fun p => Q p.1 p.2)
@[simp ↓] theorem r_w_not : Wr (evE cl (.not a) ρ) Q ↔ Wr (evE cl a ρ) fun x xρ => AB x fun k => Q (.dat (.bool (!k))) xρ := w_not (Q := fun p => Q p.1 p.2)
@[simp ↓] theorem r_w_ite : Wr (evE cl (.ite c a b) ρ) Q ↔ Wr (evT cl c ρ) fun x xρ => Br x (Wr (evE cl a xρ) Q) (Wr (evE cl b xρ) Q) := w_ite (Q := fun p => Q p.1 p.2)
@[simp ↓] theorem r_w_ix : Wr (evE cl (.ix a b) ρ) Q ↔ Wr (evE cl a ρ) fun x xρ => Wr (evE cl b xρ) fun y yρ => Wo y.st fun i => Wo (x.ix yρ i) fun r => Q (.dat r) yρ := w_ix (Q := fun p => Q p.1 p.2)
@[simp ↓] theorem r_w_sl : Wr (evE cl (.sl a lo hi) ρ) Q ↔ Wr (evE cl a ρ) fun x xρ => Wr (evO cl lo xρ) fun l lρ => Wr (evO cl hi lρ) fun h hρ => Wo x.st fun d => Wo (slD d l h) fun r => Q (.dat r) hρ := w_sl (Q := fun p => Q p.1 p.2)
@[simp ↓] theorem r_w_lst : Wr (evE cl (.lst es) ρ) Q ↔ Wr (evEs cl es ρ) fun x xρ => Wo (lstD x) fun ds => Q (.dat (.list ds)) xρ := w_lst (Q := fun p => Q p.1 p.2)
@[simp ↓] theorem r_w_tup : Wr (evE cl (.tup es) ρ) Q ↔ Wr (evEs cl es ρ) fun x xρ => Wo (sts x) fun ds => ds.length ≤ sizeLine ∧ Q (.dat (.tuple ds)) xρ := w_tup (Q := fun p => Q p.1 p.2)
@[simp ↓] theorem r_w_rep : Wr (evE cl (.rep a b) ρ) Q ↔ Wr (evE cl a ρ) fun x xρ => Wr (evE cl b xρ) fun y yρ => Wo (repD x y) fun ds => Q (.dat (.list ds)) yρ := w_rep (Q := fun p => Q p.1 p.2)
@[simp ↓] theorem r_w_bs {f : Bs} : Wr (evE cl (.bs f es) ρ) Q ↔ Wr (evEs cl es ρ) fun x xρ => Wo (wks xρ x) fun ds => Wo (f.f ds) fun r => Q (.dat r) xρ := w_bs (Q := fun p => Q p.1 p.2)
@[simp ↓] theorem r_w_bn {f : Bn} : Wr (evE cl (.bn f es) ρ) Q ↔ Wr (evEs cl es ρ) fun x xρ => Wo (sts x) fun ds => Wo (f.f ds) fun r => Q (.dat r) xρ := w_bn (Q := fun p => Q p.1 p.2)
@[simp ↓] theorem r_w_call {f : Nat} : Wr (evE cl (.call f es) ρ) Q ↔ Wr (evEs cl es ρ) fun x xρ => (lentOf x).Nodup ∧ Wo (argTs xρ x) fun ts => Wr (cl f ts) fun r rρ => Wo r.fz fun d => Wo (backT xρ x rρ) fun ρ' => Q (.dat d) ρ' := w_call (Q := fun p => Q p.1 p.2)
@[simp ↓] theorem r_w_lset : Wr (evE cl (.lset a) ρ) Q ↔ Wr (evE cl a ρ) fun x xρ => AL x fun xs => Wo (boolsOf xs) fun bs => Q (.dat (.int (cntB bs : Nat))) xρ := w_lset (Q := fun p => Q p.1 p.2)
@[simp ↓] theorem r_w_lrg : Wr (evE cl (.lrg a) ρ) Q ↔ Wr (evE cl a ρ) fun x xρ => AI x fun n => (rngOk n = true ∧ n ≤ 16777216) ∧ Q (.dat (.list (rangeD 0 n))) xρ := w_lrg (Q := fun p => Q p.1 p.2)
@[simp ↓] theorem r_w_gdx {x : Str} {kvs : List (Str × Option Str)} : Wr (evE cl (.gdx x kvs a) ρ) Q ↔ Wr (evE cl a ρ) fun y yρ => AS y fun z => Wo (kvs.lookup z) fun o => Wo o fun u => Q (.dat (.str u)) yρ := w_gdx (Q := fun p => Q p.1 p.2)
@[simp ↓] theorem r_w_gdin {n : Bool} {x : Str} {kvs : List (Str × Option Str)} : Wr (evE cl (.gdin n x kvs a) ρ) Q ↔ Wr (evE cl a ρ) fun y yρ => AS y fun z => Wo (kvs.lookup z) fun o => Q (.dat (.bool (if n = true then !o.isSome else o.isSome))) yρ := w_gdin (Q := fun p => Q p.1 p.2)
@[simp ↓] theorem r_w_dix {ks : List Str} : Wr (evE cl (.dix ks es a) ρ) Q ↔ Wr (evEs cl es ρ) fun x xρ => Wr (evE cl a xρ) fun y yρ => AS y fun z => Wo (dctD ks x) fun kds => Wo (atD kds (.inr z)) fun d => Q (.dat d) yρ := w_dix (Q := fun p => Q p.1 p.2)
@[simp ↓] theorem r_w_pop {i : Nat} : Wr (evE cl (.pop i) ρ) Q ↔ Wr (match ρ[i]? with
    | some (.val b (.lst ts)) => match ts.getLast? with
      | some (.sh d) => some (AV.dat d, ρ.set i (.val b (.lst ts.dropLast)))
      | _ => none
    | _ => none) Q := w_pop (Q := fun p => Q p.1 p.2)
@[simp ↓] theorem r_w_popi {i : Nat} : Wr (evE cl (.popi i e) ρ) Q ↔ isLst ρ i = true ∧ Wr (evE cl e ρ) fun x xρ => Wr (match x, xρ[i]? with
      | .dat (.int k), some (.val b (.lst ts)) => if rngOk k = true then match ixN ts.length k with
        | some j => match ts[j]? with
          | some (.sh d) => some (AV.dat d, xρ.set i (.val b (.lst (ts.eraseIdx j))))
          | _ => none
        | none => none
        else none
      | _, _ => none) Q := w_popi (Q := fun p => Q p.1 p.2)
@[simp ↓] theorem r_w_dget {i : Nat} : Wr (evE cl (.dget i a) ρ) Q ↔ isDct ρ i = true ∧ Wr (evE cl a ρ) fun y yρ => Wr (match y, yρ[i]? with
    | .dat (.str z), some (.val _ (.dK kds)) => giv ((atD kds (.inr z)).map .dat) yρ
    | _, _ => none) Q := w_dget (Q := fun p => Q p.1 p.2)
@[simp ↓] theorem r_w_din {n : Bool} {i : Nat} : Wr (evE cl (.din n i a) ρ) Q ↔ Wr (evE cl a ρ) fun y yρ => Wr (match y, yρ[i]? with
    | .dat (.str z), some (.val _ (.dK kds)) => some (AV.dat (.bool (if n = true then !(atD kds (.inr z)).isSome else (atD kds (.inr z)).isSome)), yρ)
    | _, _ => none) Q := w_din (Q := fun p => Q p.1 p.2)
end
section
variable {cl : Cl} {ρ : Env} {e : Ex} {es : Exs} {Q : List AV → Env → Prop}
@[simp ↓] theorem r_w_nils  : Wr (evEs cl .nil ρ) Q ↔ Q [] ρ := w_nils (Q := fun p => Q p.1 p.2)
@[simp ↓] theorem r_w_cons  : Wr (evEs cl (.cons e es) ρ) Q ↔ Wr (evE cl e ρ) fun x xρ => Wr (evEs cl es xρ) fun xs xsρ => Q (x :: xs) xsρ := w_cons (Q := fun p => Q p.1 p.2)
end
section
variable {cl : Cl} {ρ : Env} {a b c e : Ex} {es : Exs} {lo hi : Eo}
@[simp ↓] theorem r_w_no {Q : Option Int → Env → Prop} : Wr (evO cl .no ρ) Q ↔ Q none ρ := w_no (Q := fun p => Q p.1 p.2)
@[simp ↓] theorem r_w_yes {Q : Option Int → Env → Prop} : Wr (evO cl (.yes e) ρ) Q ↔ Wr (evE cl e ρ) fun x xρ => AI x fun k => Q (some k) xρ := w_yes (Q := fun p => Q p.1 p.2)
@[simp ↓] theorem r_wc_no {Q : Bool → Env → Prop} : Wr (evC cl .no ρ) Q ↔ Q true ρ := wc_no (Q := fun p => Q p.1 p.2)
@[simp ↓] theorem r_wc_yes {Q : Bool → Env → Prop} : Wr (evC cl (.yes e) ρ) Q ↔ Wr (evT cl e ρ) Q := wc_yes (Q := fun p => Q p.1 p.2)
@[simp ↓] theorem r_wt_and {Q : Bool → Env → Prop} : Wr (evT cl (.and a b) ρ) Q ↔ Wr (evT cl a ρ) fun x xρ => Br x (Wr (evT cl b xρ) Q) (Q false xρ) := wt_and (Q := fun p => Q p.1 p.2)
@[simp ↓] theorem r_wt_or {Q : Bool → Env → Prop} : Wr (evT cl (.or a b) ρ) Q ↔ Wr (evT cl a ρ) fun x xρ => Br x (Q true xρ) (Wr (evT cl b xρ) Q) := wt_or (Q := fun p => Q p.1 p.2)
@[simp ↓] theorem r_wt_not {Q : Bool → Env → Prop} : Wr (evT cl (.not a) ρ) Q ↔ Wr (evT cl a ρ) fun x xρ => Q (!x) xρ := wt_not (Q := fun p => Q p.1 p.2)
@[simp ↓] theorem r_wt_last {Q : Bool → Env → Prop} : Wr (evT cl (.last a) ρ) Q ↔ Wr (evT cl a ρ) Q := wt_last (Q := fun p => Q p.1 p.2)
@[simp ↓] theorem r_wt_cmp {o : C2} {Q : Bool → Env → Prop} : Wr (evT cl (.cmp o a b) ρ) Q ↔ Wr (evE cl (.cmp o a b) ρ) fun x xρ => Wo (x.wk xρ) fun d => Wo (truD d) fun k => Q k xρ := wt_cmp (Q := fun p => Q p.1 p.2)
@[simp ↓] theorem r_wt_chain {o o' : C2} {Q : Bool → Env → Prop} : Wr (evT cl (.chain o o' a b c) ρ) Q ↔ Wr (evE cl (.chain o o' a b c) ρ) fun x xρ => Wo (x.wk xρ) fun d => Wo (truD d) fun k => Q k xρ := wt_chain (Q := fun p => Q p.1 p.2)
@[simp ↓] theorem r_wt_var {i : Nat} {Q : Bool → Env → Prop} : Wr (evT cl (.var i) ρ) Q ↔ Wr (evE cl (.var i) ρ) fun x xρ => Wo (x.wk xρ) fun d => Wo (truD d) fun k => Q k xρ := wt_var (Q := fun p => Q p.1 p.2)
@[simp ↓] theorem r_wt_call {f : Nat} {Q : Bool → Env → Prop} : Wr (evT cl (.call f es) ρ) Q ↔ Wr (evE cl (.call f es) ρ) fun x xρ => Wo (x.wk xρ) fun d => Wo (truD d) fun k => Q k xρ := wt_call (Q := fun p => Q p.1 p.2)
@[simp ↓] theorem r_wt_bs {f : Bs} {Q : Bool → Env → Prop} : Wr (evT cl (.bs f es) ρ) Q ↔ Wr (evE cl (.bs f es) ρ) fun x xρ => Wo (x.wk xρ) fun d => Wo (truD d) fun k => Q k xρ := wt_bs (Q := fun p => Q p.1 p.2)
@[simp ↓] theorem r_wt_din {n : Bool} {i : Nat} {Q : Bool → Env → Prop} : Wr (evT cl (.din n i a) ρ) Q ↔ Wr (evE cl (.din n i a) ρ) fun x xρ => Wo (x.wk xρ) fun d => Wo (truD d) fun k => Q k xρ := wt_din (Q := fun p => Q p.1 p.2)
@[simp ↓] theorem r_wt_gdin {n : Bool} {y : Str} {kvs : List (Str × Option Str)} {Q : Bool → Env → Prop} : Wr (evT cl (.gdin n y kvs a) ρ) Q ↔ Wr (evE cl (.gdin n y kvs a) ρ) fun x xρ => Wo (x.wk xρ) fun d => Wo (truD d) fun k => Q k xρ := wt_gdin (Q := fun p => Q p.1 p.2)
@[simp ↓] theorem r_wi_seq {Q : List D → Env → Prop} : Wr (evI cl (.seq a) ρ) Q ↔ Wr (evE cl a ρ) fun x xρ => Wo x.st fun d => Wo (itemsOf d) fun xs => Q xs xρ := wi_seq (Q := fun p => Q p.1 p.2)
@[simp ↓] theorem r_wi_rng {Q : List D → Env → Prop} : Wr (evI cl (.rng a) ρ) Q ↔ Wr (evE cl a ρ) fun x xρ => AI x fun n => rngOk n = true ∧ Q (rangeD 0 n) xρ := wi_rng (Q := fun p => Q p.1 p.2)
@[simp ↓] theorem r_wi_enum {Q : List D → Env → Prop} : Wr (evI cl (.enum a) ρ) Q ↔ Wr (evE cl a ρ) fun x xρ => Wo x.st fun d => Wo (itemsOf d) fun xs => Q (enumD xs) xρ := wi_enum (Q := fun p => Q p.1 p.2)
@[simp ↓] theorem r_wi_zip {Q : List D → Env → Prop} : Wr (evI cl (.zip a b) ρ) Q ↔ Wr (evE cl a ρ) fun x xρ => Wr (evE cl b xρ) fun y yρ => AL x fun xs => AL y fun ys => Q (zipD xs ys) yρ := wi_zip (Q := fun p => Q p.1 p.2)
end
section
variable {cl : Cl} {fu : Nat} {ρ : Env} {Q : Fl → Prop} {e c k : Ex} {es : Exs} {a b : St}
@[simp ↓] theorem r_s_nil : Wo (evS cl fu .nil ρ) Q ↔ Q (.nx ρ) := s_nil
@[simp ↓] theorem r_s_seq : Wo (evS cl fu (.seq a b) ρ) Q ↔ Wo (evS cl fu a ρ) fun r => nxT r (fun ρ1 => Wo (evS cl fu b ρ1) Q) Q := s_seq
@[simp ↓] theorem r_s_retv {i : Nat} : Wo (evS cl fu (.ret (.var i)) ρ) Q ↔ Wo (match ρ[i]? with
    | some (.val false t) => some (Fl.ret t (ρ.set i .non))
    | some (.val true (.sh d)) => some (.ret (.sh d) ρ)
    | _ => none) Q := s_retv
theorem r_s_ret (h : notVar e = true) : Wo (evS cl fu (.ret e) ρ) Q ↔ Wr (evE cl e ρ) fun x xρ => Wo x.st fun d => Q (.ret (.sh d) xρ) := s_ret h
@[simp ↓] theorem r_s_retN : Wo (evS cl fu .retN ρ) Q ↔ Q (.ret (.sh .none) ρ) := s_retN
@[simp ↓] theorem r_s_ex : Wo (evS cl fu (.ex e) ρ) Q ↔ Wr (evE cl e ρ) fun x xρ => Q (.nx xρ) := s_ex
@[simp ↓] theorem r_s_asg {t : Tg} : Wo (evS cl fu (.asg t e) ρ) Q ↔ Wr (evE cl e ρ) fun x xρ => Wo x.st fun d => Wo (tgE xρ t d) fun ρ' => Q (.nx ρ') := s_asg
@[simp ↓] theorem r_s_own {i : Nat} : Wo (evS cl fu (.own i e) ρ) Q ↔ Wr (evOwn cl e ρ) fun x xρ => (i < xρ.length ∧ isLent xρ i = false) ∧ Q (.nx (xρ.set i (.val false x))) := s_own
@[simp ↓] theorem r_s_par {is : List Nat} : Wo (evS cl fu (.par is es) ρ) Q ↔ Wr (evEs cl es ρ) fun x xρ => Wo (sts x) fun ds => Wo (putsE xρ is ds) fun ρ' => Q (.nx ρ') := s_par
@[simp ↓] theorem r_s_ifs : Wo (evS cl fu (.ifs c a b) ρ) Q ↔ Wr (evT cl c ρ) fun x xρ => Br x (Wo (evS cl fu a xρ) Q) (Wo (evS cl fu b xρ) Q) := s_ifs
@[simp ↓] theorem r_s_for {t : Tg} {it : It} : Wo (evS cl fu (.for_ t it b) ρ) Q ↔ Wr (evI cl it ρ) fun x xρ => Wo (forE (evS cl fu b) t x xρ) Q := s_for
@[simp ↓] theorem r_s_whl : Wo (evS cl fu (.whl c b) ρ) Q ↔ Wo (whlE (evT cl c) (evS cl fu b) fu ρ) Q := s_whl
@[simp ↓] theorem r_s_reto : Wo (evS cl fu (.reto e) ρ) Q ↔ Wr (evOwn cl e ρ) fun x xρ => Q (.ret x xρ) := s_reto
@[simp ↓] theorem r_s_aug {i : Nat} {o : O2} : Wo (evS cl fu (.aug i o e) ρ) Q ↔ Wr (rdVar i ρ) fun p pρ => Wr (evE cl e pρ) fun x xρ => Wo (match p, x with
    | .int a, .dat (.int b) => match o with
      | .add => (putE xρ i (.int (a + b))).map Fl.nx
      | .sub => (putE xρ i (.int (a - b))).map .nx
      | _ => none
    | _, _ => none) Q := s_aug
@[simp ↓] theorem r_s_setix {i : Nat} : Wo (evS cl fu (.setix i k e) ρ) Q ↔ Wr (evE cl e ρ) fun x xρ => isLst xρ i = true ∧ Wr (evE cl k xρ) fun y yρ => Wo (match x, y, yρ[i]? with
      | .dat d, .dat (.int n), some (.val b (.lst ts)) => match ixN ts.length n with
        | some j => some (Fl.nx (yρ.set i (.val b (.lst (ts.set j (.sh d))))))
        | none => none
      | _, _, _ => none) Q := s_setix
@[simp ↓] theorem r_s_app {i : Nat} : Wo (evS cl fu (.app i e) ρ) Q ↔ isLst ρ i = true ∧ Wr (evE cl e ρ) fun x xρ => Wo (match x, xρ[i]? with
      | .dat d, some (.val b (.lst ts)) => if ts.length < sizeLine then some (Fl.nx (xρ.set i (.val b (.lst (ts ++ [.sh d]))))) else none
      | _, _ => none) Q := s_app
@[simp ↓] theorem r_s_ext {i : Nat} : Wo (evS cl fu (.ext i e) ρ) Q ↔ isLst ρ i = true ∧ Wr (evE cl e ρ) fun x xρ => Wo (match x, xρ[i]? with
      | .dat (.list ds), some (.val b (.lst ts)) => if ts.length + ds.length ≤ sizeLine then some (Fl.nx (xρ.set i (.val b (.lst (ts ++ ds.map .sh))))) else none
      | _, _ => none) Q := s_ext
@[simp ↓] theorem r_s_dset2 {i : Nat} {k1 k2 : Str} : Wo (evS cl fu (.dset2 i k1 k2 e) ρ) Q ↔ Wr (evE cl e ρ) fun x xρ => Wo (match x, xρ[i]? with
    | .dat (.tuple [d1, d2]), some (.val b (.dK kds)) => if kds.length + 2 ≤ sizeLine then some (Fl.nx (xρ.set i (.val b (.dK (putD (putD kds (.inr k1) d1) (.inr k2) d2))))) else none
    | _, _ => none) Q := s_dset2
@[simp ↓] theorem r_s_setx2 {i j : Nat} {n : Int} : Wo (evS cl fu (.setx2 i n j e) ρ) Q ↔ Wr (evE cl e ρ) fun x xρ => Wo (match x, xρ[i]? with
    | .dat (.tuple [d1, d2]), some (.val b (.lst ts)) => match ixN ts.length n with
      | some m => (putE (xρ.set i (.val b (.lst (ts.set m (.sh d1))))) j d2).map Fl.nx
      | none => none
    | _, _ => none) Q := s_setx2
end
section
variable {cl : Cl} {ρ : Env} {Q : OT → Env → Prop} {e a b : Ex} {es : Exs} {lo hi : Eo}
@[simp ↓] theorem r_o_lst : Wr (evOwn cl (.lst es) ρ) Q ↔ Wr (evEs cl es ρ) fun x xρ => Wo (lstD x) fun ds => Q (.lst (ds.map .sh)) xρ := o_lst (Q := fun p => Q p.1 p.2)
@[simp ↓] theorem r_o_comp {t : Tg} {it : It} {k : Eo} : Wr (evOwn cl (.comp t it k e) ρ) Q ↔ Wr (evE cl (.comp t it k e) ρ) fun x xρ => AL x fun ds => Q (.lst (ds.map .sh)) xρ := o_comp (Q := fun p => Q p.1 p.2)
@[simp ↓] theorem r_o_sl : Wr (evOwn cl (.sl a lo hi) ρ) Q ↔ Wr (evE cl (.sl a lo hi) ρ) fun x xρ => AL x fun ds => Q (.lst (ds.map .sh)) xρ := o_sl (Q := fun p => Q p.1 p.2)
@[simp ↓] theorem r_o_add : Wr (evOwn cl (.op .add a b) ρ) Q ↔ Wr (evE cl (.op .add a b) ρ) fun x xρ => AL x fun ds => Q (.lst (ds.map .sh)) xρ := o_add (Q := fun p => Q p.1 p.2)
@[simp ↓] theorem r_o_list : Wr (evOwn cl (.bn .list es) ρ) Q ↔ Wr (evE cl (.bn .list es) ρ) fun x xρ => AL x fun ds => Q (.lst (ds.map .sh)) xρ := o_list (Q := fun p => Q p.1 p.2)
@[simp ↓] theorem r_o_lrg : Wr (evOwn cl (.lrg a) ρ) Q ↔ Wr (evE cl (.lrg a) ρ) fun x xρ => AL x fun ds => Q (.lst (ds.map .sh)) xρ := o_lrg (Q := fun p => Q p.1 p.2)
@[simp ↓] theorem r_o_dct {ks : List Str} : Wr (evOwn cl (.dct ks es) ρ) Q ↔ Wr (evEs cl es ρ) fun x xρ => Wo (dctD ks x) fun ds => Q (.dK ds) xρ := o_dct (Q := fun p => Q p.1 p.2)
@[simp ↓] theorem r_o_call {f : Nat} : Wr (evOwn cl (.call f es) ρ) Q ↔ Wr (evEs cl es ρ) fun x xρ => (lentOf x).Nodup ∧ Wo (argTs xρ x) fun ts => Wr (cl f ts) fun r rρ => Wo (backT xρ x rρ) fun ρ' => Q r ρ' := o_call (Q := fun p => Q p.1 p.2)
end
section
@[simp ↓] theorem r_w_one {cl : Cl} {k : Eo} {e : Ex} {ρ : Env} {Q : Option D → Env → Prop} : Wr (oneE cl k e ρ) Q ↔ Wr (evC cl k ρ) fun x xρ => Br x (Wr (evE cl e xρ) fun y yρ => Wo y.st fun d => Q (some d) yρ) (Q none xρ) := w_one (Q := fun p => Q p.1 p.2)
@[simp ↓] theorem r_w_comp' {cl : Cl} {ρ : Env} {Q : AV → Env → Prop} {t : Tg} {it : It} {k : Eo} {e : Ex} : Wr (evE cl (.comp t it k e) ρ) Q ↔ Wr (evI cl it ρ) fun x xρ => Wr (compE (oneE cl k e) t t.slots x [] xρ) fun y yρ => Q (.dat (.list y)) (wipeE yρ t.slots) := w_comp' (Q := fun p => Q p.1 p.2)
end
section
variable {Q : Fl → Prop}
theorem whl_inv' {test : Env → Res Bool} {body : Env → Option Fl} (P : Nat → Env → Prop) (hs : ∀ n ρ, P n ρ → Wr (test ρ) fun k ρ1 => Br k (∃ m, m < n ∧ Wo (body ρ1) fun r => nxF r (P m) Q) (Q (.nx ρ1)))
    (fu n : Nat) (ρ : Env) (h : P n ρ) (hn : n < fu) : Wo (whlE test body fu ρ) Q := whl_inv P (fun n ρ h => hs n ρ h) fu n ρ h hn
end
theorem comp_inv' {elt : Env → Res (Option D)} {t : Tg} {vs : List Nat} {Q : List D → Env → Prop} (P : List D → List D → Env → Prop)
    (hs : ∀ x xs acc ρ, P (x :: xs) acc ρ → Wo (tgE (wipeE ρ vs) t x) fun ρ1 => Wr (elt ρ1) fun o ρ2 => adE o acc fun acc' => P xs acc' (wipeE ρ2 vs))
    (hd : ∀ acc ρ, P [] acc ρ → Q acc ρ) (ds acc : List D) (ρ : Env) (h : P ds acc ρ) : Wr (compE elt t vs ds acc ρ) Q := comp_inv (Q := fun p => Q p.1 p.2) P (fun x xs acc ρ h => hs x xs acc ρ h) (fun acc ρ h => hd acc ρ h) ds acc ρ h
theorem comp_filter' {elt : Env → Res (Option D)} {t : Tg} {vs : List Nat} {Q : List D → Env → Prop} {α : Type} (g : α → Option D) (f : α → D) (ρ : Env) (hw : wipeE ρ vs = ρ) (xs : List α) (hn : xs.length ≤ sizeLine)
    (hs : ∀ x ∈ xs, Wo (tgE ρ t (f x)) fun ρ1 => Wr (elt ρ1) fun o ρ2 => o = g x ∧ wipeE ρ2 vs = ρ) (hd : Q (xs.filterMap g) ρ) : Wr (compE elt t vs (xs.map f) [] ρ) Q := comp_filter (Q := fun p => Q p.1 p.2) g f ρ hw xs hn hs hd
def finr (lent : List Bool) (Q : OT → List OT → Prop) (r : Fl) : Prop := fin lent (fun p => Q p.1 p.2) r
@[simp ↓] theorem finr_ret {lent : List Bool} {Q : OT → List OT → Prop} {t : OT} {ρ : Env} : finr lent Q (.ret t ρ) ↔ Wo (endE ρ lent 0) fun b => Q t b := Iff.rfl
@[simp ↓] theorem finr_nx {lent : List Bool} {Q : OT → List OT → Prop} {ρ : Env} : finr lent Q (.nx ρ) ↔ Wo (endE ρ lent 0) fun b => Q (.sh .none) b := Iff.rfl
theorem w_def {tbl : Nat → Option Fd} {fu k f : Nat} {fd : Fd} {ts : List OT} {Q : OT → List OT → Prop} (hk : 1 ≤ k) (h : tbl f = some fd) {ρ : Env} (hs : startE fd.lent ts = some ρ)
    (q : Wo (evS (evF tbl fu (k - 1)) fu fd.body (ρ ++ List.replicate (fd.n - fd.lent.length) .non)) (finr fd.lent Q)) : Wr (evF tbl fu k f ts) Q := by
  obtain ⟨j, rfl⟩ : ∃ j, k = j + 1 := ⟨k - 1, by omega⟩
  exact w_fn (Q := fun p => Q p.1 p.2) h hs q
/-- a free slot -/
def frS (o : Option OT) : Slot := match o with
  | none => .non
  | some t => .val false t
@[simp] theorem putE_fr {o : Option OT} {ρ : Env} {d : D} : putE (frS o :: ρ) 0 d = some (.val false (.sh d) :: ρ) := by cases o <;> rfl
@[simp] theorem isLent_fr {o : Option OT} {ρ : Env} : isLent (frS o :: ρ) 0 = false := by cases o <;> rfl
theorem frS_non : Slot.non = frS none := rfl
theorem frS_val {t : OT} : Slot.val false t = frS (some t) := rfl
theorem eq_of_Wr {α β : Type} {o : Option (α × β)} {a : α} {b : β} (h : Wr o fun x y => x = a ∧ y = b) : o = some (a, b) := by
  obtain ⟨⟨x, y⟩, e, rfl, rfl⟩ := h
  exact e
section
variable {cl : Cl} {fu : Nat} {ρ : Env} {Q : Fl → Prop}
@[simp ↓] theorem r_s_ret_pk {i : Nat} : Wo (evS cl fu (.ret (.pk i)) ρ) Q ↔ Wr (evE cl (.pk i) ρ) fun x xρ => Wo x.st fun d => Q (.ret (.sh d) xρ) := r_s_ret rfl
@[simp ↓] theorem r_s_ret_non  : Wo (evS cl fu (.ret (.non )) ρ) Q ↔ Wr (evE cl (.non ) ρ) fun x xρ => Wo x.st fun d => Q (.ret (.sh d) xρ) := r_s_ret rfl
@[simp ↓] theorem r_s_ret_bl {i : Bool} : Wo (evS cl fu (.ret (.bl i)) ρ) Q ↔ Wr (evE cl (.bl i) ρ) fun x xρ => Wo x.st fun d => Q (.ret (.sh d) xρ) := r_s_ret rfl
@[simp ↓] theorem r_s_ret_int {i : Int} : Wo (evS cl fu (.ret (.int i)) ρ) Q ↔ Wr (evE cl (.int i) ρ) fun x xρ => Wo x.st fun d => Q (.ret (.sh d) xρ) := r_s_ret rfl
@[simp ↓] theorem r_s_ret_str {i : Str} : Wo (evS cl fu (.ret (.str i)) ρ) Q ↔ Wr (evE cl (.str i) ρ) fun x xρ => Wo x.st fun d => Q (.ret (.sh d) xρ) := r_s_ret rfl
@[simp ↓] theorem r_s_ret_op {i : O2} {a b : Ex} : Wo (evS cl fu (.ret (.op i a b)) ρ) Q ↔ Wr (evE cl (.op i a b) ρ) fun x xρ => Wo x.st fun d => Q (.ret (.sh d) xρ) := r_s_ret rfl
@[simp ↓] theorem r_s_ret_cmp {i : C2} {a b : Ex} : Wo (evS cl fu (.ret (.cmp i a b)) ρ) Q ↔ Wr (evE cl (.cmp i a b) ρ) fun x xρ => Wo x.st fun d => Q (.ret (.sh d) xρ) := r_s_ret rfl
@[simp ↓] theorem r_s_ret_chain {i j : C2} {a b c : Ex} : Wo (evS cl fu (.ret (.chain i j a b c)) ρ) Q ↔ Wr (evE cl (.chain i j a b c) ρ) fun x xρ => Wo x.st fun d => Q (.ret (.sh d) xρ) := r_s_ret rfl
@[simp ↓] theorem r_s_ret_neg {a : Ex} : Wo (evS cl fu (.ret (.neg a)) ρ) Q ↔ Wr (evE cl (.neg a) ρ) fun x xρ => Wo x.st fun d => Q (.ret (.sh d) xρ) := r_s_ret rfl
@[simp ↓] theorem r_s_ret_last {a : Ex} : Wo (evS cl fu (.ret (.last a)) ρ) Q ↔ Wr (evE cl (.last a) ρ) fun x xρ => Wo x.st fun d => Q (.ret (.sh d) xρ) := r_s_ret rfl
@[simp ↓] theorem r_s_ret_and {a b : Ex} : Wo (evS cl fu (.ret (.and a b)) ρ) Q ↔ Wr (evE cl (.and a b) ρ) fun x xρ => Wo x.st fun d => Q (.ret (.sh d) xρ) := r_s_ret rfl
@[simp ↓] theorem r_s_ret_or {a b : Ex} : Wo (evS cl fu (.ret (.or a b)) ρ) Q ↔ Wr (evE cl (.or a b) ρ) fun x xρ => Wo x.st fun d => Q (.ret (.sh d) xρ) := r_s_ret rfl
@[simp ↓] theorem r_s_ret_not {a : Ex} : Wo (evS cl fu (.ret (.not a)) ρ) Q ↔ Wr (evE cl (.not a) ρ) fun x xρ => Wo x.st fun d => Q (.ret (.sh d) xρ) := r_s_ret rfl
@[simp ↓] theorem r_s_ret_ite {a b c : Ex} : Wo (evS cl fu (.ret (.ite a b c)) ρ) Q ↔ Wr (evE cl (.ite a b c) ρ) fun x xρ => Wo x.st fun d => Q (.ret (.sh d) xρ) := r_s_ret rfl
@[simp ↓] theorem r_s_ret_ix {a b : Ex} : Wo (evS cl fu (.ret (.ix a b)) ρ) Q ↔ Wr (evE cl (.ix a b) ρ) fun x xρ => Wo x.st fun d => Q (.ret (.sh d) xρ) := r_s_ret rfl
@[simp ↓] theorem r_s_ret_sl {a : Ex} {l h : Eo} : Wo (evS cl fu (.ret (.sl a l h)) ρ) Q ↔ Wr (evE cl (.sl a l h) ρ) fun x xρ => Wo x.st fun d => Q (.ret (.sh d) xρ) := r_s_ret rfl
@[simp ↓] theorem r_s_ret_lst {es : Exs} : Wo (evS cl fu (.ret (.lst es)) ρ) Q ↔ Wr (evE cl (.lst es) ρ) fun x xρ => Wo x.st fun d => Q (.ret (.sh d) xρ) := r_s_ret rfl
@[simp ↓] theorem r_s_ret_tup {es : Exs} : Wo (evS cl fu (.ret (.tup es)) ρ) Q ↔ Wr (evE cl (.tup es) ρ) fun x xρ => Wo x.st fun d => Q (.ret (.sh d) xρ) := r_s_ret rfl
@[simp ↓] theorem r_s_ret_rep {a b : Ex} : Wo (evS cl fu (.ret (.rep a b)) ρ) Q ↔ Wr (evE cl (.rep a b) ρ) fun x xρ => Wo x.st fun d => Q (.ret (.sh d) xρ) := r_s_ret rfl
@[simp ↓] theorem r_s_ret_bs {f : Bs} {es : Exs} : Wo (evS cl fu (.ret (.bs f es)) ρ) Q ↔ Wr (evE cl (.bs f es) ρ) fun x xρ => Wo x.st fun d => Q (.ret (.sh d) xρ) := r_s_ret rfl
@[simp ↓] theorem r_s_ret_bn {f : Bn} {es : Exs} : Wo (evS cl fu (.ret (.bn f es)) ρ) Q ↔ Wr (evE cl (.bn f es) ρ) fun x xρ => Wo x.st fun d => Q (.ret (.sh d) xρ) := r_s_ret rfl
@[simp ↓] theorem r_s_ret_call {f : Nat} {es : Exs} : Wo (evS cl fu (.ret (.call f es)) ρ) Q ↔ Wr (evE cl (.call f es) ρ) fun x xρ => Wo x.st fun d => Q (.ret (.sh d) xρ) := r_s_ret rfl
@[simp ↓] theorem r_s_ret_comp {t : Tg} {i : It} {c : Eo} {e : Ex} : Wo (evS cl fu (.ret (.comp t i c e)) ρ) Q ↔ Wr (evE cl (.comp t i c e) ρ) fun x xρ => Wo x.st fun d => Q (.ret (.sh d) xρ) := r_s_ret rfl
@[simp ↓] theorem r_s_ret_pop {i : Nat} : Wo (evS cl fu (.ret (.pop i)) ρ) Q ↔ Wr (evE cl (.pop i) ρ) fun x xρ => Wo x.st fun d => Q (.ret (.sh d) xρ) := r_s_ret rfl
@[simp ↓] theorem r_s_ret_popi {i : Nat} {e : Ex} : Wo (evS cl fu (.ret (.popi i e)) ρ) Q ↔ Wr (evE cl (.popi i e) ρ) fun x xρ => Wo x.st fun d => Q (.ret (.sh d) xρ) := r_s_ret rfl
@[simp ↓] theorem r_s_ret_lset {a : Ex} : Wo (evS cl fu (.ret (.lset a)) ρ) Q ↔ Wr (evE cl (.lset a) ρ) fun x xρ => Wo x.st fun d => Q (.ret (.sh d) xρ) := r_s_ret rfl
@[simp ↓] theorem r_s_ret_lrg {a : Ex} : Wo (evS cl fu (.ret (.lrg a)) ρ) Q ↔ Wr (evE cl (.lrg a) ρ) fun x xρ => Wo x.st fun d => Q (.ret (.sh d) xρ) := r_s_ret rfl
@[simp ↓] theorem r_s_ret_gdx {x : Str} {k : List (Str × Option Str)} {a : Ex} : Wo (evS cl fu (.ret (.gdx x k a)) ρ) Q ↔ Wr (evE cl (.gdx x k a) ρ) fun x xρ => Wo x.st fun d => Q (.ret (.sh d) xρ) := r_s_ret rfl
@[simp ↓] theorem r_s_ret_gdin {n : Bool} {x : Str} {k : List (Str × Option Str)} {a : Ex} : Wo (evS cl fu (.ret (.gdin n x k a)) ρ) Q ↔ Wr (evE cl (.gdin n x k a) ρ) fun x xρ => Wo x.st fun d => Q (.ret (.sh d) xρ) := r_s_ret rfl
@[simp ↓] theorem r_s_ret_dct {k : List Str} {es : Exs} : Wo (evS cl fu (.ret (.dct k es)) ρ) Q ↔ Wr (evE cl (.dct k es) ρ) fun x xρ => Wo x.st fun d => Q (.ret (.sh d) xρ) := r_s_ret rfl
@[simp ↓] theorem r_s_ret_dix {k : List Str} {es : Exs} {a : Ex} : Wo (evS cl fu (.ret (.dix k es a)) ρ) Q ↔ Wr (evE cl (.dix k es a) ρ) fun x xρ => Wo x.st fun d => Q (.ret (.sh d) xρ) := r_s_ret rfl
@[simp ↓] theorem r_s_ret_dget {i : Nat} {a : Ex} : Wo (evS cl fu (.ret (.dget i a)) ρ) Q ↔ Wr (evE cl (.dget i a) ρ) fun x xρ => Wo x.st fun d => Q (.ret (.sh d) xρ) := r_s_ret rfl
@[simp ↓] theorem r_s_ret_din {n : Bool} {i : Nat} {a : Ex} : Wo (evS cl fu (.ret (.din n i a)) ρ) Q ↔ Wr (evE cl (.din n i a) ρ) fun x xρ => Wo x.st fun d => Q (.ret (.sh d) xρ) := r_s_ret rfl
end
end Pv.Wp

set_option Elab.async false
set_option linter.all false
set_option maxRecDepth 100000
set_option maxHeartbeats 4000000
namespace K94
open PySem L2 Pv Pv.Wp
abbrev T : Nat → Option Fd := tblOf rows
/-- the box, its third number at most so great -/
def Bx (N : Int) (box : List OT) : Prop := ∃ a b c : Int, box = [.sh (.int a), .sh (.int b), .sh (.int c)] ∧ 0 ≤ a ∧ 0 ≤ b ∧ b < 2147483648 ∧ 0 ≤ c ∧ c ≤ N
theorem Bx.mono {N M : Int} {box : List OT} (h : Bx N box) (l : N ≤ M) : Bx M box := by
  obtain ⟨a, b, c, e, h1, h2, h3, h4, h5⟩ := h
  exact ⟨a, b, c, e, h1, h2, h3, h4, by omega⟩
@[simp] theorem atI_c0 {α : Type} {x : α} {xs : List α} : atI (x :: xs) 0 = some x := by
  have : atI (x :: xs) ((0 : Nat) : Int) = (x :: xs)[0]? := by
    unfold atI ixN
    simp
  exact this
theorem atI_nat {α : Type} {xs : List α} {i : Nat} : atI xs (i : Int) = xs[i]? := by
  unfold atI ixN
  rw [if_pos (by omega)]
  by_cases h : i < xs.length
  · rw [if_pos (by omega)]; simp
  · rw [if_neg (by omega)]; simp; omega
@[simp] theorem atI_c1 {α : Type} {x y : α} {xs : List α} : atI (x :: y :: xs) 1 = some y := atI_nat (i := 1)
@[simp] theorem atI_c2 {α : Type} {x y z : α} {xs : List α} : atI (x :: y :: z :: xs) 2 = some z := atI_nat (i := 2)
@[simp] theorem ixN_30 : ixN 3 0 = some 0 := rfl
@[simp] theorem ixN_31 : ixN 3 1 = some 1 := rfl
@[simp] theorem ixN_32 : ixN 3 2 = some 2 := rfl
@[simp] theorem f_divmod {a b : Int} : Bn.f .divmod [.int a, .int b] = if 0 < b ∧ b < 1073741824 then some (.tuple [.int (a / b), .int (a % b)]) else none := rfl
@[simp] theorem f_list {xs : List D} : Bn.f .list [.list xs] = some (.list xs) := rfl
@[simp] theorem f_list2 {xs : List D} : Bn.f .list [.tuple xs] = some (.list xs) := rfl
@[simp] theorem f_tuple {xs : List D} : Bn.f .tuple [.list xs] = some (.tuple xs) := rfl
@[simp] theorem f_len {xs : List D} : Bs.f .len [.list xs] = some (.int xs.length) := rfl
@[simp] theorem f_len2 {xs : List D} : Bs.f .len [.tuple xs] = some (.int xs.length) := rfl
@[simp] theorem f_abs {n : Int} : Bs.f .abs [.int n] = some (.int (if n < 0 then -n else n)) := rfl
@[simp] theorem f_intb {b : Bool} : Bs.f .int [.bool b] = some (.int (if b = true then 1 else 0)) := rfl
@[simp] theorem f_max2 {a b : Int} : Bs.f .max [.int a, .int b] = some (.int (if b > a then b else a)) := rfl
@[simp] theorem f_max3 {a b c : Int} : Bs.f .max [.int a, .int b, .int c] = some (.int (if c > (if b > a then b else a) then c else (if b > a then b else a))) := rfl
@[simp] theorem f_min2 {a b : Int} : Bs.f .min [.int a, .int b] = some (.int (if b < a then b else a)) := rfl
@[simp] theorem f_sum {d : D} : Bs.f .sum [d] = (itemsOf d).bind fun xs => (intsOf xs).map fun ns => .int ns.sum := rfl
@[simp] theorem f_all {xs : List D} : Bs.f .all [.list xs] = (boolsOf xs).map fun bs => .bool (bs.all id) := rfl
@[simp] theorem items_l {xs : List D} : itemsOf (.list xs) = some xs := rfl
@[simp] theorem items_t {xs : List D} : itemsOf (.tuple xs) = some xs := rfl
theorem take_ok {fu k : Nat} {box : List OT} {n N : Int} {Q : OT → List OT → Prop} (hk : 1 ≤ k) (hb : Bx N box) (hN : N < 1000000) (h0 : 0 < n) (h1 : n < 1073741824)
    (q : ∀ (r : Int) (box' : List OT), Bx (N + 1) box' → 0 ≤ r → r < n → Q (.sh (.int r)) [.lst box', .sh .none]) : Wr (evF T fu k 11 [.lst box, .sh (.int n)]) Q := by
  obtain ⟨a, b, c, rfl, ha, hb0, hb1, hc0, hc1⟩ := hb
  refine w_def hk (fd := r_law_take.fd) rfl (ρ := [.val true (.lst [.sh (.int a), .sh (.int b), .sh (.int c)]), .val false (.sh (.int n))]) rfl ?_
  show Wo (evS _ fu b_law_take [.val true (.lst [.sh (.int a), .sh (.int b), .sh (.int c)]), .val false (.sh (.int n)), .non, .non]) (finr [true, false] Q)
  unfold b_law_take
  simp -dsimp
  refine Br_dec (fun ha0 => ?_) (fun ha0 => ?_)
  · simp -dsimp
    refine ⟨⟨h0, h1⟩, q _ _ ⟨_, _, _, rfl, ?_, hb0, hb1, hc0, by omega⟩ (Int.emod_nonneg _ (by omega)) (Int.emod_lt_of_pos _ h0)⟩
    exact Int.ediv_nonneg ha (by omega)
  · simp -dsimp
    refine ⟨mul_ok1 (by decide), mul_ok2 (by omega), mul_ok1 (by omega), ?_⟩
    generalize (b + 39373 * (c + 1)) * (48271 + (c + 1)) % 2147483647 = z1
    generalize (z1 * (z1 % 40009 + 7) + (c + 1)) = z2
    refine ⟨mul_ok1 (by omega), div_ok (by omega) (by omega), h0, q _ _ ⟨_, _, _, rfl, ha, by omega, by omega, by omega, by omega⟩ (Int.emod_nonneg _ (by omega)) (Int.emod_lt_of_pos _ h0)⟩
@[simp] theorem ofs_inj {a b : String} : (Str.ofString a = Str.ofString b) ↔ a = b := by
  refine ⟨fun h => ?_, fun h => by rw [h]⟩
  rw [Str.ofString_eq_toList, Str.ofString_eq_toList] at h
  injection h with h
  have h2 : a.toList.map Char.toNat = b.toList.map Char.toNat := by simpa using congrArg Array.toList h
  have h3 : a.toList = b.toList := by
    have inj : ∀ x y : Char, x.toNat = y.toNat → x = y := fun x y e => Char.ext (UInt32.toNat_inj.mp e)
    exact (List.map_inj_right inj).mp h2
  exact String.toList_inj.mp h3
@[simp] theorem sz : sizeLine = 16777216 := rfl
@[simp] theorem lstD_eq {xs : List AV} : lstD xs = (sts xs).bind fun ds => if ds.length ≤ sizeLine then some ds else none := rfl
@[simp] theorem repD_dat {d : D} {k : Int} : repD (.dat d) (.dat (.int k)) = if -(2 ^ 63) ≤ k ∧ k < 2 ^ 63 ∧ k.toNat ≤ sizeLine then some (List.replicate k.toNat d) else none := rfl
theorem at_mem {α : Type} {xs : List α} {r : Int} {Q : α → Prop} (h0 : 0 ≤ r) (h1 : r < xs.length) (q : ∀ x ∈ xs, Q x) : Wo (atI xs r) Q := by
  obtain ⟨n, rfl⟩ : ∃ n : Nat, r = n := ⟨r.toNat, by omega⟩
  rw [atI_nat]
  have h : n < xs.length := by omega
  rw [List.getElem?_eq_getElem h]
  exact Wo_some.mpr (q _ (List.getElem_mem h))
theorem for_nil {body : Pv.Env → Option Fl} {t : Tg} {ρ : Pv.Env} {Q : Fl → Prop} : Wo (forE body t [] ρ) Q ↔ Q (.nx ρ) := Wo_some
theorem for_cons {body : Pv.Env → Option Fl} {t : Tg} {ρ : Pv.Env} {Q : Fl → Prop} {x : D} {xs : List D} : Wo (forE body t (x :: xs) ρ) Q ↔ Wo (tgE ρ t x) fun ρ1 => Wo (body ρ1) fun r => nxF r (fun ρ2 => Wo (forE body t xs ρ2) Q) Q := by
  rw [forE]
  cases tgE ρ t x with
  | none => exact Wo_none.trans Wo_none.symm
  | some ρ1 =>
    refine Iff.trans ?_ (Wo_some (Q := fun ρ1 => Wo (body ρ1) fun r => nxF r (fun ρ2 => Wo (forE body t xs ρ2) Q) Q)).symm
    simp only
    cases body ρ1 with
    | none => exact Wo_none.trans Wo_none.symm
    | some r =>
      refine Iff.trans ?_ (Wo_some (Q := fun r => nxF r (fun ρ2 => Wo (forE body t xs ρ2) Q) Q)).symm
      cases r with
      | nx ρ2 => exact Iff.rfl
      | cont ρ2 => exact Iff.rfl
      | brk ρ2 => exact Wo_some
      | ret v ρ2 => exact Wo_some
end K94

set_option Elab.async false
set_option linter.all false
set_option maxRecDepth 100000
set_option maxHeartbeats 4000000
namespace K94
open PySem L2 Pv Pv.Wp
/-! terms, sayings, worlds -/
inductive Tm where
  | any | is (i : Nat) | not (t : Tm) | and (t u : Tm) | or (t u : Tm)
def Tm.d : Tm → D
  | .any => .tuple [.str "any"]
  | .is i => .tuple [.str "is", .int i]
  | .not t => .tuple [.str "not", t.d]
  | .and t u => .tuple [.str "and", t.d, u.d]
  | .or t u => .tuple [.str "or", t.d, u.d]
def Tm.ok : Tm → Prop
  | .any => True
  | .is i => i < 4
  | .not t => t.ok
  | .and t u => t.ok ∧ u.ok
  | .or t u => t.ok ∧ u.ok
def Tm.hgt : Tm → Nat
  | .any => 0
  | .is _ => 0
  | .not t => t.hgt + 1
  | .and t u => max t.hgt u.hgt + 1
  | .or t u => max t.hgt u.hgt + 1
def Tm.at (c : Int) : Tm → Bool
  | .any => true
  | .is i => decide (c / 2 ^ i % 2 = 1)
  | .not t => !t.at c
  | .and t u => t.at c && u.at c
  | .or t u => t.at c || u.at c
theorem cc {fu k : Nat} {i : Nat} (hi : i < 4) (hk : 1 ≤ k) : evF T fu k 0 [.sh (.int i)] = some (.sh (.int (2 ^ i)), [.sh .none]) := by
  obtain ⟨k, rfl⟩ : ∃ j, k = j + 1 := ⟨k - 1, by omega⟩
  have : i = 0 ∨ i = 1 ∨ i = 2 ∨ i = 3 := by omega
  refine eq_of_Wr (w_def (by omega) (fd := r_cell_count.fd) rfl (ρ := [.val false (.sh (.int i))]) rfl ?_)
  show Wo (evS _ fu b_cell_count [.val false (.sh (.int i)), .non, .non]) (finr [false] _)
  unfold b_cell_count
  rcases this with rfl | rfl | rfl | rfl <;> simp -dsimp [rangeD, rngOk, for_nil, ↓for_cons, List.range, List.range.loop, mulOk]
theorem of_ok {fu : Nat} (c : Int) : ∀ (t : Tm) (k : Nat) {Q : OT → List OT → Prop}, t.hgt + 2 ≤ k → t.ok → Q (.sh (.bool (t.at c))) [.sh .none, .sh .none] → Wr (evF T fu k 1 [.sh t.d, .sh (.int c)]) Q
  | .any, k, Q, hk, ho, q => by
    refine w_def (by omega) (fd := r_is_of.fd) rfl (ρ := [.val false (.sh (Tm.any).d), .val false (.sh (.int c))]) rfl ?_
    show Wo (evS _ fu b_is_of [.val false (.sh (Tm.any).d), .val false (.sh (.int c))]) (finr [false, false] Q)
    unfold b_is_of
    simp -dsimp [Tm.d]
    exact q
  | .is i, k, Q, hk, ho, q => by
    refine w_def (by omega) (fd := r_is_of.fd) rfl (ρ := [.val false (.sh (Tm.is i).d), .val false (.sh (.int c))]) rfl ?_
    show Wo (evS _ fu b_is_of [.val false (.sh (Tm.is i).d), .val false (.sh (.int c))]) (finr [false, false] Q)
    unfold b_is_of
    simp only [Tm.hgt] at hk
    simp -dsimp [Tm.d]
    rw [cc ho (by omega)]
    simp -dsimp
    have : i = 0 ∨ i = 1 ∨ i = 2 ∨ i = 3 := by simp only [Tm.ok] at ho; omega
    refine ⟨⟨?_, div_ok ?_ ?_⟩, q⟩ <;> rcases this with rfl | rfl | rfl | rfl <;> decide
  | .not t, k, Q, hk, ho, q => by
    refine w_def (by omega) (fd := r_is_of.fd) rfl (ρ := [.val false (.sh (Tm.not t).d), .val false (.sh (.int c))]) rfl ?_
    show Wo (evS _ fu b_is_of [.val false (.sh (Tm.not t).d), .val false (.sh (.int c))]) (finr [false, false] Q)
    unfold b_is_of
    simp only [Tm.hgt] at hk
    simp -dsimp [Tm.d]
    refine of_ok c t (k - 1) (by omega) ho ?_
    simp -dsimp
    exact q
  | .and t u, k, Q, hk, ho, q => by
    refine w_def (by omega) (fd := r_is_of.fd) rfl (ρ := [.val false (.sh (Tm.and t u).d), .val false (.sh (.int c))]) rfl ?_
    show Wo (evS _ fu b_is_of [.val false (.sh (Tm.and t u).d), .val false (.sh (.int c))]) (finr [false, false] Q)
    unfold b_is_of
    simp only [Tm.hgt] at hk
    simp only [Tm.ok] at ho
    simp -dsimp [Tm.d]
    refine of_ok c t (k - 1) (by omega) ho.1 ?_
    simp -dsimp
    simp only [Tm.at] at q
    refine ⟨fun h => ?_, fun h => ?_⟩
    · simp -dsimp
      refine of_ok c u (k - 1) (by omega) ho.2 ?_
      simp -dsimp
      rw [h] at q
      exact q
    · simp -dsimp
      rw [h] at q
      exact q
  | .or t u, k, Q, hk, ho, q => by
    refine w_def (by omega) (fd := r_is_of.fd) rfl (ρ := [.val false (.sh (Tm.or t u).d), .val false (.sh (.int c))]) rfl ?_
    show Wo (evS _ fu b_is_of [.val false (.sh (Tm.or t u).d), .val false (.sh (.int c))]) (finr [false, false] Q)
    unfold b_is_of
    simp only [Tm.hgt] at hk
    simp only [Tm.ok] at ho
    simp -dsimp [Tm.d]
    refine of_ok c t (k - 1) (by omega) ho.1 ?_
    simp -dsimp
    simp only [Tm.at] at q
    refine ⟨fun h => ?_, fun h => ?_⟩
    · simp -dsimp
      rw [h] at q
      exact q
    · simp -dsimp
      refine of_ok c u (k - 1) (by omega) ho.2 ?_
      simp -dsimp
      rw [h] at q
      exact q
end K94

set_option Elab.async false
set_option linter.all false
set_option maxRecDepth 100000
set_option maxHeartbeats 4000000
namespace K94
open PySem L2 Pv Pv.Wp
theorem lof_ok {fu : Nat} (c : Int) : ∀ (t : Tm) (k : Nat) {Q : OT → List OT → Prop}, t.hgt + 2 ≤ k → t.ok → Q (.sh (.bool (t.at c))) [.sh .none, .sh .none] → Wr (evF T fu k 13 [.sh t.d, .sh (.int c)]) Q
  | .any, k, Q, hk, ho, q => by
    refine w_def (by omega) (fd := r_law_of.fd) rfl (ρ := [.val false (.sh (Tm.any).d), .val false (.sh (.int c))]) rfl ?_
    show Wo (evS _ fu b_law_of [.val false (.sh (Tm.any).d), .val false (.sh (.int c))]) (finr [false, false] Q)
    unfold b_law_of
    simp -dsimp [Tm.d]
    exact q
  | .is i, k, Q, hk, ho, q => by
    refine w_def (by omega) (fd := r_law_of.fd) rfl (ρ := [.val false (.sh (Tm.is i).d), .val false (.sh (.int c))]) rfl ?_
    show Wo (evS _ fu b_law_of [.val false (.sh (Tm.is i).d), .val false (.sh (.int c))]) (finr [false, false] Q)
    unfold b_law_of
    simp -dsimp [Tm.d]
    have : i = 0 ∨ i = 1 ∨ i = 2 ∨ i = 3 := by simp only [Tm.ok] at ho; omega
    rw [atI_nat]
    rcases this with rfl | rfl | rfl | rfl <;> simp -dsimp <;> exact ⟨div_ok (by omega) (by omega), by simpa [Tm.at] using q⟩
  | .not t, k, Q, hk, ho, q => by
    refine w_def (by omega) (fd := r_law_of.fd) rfl (ρ := [.val false (.sh (Tm.not t).d), .val false (.sh (.int c))]) rfl ?_
    show Wo (evS _ fu b_law_of [.val false (.sh (Tm.not t).d), .val false (.sh (.int c))]) (finr [false, false] Q)
    unfold b_law_of
    simp only [Tm.hgt] at hk
    simp -dsimp [Tm.d]
    refine lof_ok c t (k - 1) (by omega) ho ?_
    simp -dsimp
    exact q
  | .and t u, k, Q, hk, ho, q => by
    refine w_def (by omega) (fd := r_law_of.fd) rfl (ρ := [.val false (.sh (Tm.and t u).d), .val false (.sh (.int c))]) rfl ?_
    show Wo (evS _ fu b_law_of [.val false (.sh (Tm.and t u).d), .val false (.sh (.int c))]) (finr [false, false] Q)
    unfold b_law_of
    simp only [Tm.hgt] at hk
    simp only [Tm.ok] at ho
    simp -dsimp [Tm.d]
    refine lof_ok c t (k - 1) (by omega) ho.1 ?_
    simp -dsimp
    simp only [Tm.at] at q
    refine ⟨fun h => ?_, fun h => ?_⟩
    · simp -dsimp
      refine lof_ok c u (k - 1) (by omega) ho.2 ?_
      simp -dsimp
      rw [h] at q
      exact q
    · simp -dsimp
      rw [h] at q
      exact q
  | .or t u, k, Q, hk, ho, q => by
    refine w_def (by omega) (fd := r_law_of.fd) rfl (ρ := [.val false (.sh (Tm.or t u).d), .val false (.sh (.int c))]) rfl ?_
    show Wo (evS _ fu b_law_of [.val false (.sh (Tm.or t u).d), .val false (.sh (.int c))]) (finr [false, false] Q)
    unfold b_law_of
    simp only [Tm.hgt] at hk
    simp only [Tm.ok] at ho
    simp -dsimp [Tm.d]
    refine lof_ok c t (k - 1) (by omega) ho.1 ?_
    simp -dsimp
    simp only [Tm.at] at q
    refine ⟨fun h => ?_, fun h => ?_⟩
    · simp -dsimp
      rw [h] at q
      exact q
    · simp -dsimp
      refine lof_ok c u (k - 1) (by omega) ho.2 ?_
      simp -dsimp
      rw [h] at q
      exact q
/-! counts -/
def cntA : List Int → Nat → (Int → Bool) → Int
  | [], _, _ => 0
  | x :: xs, c, p => (if p c = true then x else 0) + cntA xs (c + 1) p
def enD : List D → Nat → List D
  | [], _ => []
  | x :: xs, c => .tuple [.int c, x] :: enD xs (c + 1)
theorem enD_map : ∀ (xs : List D) (c : Nat), (xs.mapIdx fun i x => PyData.tuple [.int ((i + c : Nat) : Int), x]) = enD xs c
  | [], c => rfl
  | x :: xs, c => by
    rw [List.mapIdx_cons, enD, ← enD_map xs (c + 1)]
    congr 1
    · rw [Nat.zero_add]
    · congr 1
      funext i x
      rw [Nat.add_assoc, Nat.add_comm 1 c]
theorem enD_eq (xs : List D) : enumD xs = enD xs 0 := enD_map xs 0
def wd (w : List Int) : D := .tuple (w.map .int)
def W (w : List Int) : Prop := (∀ x ∈ w, 0 ≤ x) ∧ w.sum ≤ 1000
def bo (w : List Int) (a b : Tm) : Int := cntA w 0 fun c => a.at c && b.at c
def al (w : List Int) (a b : Tm) : Int := cntA w 0 fun c => a.at c && !b.at c
def be (w : List Int) (a b : Tm) : Int := cntA w 0 fun c => !a.at c && b.at c
theorem cntA_bd (p : Int → Bool) : ∀ (w : List Int) (c : Nat), (∀ x ∈ w, 0 ≤ x) → 0 ≤ cntA w c p ∧ cntA w c p ≤ w.sum
  | [], c, _ => ⟨Int.le_refl _, Int.le_refl _⟩
  | x :: xs, c, h => by
    have ih := cntA_bd p xs (c + 1) fun y hy => h y (List.mem_cons_of_mem _ hy)
    have hx := h x (List.mem_cons_self ..)
    rw [cntA, List.sum_cons]
    split <;> omega
theorem bo_bd {w : List Int} (a b : Tm) (h : W w) : 0 ≤ bo w a b ∧ bo w a b ≤ 1000 := by
  have := cntA_bd (fun c => a.at c && b.at c) w 0 h.1
  have := h.2
  unfold bo; omega
theorem al_bd {w : List Int} (a b : Tm) (h : W w) : 0 ≤ al w a b ∧ al w a b ≤ 1000 := by
  have := cntA_bd (fun c => a.at c && !b.at c) w 0 h.1
  have := h.2
  unfold al; omega
theorem cntA_t {x : Int} {xs : List Int} {c : Nat} {p : Int → Bool} (h : p c = true) : cntA (x :: xs) c p = x + cntA xs (c + 1) p := by rw [cntA, if_pos h]
theorem cntA_f {x : Int} {xs : List Int} {c : Nat} {p : Int → Bool} (h : p c = false) : cntA (x :: xs) c p = cntA xs (c + 1) p := by rw [cntA, if_neg (by rw [h]; exact Bool.false_ne_true), Int.zero_add]
def thI (w : List Int) (a b : Tm) (ds : List D) (ρ : Pv.Env) : Prop := ∃ (ys : List Int) (c : Nat) (x y z : Int) (o6 o7 o8 o9 : Option OT), ds = enD (ys.map .int) c ∧ x + (cntA ys c fun c => a.at c && b.at c) = bo w a b ∧ y + (cntA ys c fun c => a.at c && !b.at c) = al w a b ∧ z + (cntA ys c fun c => !a.at c && b.at c) = be w a b ∧
    ρ = [.val false (.sh (wd w)), .val false (.sh a.d), .val false (.sh b.d), .val false (.sh (.int x)), .val false (.sh (.int y)), .val false (.sh (.int z)), frS o6, frS o7, frS o8, frS o9]
theorem things_ok {fu k : Nat} {w : List Int} {a b : Tm} {Q : OT → List OT → Prop} (hk : max a.hgt b.hgt + 3 ≤ k) (ha : a.ok) (hb : b.ok)
    (q : Q (.sh (.tuple [.int (bo w a b), .int (al w a b), .int (be w a b)])) [.sh .none, .sh .none, .sh .none]) : Wr (evF T fu k 2 [.sh (wd w), .sh a.d, .sh b.d]) Q := by
  refine w_def (by omega) (fd := r_things_counted.fd) rfl (ρ := [.val false (.sh (wd w)), .val false (.sh a.d), .val false (.sh b.d)]) rfl ?_
  show Wo (evS _ fu b_things_counted [.val false (.sh (wd w)), .val false (.sh a.d), .val false (.sh b.d), .non, .non, .non, .non, .non, .non, .non]) (finr [false, false, false] Q)
  unfold b_things_counted
  have e : itemsOf (wd w) = some (w.map .int) := rfl
  simp -dsimp [e]
  rw [enD_eq]
  refine for_inv (thI w a b) ?_ ?_ _ _ ⟨w, 0, 0, 0, 0, none, none, none, none, rfl, by simp [bo], by simp [al], by simp [be], rfl⟩
  · rintro d ds ρ ⟨ys, c, x, y, z, o6, o7, o8, o9, e1, e2, e3, e4, rfl⟩
    cases ys with
    | nil => cases e1
    | cons u ys =>
      rw [List.map_cons, enD] at e1
      cases e1
      simp -dsimp
      refine of_ok c a (k - 1) (by omega) ha ?_
      simp -dsimp
      refine of_ok c b (k - 1) (by omega) hb ?_
      simp -dsimp
      refine ⟨fun h1 => ?_, fun h1 => ?_⟩
      · simp -dsimp
        refine ⟨fun h2 => ?_, fun h2 => ?_⟩
        · simp -dsimp
          rw [cntA_t (by simp [h1, h2])] at e2
          rw [cntA_f (by simp [h1, h2])] at e3
          rw [cntA_f (by simp [h1, h2])] at e4
          unfold thI
          exact ⟨ys, c + 1, _, _, _, some _, some _, some _, some _, rfl, by omega, by omega, by omega, rfl⟩
        · simp -dsimp [h1]
          rw [cntA_f (by simp [h1, h2])] at e2
          rw [cntA_t (by simp [h1, h2])] at e3
          rw [cntA_f (by simp [h1, h2])] at e4
          unfold thI
          exact ⟨ys, c + 1, _, _, _, some _, some _, some _, some _, rfl, by omega, by omega, by omega, rfl⟩
      · simp -dsimp [h1]
        refine ⟨fun h2 => ?_, fun h2 => ?_⟩
        · simp -dsimp
          rw [cntA_f (by simp [h1, h2])] at e2
          rw [cntA_f (by simp [h1, h2])] at e3
          rw [cntA_t (by simp [h1, h2])] at e4
          unfold thI
          exact ⟨ys, c + 1, _, _, _, some _, some _, some _, some _, rfl, by omega, by omega, by omega, rfl⟩
        · simp -dsimp
          rw [cntA_f (by simp [h1, h2])] at e2
          rw [cntA_f (by simp [h1, h2])] at e3
          rw [cntA_f (by simp [h1, h2])] at e4
          unfold thI
          exact ⟨ys, c + 1, _, _, _, some _, some _, some _, some _, rfl, by omega, by omega, by omega, rfl⟩
  · rintro ρ ⟨ys, c, x, y, z, o6, o7, o8, o9, e1, e2, e3, e4, rfl⟩
    cases ys with
    | nil =>
      simp only [cntA, Int.add_zero] at e2 e3 e4
      subst e2 e3 e4
      simp -dsimp
      exact q
    | cons u ys => cases e1
def lcI (w : List Int) (a b : Tm) (s : Bool) (ds : List D) (ρ : Pv.Env) : Prop := ∃ (ys : List Int) (c : Nat) (x : Int) (o6 o7 : Option OT), ds = enD (ys.map .int) c ∧ x + (cntA ys c fun c => a.at c && decide (b.at c = s)) = (cntA w 0 fun c => a.at c && decide (b.at c = s)) ∧
    ρ = [.val false (.sh (wd w)), .val false (.sh a.d), .val false (.sh b.d), .val false (.sh (.bool s)), .val false (.sh (.int x)), frS o6, frS o7]
theorem lcount_ok {fu k : Nat} {w : List Int} {a b : Tm} {s : Bool} {Q : OT → List OT → Prop} (hk : max a.hgt b.hgt + 3 ≤ k) (ha : a.ok) (hb : b.ok)
    (q : Q (.sh (.int (if s = true then bo w a b else al w a b))) [.sh .none, .sh .none, .sh .none, .sh .none]) : Wr (evF T fu k 14 [.sh (wd w), .sh a.d, .sh b.d, .sh (.bool s)]) Q := by
  refine w_def (by omega) (fd := r_law_counted.fd) rfl (ρ := [.val false (.sh (wd w)), .val false (.sh a.d), .val false (.sh b.d), .val false (.sh (.bool s))]) rfl ?_
  show Wo (evS _ fu b_law_counted [.val false (.sh (wd w)), .val false (.sh a.d), .val false (.sh b.d), .val false (.sh (.bool s)), .non, .non, .non]) (finr [false, false, false, false] Q)
  unfold b_law_counted
  have e : itemsOf (wd w) = some (w.map .int) := rfl
  simp -dsimp [e]
  rw [enD_eq]
  have q' : Q (.sh (.int (cntA w 0 fun c => a.at c && decide (b.at c = s)))) [.sh .none, .sh .none, .sh .none, .sh .none] := by
    cases s
    · simpa [al] using q
    · simpa [bo] using q
  refine for_inv (lcI w a b s) ?_ ?_ _ _ ⟨w, 0, 0, none, none, rfl, by simp, rfl⟩
  · rintro d ds ρ ⟨ys, c, x, o6, o7, e1, e2, rfl⟩
    cases ys with
    | nil => cases e1
    | cons u ys =>
      rw [List.map_cons, enD] at e1
      cases e1
      simp -dsimp
      refine lof_ok c a (k - 1) (by omega) ha ?_
      simp -dsimp
      refine ⟨fun h1 => ?_, fun h1 => ?_⟩
      · simp -dsimp
        refine lof_ok c b (k - 1) (by omega) hb ?_
        simp -dsimp
        refine Br_dec (fun h2 => ?_) (fun h2 => ?_)
        · simp -dsimp
          rw [cntA_t (by simp [h1, h2])] at e2
          unfold lcI
          exact ⟨ys, c + 1, _, some _, some _, rfl, by omega, rfl⟩
        · simp -dsimp
          rw [cntA_f (by simp [h1, h2])] at e2
          unfold lcI
          exact ⟨ys, c + 1, _, some _, some _, rfl, by omega, rfl⟩
      · simp -dsimp
        rw [cntA_f (by simp [h1])] at e2
        unfold lcI
        exact ⟨ys, c + 1, _, some _, some _, rfl, by omega, rfl⟩
  · rintro ρ ⟨ys, c, x, o6, o7, e1, e2, rfl⟩
    cases ys with
    | nil =>
      simp only [cntA, Int.add_zero] at e2
      subst e2
      simp -dsimp
      exact q'
    | cons u ys => cases e1
end K94

set_option Elab.async false
set_option linter.all false
set_option maxRecDepth 100000
set_option maxHeartbeats 4000000
namespace K94
open PySem L2 Pv Pv.Wp
inductive W2 | all | notall | some | none | more | asmany
  deriving DecidableEq
inductive W3 | least | most | just
  deriving DecidableEq
inductive WS | share | under
  deriving DecidableEq
def W2.s : W2 → Str
  | .all => "all" | .notall => "notall" | .some => "some" | .none => "none" | .more => "more" | .asmany => "asmany"
def W3.s : W3 → Str
  | .least => "least" | .most => "most" | .just => "just"
def WS.s : WS → Str
  | .share => "share" | .under => "under"
inductive Sy where
  | two (w : W2) (a b : Tm) | num (w : W3) (n : Int) (a b : Tm) | shr (w : WS) (t b : Int) (x y : Tm)
def Sy.d : Sy → D
  | .two w a b => .tuple [.str w.s, a.d, b.d]
  | .num w n a b => .tuple [.str w.s, .int n, a.d, b.d]
  | .shr w t b x y => .tuple [.str w.s, .int t, .int b, x.d, y.d]
def Tm.good (t : Tm) : Prop := t.ok ∧ t.hgt ≤ 3
def Sy.ok : Sy → Prop
  | .two _ a b => a.good ∧ b.good
  | .num _ n a b => 0 ≤ n ∧ a.good ∧ b.good
  | .shr _ _ _ x y => x.good ∧ y.good
def Sy.hold (w : List Int) : Sy → Bool
  | .two .all a b => decide (al w a b = 0)
  | .two .notall a b => !decide (al w a b = 0)
  | .two .some a b => decide (0 < bo w a b)
  | .two .none a b => decide (bo w a b ≤ 0)
  | .two .more a b => decide (be w a b < al w a b)
  | .two .asmany a b => decide (be w a b ≤ al w a b)
  | .num .least n a b => decide (n ≤ bo w a b)
  | .num .most n a b => decide (bo w a b ≤ n)
  | .num .just n a b => decide (bo w a b = n)
  | .shr .share t b x y => decide (t * (bo w x y + al w x y) ≤ b * bo w x y)
  | .shr .under t b x y => decide (b * bo w x y < t * (bo w x y + al w x y))
@[simp] theorem at3_1 {x y z : D} : atI [x, y, z] (-1) = some z := rfl
@[simp] theorem at3_2 {x y z : D} : atI [x, y, z] (-2) = some y := rfl
@[simp] theorem at4_1 {x y z u : D} : atI [x, y, z, u] (-1) = some u := rfl
@[simp] theorem at4_2 {x y z u : D} : atI [x, y, z, u] (-2) = some z := rfl
@[simp] theorem at5_1 {x y z u v : D} : atI [x, y, z, u, v] (-1) = some v := rfl
@[simp] theorem at5_2 {x y z u v : D} : atI [x, y, z, u, v] (-2) = some u := rfl
theorem be_al {w : List Int} {a b : Tm} : be w a b = al w b a := by
  unfold be al
  congr 1
  funext c
  exact Bool.and_comm _ _
theorem holds_ok {fu k : Nat} {w : List Int} (hw : W w) (hk : 7 ≤ k) : ∀ (s : Sy) {Q : OT → List OT → Prop}, s.ok → Q (.sh (.bool (s.hold w))) [.sh .none, .sh .none] → Wr (evF T fu k 3 [.sh s.d, .sh (wd w)]) Q
  | .two u a b, Q, ⟨⟨ha, ha2⟩, hb, hb2⟩, q => by
    refine w_def (by omega) (fd := r_holds.fd) rfl (ρ := [.val false (.sh (Sy.two u a b).d), .val false (.sh (wd w))]) rfl ?_
    show Wo (evS _ fu b_holds [.val false (.sh (Sy.two u a b).d), .val false (.sh (wd w)), .non, .non, .non, .non]) (finr [false, false] Q)
    unfold b_holds
    simp -dsimp [Sy.d]
    refine things_ok (by omega) ha hb ?_
    cases u <;> simp -dsimp [W2.s] <;> simpa [Sy.hold] using q
  | .num u n a b, Q, ⟨hn, ⟨ha, ha2⟩, hb, hb2⟩, q => by
    refine w_def (by omega) (fd := r_holds.fd) rfl (ρ := [.val false (.sh (Sy.num u n a b).d), .val false (.sh (wd w))]) rfl ?_
    show Wo (evS _ fu b_holds [.val false (.sh (Sy.num u n a b).d), .val false (.sh (wd w)), .non, .non, .non, .non]) (finr [false, false] Q)
    unfold b_holds
    simp -dsimp [Sy.d]
    refine things_ok (by omega) ha hb ?_
    cases u <;> simp -dsimp [W3.s] <;> simpa [Sy.hold] using q
  | .shr u n m a b, Q, ⟨⟨ha, ha2⟩, hb, hb2⟩, q => by
    refine w_def (by omega) (fd := r_holds.fd) rfl (ρ := [.val false (.sh (Sy.shr u n m a b).d), .val false (.sh (wd w))]) rfl ?_
    show Wo (evS _ fu b_holds [.val false (.sh (Sy.shr u n m a b).d), .val false (.sh (wd w)), .non, .non, .non, .non]) (finr [false, false] Q)
    unfold b_holds
    simp -dsimp [Sy.d]
    have h1 := bo_bd a b hw
    have h2 := al_bd a b hw
    refine things_ok (by omega) ha hb ?_
    cases u <;> simp -dsimp [WS.s] <;> refine ⟨mul_ok2 (by omega), mul_ok2 (by omega), ?_⟩ <;> simpa [Sy.hold] using q
theorem lholds_ok {fu k : Nat} {w : List Int} (hw : W w) (hk : 7 ≤ k) : ∀ (s : Sy) {Q : OT → List OT → Prop}, s.ok → Q (.sh (.bool (s.hold w))) [.sh .none, .sh .none] → Wr (evF T fu k 15 [.sh s.d, .sh (wd w)]) Q
  | .two u a b, Q, ⟨⟨ha, ha2⟩, hb, hb2⟩, q => by
    refine w_def (by omega) (fd := r_law_holds.fd) rfl (ρ := [.val false (.sh (Sy.two u a b).d), .val false (.sh (wd w))]) rfl ?_
    show Wo (evS _ fu b_law_holds [.val false (.sh (Sy.two u a b).d), .val false (.sh (wd w)), .non, .non, .non, .non, .non, .non, .non]) (finr [false, false] Q)
    unfold b_law_holds
    simp -dsimp [Sy.d]
    refine lcount_ok (by omega) ha hb ?_
    simp -dsimp
    refine lcount_ok (by omega) ha hb ?_
    cases u <;> simp -dsimp [W2.s]
    case more =>
      refine lcount_ok (by omega) hb ha ?_
      simp -dsimp
      simpa [Sy.hold, be_al] using q
    case asmany =>
      refine lcount_ok (by omega) hb ha ?_
      simp -dsimp
      simpa [Sy.hold, be_al] using q
    all_goals simpa [Sy.hold] using q
  | .num u n a b, Q, ⟨hn, ⟨ha, ha2⟩, hb, hb2⟩, q => by
    refine w_def (by omega) (fd := r_law_holds.fd) rfl (ρ := [.val false (.sh (Sy.num u n a b).d), .val false (.sh (wd w))]) rfl ?_
    show Wo (evS _ fu b_law_holds [.val false (.sh (Sy.num u n a b).d), .val false (.sh (wd w)), .non, .non, .non, .non, .non, .non, .non]) (finr [false, false] Q)
    unfold b_law_holds
    simp -dsimp [Sy.d]
    refine lcount_ok (by omega) ha hb ?_
    simp -dsimp
    refine lcount_ok (by omega) ha hb ?_
    cases u <;> simp -dsimp [W3.s, dctD, keysOk, zipK, atD] <;> simpa [Sy.hold] using q
  | .shr u n m a b, Q, ⟨⟨ha, ha2⟩, hb, hb2⟩, q => by
    refine w_def (by omega) (fd := r_law_holds.fd) rfl (ρ := [.val false (.sh (Sy.shr u n m a b).d), .val false (.sh (wd w))]) rfl ?_
    show Wo (evS _ fu b_law_holds [.val false (.sh (Sy.shr u n m a b).d), .val false (.sh (wd w)), .non, .non, .non, .non, .non, .non, .non]) (finr [false, false] Q)
    unfold b_law_holds
    simp -dsimp [Sy.d]
    have h1 := bo_bd a b hw
    have h2 := al_bd a b hw
    refine lcount_ok (by omega) ha hb ?_
    simp -dsimp
    refine lcount_ok (by omega) ha hb ?_
    cases u <;> simp -dsimp [WS.s] <;> refine ⟨mul_ok2 (by omega), mul_ok2 (by omega), ?_⟩ <;> simpa [Sy.hold] using q
end K94

set_option Elab.async false
set_option linter.all false
set_option maxRecDepth 100000
set_option maxHeartbeats 4000000
namespace K94
open PySem L2 Pv Pv.Wp
def ct : Nat → Int
  | 0 => 2
  | d + 1 => 2 + 2 * ct d
theorem ct_pos : ∀ d, 2 ≤ ct d
  | 0 => by simp [ct]
  | d + 1 => by have := ct_pos d; simp only [ct]; omega
theorem term_ok {fu : Nat} {m : Int} (hm0 : 0 < m) (hm : m ≤ 3) : ∀ (d k : Nat) {e N : Int} {box : List OT} {Q : OT → List OT → Prop}, e = d + 1 → d + 3 ≤ k → Bx N box → N + ct d < 1000000 →
    (∀ (t : Tm) (box' : List OT), Bx (N + ct d) box' → t.ok → t.hgt ≤ d → Q (.sh t.d) [.lst box', .sh .none, .sh .none]) → Wr (evF T fu k 16 [.lst box, .sh (.int m), .sh (.int e)]) Q
  | d, k, e, N, box, Q, he, hk, hb, hN, q => by
    have hct := ct_pos d
    refine w_def (by omega) (fd := r_law_term.fd) rfl (ρ := [.val true (.lst box), .val false (.sh (.int m)), .val false (.sh (.int e))]) rfl ?_
    show Wo (evS _ fu b_law_term [.val true (.lst box), .val false (.sh (.int m)), .val false (.sh (.int e)), .non, .non]) (finr [true, false, false] Q)
    unfold b_law_term
    simp -dsimp
    refine take_ok (by omega) hb (by omega) (by omega) (by omega) fun r b1 hb1 _ _ => ?_
    simp -dsimp
    refine Br_dec (fun h9 => ?_) (fun h9 => ?_)
    · simp -dsimp
      exact q .any b1 (hb1.mono (by omega)) trivial (by simp [Tm.hgt])
    simp -dsimp
    have leaf : Wr (evF T fu (k - 1) 11 [.lst b1, .sh (.int m)]) fun r rρ => ∃ (i : Nat) (b2 : List OT), i < 4 ∧ Bx (N + 2) b2 ∧ r = .sh (.int i) ∧ rρ = [.lst b2, .sh .none] := by
      refine take_ok (by omega) hb1 (by omega) (by omega) (by omega) fun r2 b2 hb2 h20 h21 => ?_
      exact ⟨r2.toNat, b2, by omega, hb2.mono (by omega), by rw [Int.toNat_of_nonneg h20], rfl⟩
    have doLeaf : ∀ (i : Nat) (b2 : List OT), i < 4 → Bx (N + 2) b2 → Q (.sh (.tuple [.str "is", .int i])) [.lst b2, .sh .none, .sh .none] := fun i b2 hi h2 => q (.is i) b2 (h2.mono (by omega)) hi (by simp [Tm.hgt])
    refine Br_dec (fun h2 => ?_) (fun h2 => ?_)
    · simp -dsimp
      refine Wr_mono leaf fun r rρ ⟨i, b2, hi, h2, e1, e2⟩ => ?_
      subst e1 e2
      simp -dsimp
      exact doLeaf i b2 hi h2
    simp -dsimp
    cases d with
    | zero => omega
    | succ d =>
    simp only [ct] at hN q
    have hctd := ct_pos d
    refine Br_dec (fun h5 => ?_) (fun h5 => ?_)
    · simp -dsimp
      refine Wr_mono leaf fun r rρ ⟨i, b2, hi, h2, e1, e2⟩ => ?_
      subst e1 e2
      simp -dsimp
      exact doLeaf i b2 hi h2
    simp -dsimp
    refine Br_dec (fun h5 => ?_) (fun h5 => ?_)
    · simp -dsimp
      refine term_ok hm0 hm d (k - 1) (by omega) (by omega) hb1 (by omega) fun t b2 hb2 ho hh => ?_
      simp -dsimp
      exact q (.not t) b2 (hb2.mono (by omega)) ho (by simp only [Tm.hgt]; omega)
    simp -dsimp
    refine take_ok (by omega) hb1 (by omega) (by omega) (by omega) fun r2 b2 hb2 h20 h21 => ?_
    simp -dsimp
    refine at_mem h20 (by simpa using h21) fun x hx => ?_
    simp only [List.mem_cons, List.not_mem_nil, or_false] at hx
    rcases hx with rfl | rfl
    · simp -dsimp
      refine term_ok hm0 hm d (k - 1) (by omega) (by omega) hb2 (by omega) fun t b3 hb3 ho3 hh3 => ?_
      simp -dsimp
      refine term_ok hm0 hm d (k - 1) (by omega) (by omega) hb3 (by omega) fun u b4 hb4 ho4 hh4 => ?_
      simp -dsimp
      exact q (.and t u) b4 (hb4.mono (by omega)) ⟨ho3, ho4⟩ (by simp only [Tm.hgt]; omega)
    · simp -dsimp
      refine term_ok hm0 hm d (k - 1) (by omega) (by omega) hb2 (by omega) fun t b3 hb3 ho3 hh3 => ?_
      simp -dsimp
      refine term_ok hm0 hm d (k - 1) (by omega) (by omega) hb3 (by omega) fun u b4 hb4 ho4 hh4 => ?_
      simp -dsimp
      exact q (.or t u) b4 (hb4.mono (by omega)) ⟨ho3, ho4⟩ (by simp only [Tm.hgt]; omega)
theorem number_ok {fu k : Nat} {M N : Int} {box : List OT} {Q : OT → List OT → Prop} (hk : 3 ≤ k) (hb : Bx N box) (hN : N + 5 < 1000000)
    (q : ∀ (r : Int) (box' : List OT), Bx (N + 5) box' → 0 ≤ r → Q (.sh (.int r)) [.lst box', .sh .none]) : Wr (evF T fu k 17 [.lst box, .sh (.int M)]) Q := by
  refine w_def (by omega) (fd := r_law_number.fd) rfl (ρ := [.val true (.lst box), .val false (.sh (.int M))]) rfl ?_
  show Wo (evS _ fu b_law_number [.val true (.lst box), .val false (.sh (.int M)), .non]) (finr [true, false] Q)
  unfold b_law_number
  simp -dsimp
  refine take_ok (by omega) hb (by omega) (by omega) (by omega) fun r1 b1 hb1 h10 _ => ?_
  simp -dsimp
  refine take_ok (by omega) hb1 (by omega) (by omega) (by omega) fun r2 b2 hb2 h20 _ => ?_
  simp -dsimp
  refine take_ok (by omega) hb2 (by omega) (by omega) (by omega) fun r3 b3 hb3 h30 _ => ?_
  simp -dsimp
  refine take_ok (by omega) hb3 (by omega) (by omega) (by omega) fun r4 b4 hb4 h40 _ => ?_
  simp -dsimp
  refine take_ok (by omega) hb4 (by omega) (by omega) (by omega) fun r5 b5 hb5 h50 h51 => ?_
  simp -dsimp
  refine at_mem h50 (by simpa using h51) fun x hx => ?_
  simp only [List.mem_cons, List.not_mem_nil, or_false] at hx
  have hb5' : Bx (N + 5) b5 := hb5.mono (by omega)
  rcases hx with rfl | rfl | rfl | rfl
  · simp -dsimp
    exact q _ _ hb5' h10
  · simp -dsimp
    exact q _ _ hb5' h20
  · simp -dsimp
    exact q _ _ hb5' (by split <;> omega)
  · simp -dsimp
    exact q _ _ hb5' h40
theorem made2_ok {fu k : Nat} {M N : Int} {box : List OT} {w : W2} {a b : Tm} {Q : OT → List OT → Prop} (hk : 6 ≤ k) (hb : Bx N box) (hN : N + 10 < 1000000)
    (ha : a.good) (hb' : b.good) (q : ∀ (s : Sy) (box' : List OT), Bx (N + 10) box' → s.ok → Q (.sh s.d) [.lst box', .sh .none, .sh .none, .sh .none, .sh .none]) : Wr (evF T fu k 18 [.lst box, .sh (.str w.s), .sh a.d, .sh b.d, .sh (.int M)]) Q := by
  refine w_def (by omega) (fd := r_law_made.fd) rfl (ρ := [.val true (.lst box), .val false (.sh (.str w.s)), .val false (.sh a.d), .val false (.sh b.d), .val false (.sh (.int M))]) rfl ?_
  show Wo (evS _ fu b_law_made [.val true (.lst box), .val false (.sh (.str w.s)), .val false (.sh a.d), .val false (.sh b.d), .val false (.sh (.int M)), .non]) (finr [true, false, false, false, false] Q)
  unfold b_law_made
  have q' := q (.two w a b) box (hb.mono (by omega)) ⟨ha, hb'⟩
  cases w <;> simp -dsimp [W2.s] <;> simpa [Sy.d, W2.s] using q'
theorem made3_ok {fu k : Nat} {M N : Int} {box : List OT} {w : W3} {a b : Tm} {Q : OT → List OT → Prop} (hk : 6 ≤ k) (hb : Bx N box) (hN : N + 10 < 1000000)
    (ha : a.good) (hb' : b.good) (q : ∀ (s : Sy) (box' : List OT), Bx (N + 10) box' → s.ok → Q (.sh s.d) [.lst box', .sh .none, .sh .none, .sh .none, .sh .none]) : Wr (evF T fu k 18 [.lst box, .sh (.str w.s), .sh a.d, .sh b.d, .sh (.int M)]) Q := by
  refine w_def (by omega) (fd := r_law_made.fd) rfl (ρ := [.val true (.lst box), .val false (.sh (.str w.s)), .val false (.sh a.d), .val false (.sh b.d), .val false (.sh (.int M))]) rfl ?_
  show Wo (evS _ fu b_law_made [.val true (.lst box), .val false (.sh (.str w.s)), .val false (.sh a.d), .val false (.sh b.d), .val false (.sh (.int M)), .non]) (finr [true, false, false, false, false] Q)
  unfold b_law_made
  have q' : ∀ (n : Int) b1, 0 ≤ n → Bx (N + 5) b1 → _ := fun n b1 h0 h1 => q (.num w n a b) b1 (h1.mono (by omega)) ⟨h0, ha, hb'⟩
  cases w <;> simp -dsimp [W3.s] <;> refine number_ok (by omega) hb (by omega) (fun r b1 hb1 h0 => ?_) <;> simp -dsimp <;> simpa [Sy.d, W3.s] using q' r b1 h0 hb1
theorem madeS_ok {fu k : Nat} {M N : Int} {box : List OT} {w : WS} {a b : Tm} {Q : OT → List OT → Prop} (hk : 6 ≤ k) (hb : Bx N box) (hN : N + 10 < 1000000)
    (ha : a.good) (hb' : b.good) (q : ∀ (s : Sy) (box' : List OT), Bx (N + 10) box' → s.ok → Q (.sh s.d) [.lst box', .sh .none, .sh .none, .sh .none, .sh .none]) : Wr (evF T fu k 18 [.lst box, .sh (.str w.s), .sh a.d, .sh b.d, .sh (.int M)]) Q := by
  refine w_def (by omega) (fd := r_law_made.fd) rfl (ρ := [.val true (.lst box), .val false (.sh (.str w.s)), .val false (.sh a.d), .val false (.sh b.d), .val false (.sh (.int M))]) rfl ?_
  show Wo (evS _ fu b_law_made [.val true (.lst box), .val false (.sh (.str w.s)), .val false (.sh a.d), .val false (.sh b.d), .val false (.sh (.int M)), .non]) (finr [true, false, false, false, false] Q)
  unfold b_law_made
  have q' : ∀ n m b1, Bx (N + 5) b1 → _ := fun n m b1 h1 => q (.shr w n m a b) b1 (h1.mono (by omega)) ⟨ha, hb'⟩
  have hw : w.s ≠ ("least" : Str) ∧ w.s ≠ ("most" : Str) ∧ w.s ≠ ("just" : Str) ∧ (w.s = ("share" : Str) ∨ w.s = ("under" : Str)) := by cases w <;> simp [WS.s]
  have e1 : C2.b .isin (.str w.s) (.tuple [.str "least", .str "most", .str "just"]) = some false := by cases w <;> simp [WS.s]
  have e2 : C2.b .isin (.str w.s) (.tuple [.str "share", .str "under"]) = some true := by cases w <;> simp [WS.s]
  simp -dsimp [e1, e2, -mem_str2, -mem_str3]
  refine at_mem (by split <;> omega) (by simp; split <;> omega) fun x hx => ?_
  simp only [List.mem_cons, List.not_mem_nil, or_false] at hx
  have hx' : ∃ z : Int, x = .int z ∧ 0 < z ∧ z ≤ 12 := by rcases hx with rfl | rfl <;> exact ⟨_, rfl, by omega, by omega⟩
  obtain ⟨z, rfl, hz0, hz1⟩ := hx'
  simp -dsimp
  refine take_ok (by omega) hb (by omega) (by omega) (by omega) fun r1 b1 hb1 h10 h11 => ?_
  simp -dsimp
  refine take_ok (by omega) hb1 (by omega) (by omega) (by omega) fun r2 b2 hb2 h20 h21 => ?_
  simp -dsimp
  refine at_mem h20 (by simpa using h21) fun y hy => ?_
  simp only [List.mem_cons, List.not_mem_nil, or_false] at hy
  have hy' : ∃ z : Int, y = .int z ∧ 0 < z ∧ z ≤ 20 := by rcases hy with rfl | rfl | rfl <;> exact ⟨_, rfl, by omega, by omega⟩
  obtain ⟨v, rfl, hv0, hv1⟩ := hy'
  simp -dsimp
  refine take_ok (by omega) hb2 (by omega) (by omega) (by omega) fun r3 b3 hb3 h30 h31 => ?_
  simp -dsimp
  simpa [Sy.d] using q' r3 v b3 (hb3.mono (by omega))
theorem saying_ok {fu k : Nat} {m M N : Int} {box : List OT} {Q : OT → List OT → Prop} (hm0 : 0 < m) (hm : m ≤ 3) (hk : 8 ≤ k) (hb : Bx N box) (hN : N + 100 < 1000000)
    (q : ∀ (s : Sy) (box' : List OT), Bx (N + 100) box' → s.ok → Q (.sh s.d) [.lst box', .sh .none, .sh .none]) : Wr (evF T fu k 19 [.lst box, .sh (.int m), .sh (.int M)]) Q := by
  refine w_def (by omega) (fd := r_law_saying.fd) rfl (ρ := [.val true (.lst box), .val false (.sh (.int m)), .val false (.sh (.int M))]) rfl ?_
  show Wo (evS _ fu b_law_saying [.val true (.lst box), .val false (.sh (.int m)), .val false (.sh (.int M)), .non, .non, .non]) (finr [true, false, false] Q)
  unfold b_law_saying
  simp -dsimp
  refine take_ok (by omega) hb (by omega) (by omega) (by omega) fun r1 b1 hb1 h10 h11 => ?_
  simp -dsimp
  refine at_mem h10 (by simpa using h11) fun x hx => ?_
  have hx' : (∃ w : W2, x = .str w.s) ∨ (∃ w : W3, x = .str w.s) ∨ ∃ w : WS, x = .str w.s := by
    simp only [List.mem_cons, List.not_mem_nil, or_false] at hx
    rcases hx with rfl | rfl | rfl | rfl | rfl | rfl | rfl | rfl | rfl | rfl | rfl
    · exact .inl ⟨.all, rfl⟩
    · exact .inl ⟨.notall, rfl⟩
    · exact .inl ⟨.some, rfl⟩
    · exact .inl ⟨.none, rfl⟩
    · exact .inr (.inl ⟨.least, rfl⟩)
    · exact .inr (.inl ⟨.most, rfl⟩)
    · exact .inr (.inl ⟨.just, rfl⟩)
    · exact .inl ⟨.more, rfl⟩
    · exact .inl ⟨.asmany, rfl⟩
    · exact .inr (.inr ⟨.share, rfl⟩)
    · exact .inr (.inr ⟨.under, rfl⟩)
  simp -dsimp
  refine take_ok (by omega) hb1 (by omega) (by omega) (by omega) fun r2 b2 hb2 h20 h21 => ?_
  simp -dsimp
  refine at_mem h20 (by simpa using h21) fun y hy => ?_
  simp only [List.mem_cons, List.not_mem_nil, or_false] at hy
  have hy' : ∃ d : Nat, y = .int ((d : Int) + 1) ∧ d ≤ 2 := by rcases hy with rfl | rfl | rfl | rfl <;> first | exact ⟨0, rfl, by omega⟩ | exact ⟨1, rfl, by omega⟩ | exact ⟨2, rfl, by omega⟩
  obtain ⟨d, rfl, hd⟩ := hy'
  have hc : ct d ≤ 14 := by
    have : d = 0 ∨ d = 1 ∨ d = 2 := by omega
    rcases this with rfl | rfl | rfl <;> decide
  rcases hx' with ⟨w, rfl⟩ | ⟨w, rfl⟩ | ⟨w, rfl⟩
  all_goals
    simp -dsimp
    refine term_ok hm0 hm d (k - 1) rfl (by omega) hb2 (by omega) fun t b3 hb3 ho3 hh3 => ?_
    simp -dsimp
    refine term_ok hm0 hm d (k - 1) rfl (by omega) hb3 (by omega) fun u b4 hb4 ho4 hh4 => ?_
    simp -dsimp
  · refine made2_ok (by omega) hb4 (by omega) ⟨ho3, by omega⟩ ⟨ho4, by omega⟩ fun s b5 hb5 hs => ?_
    simp -dsimp
    exact q s b5 (hb5.mono (by omega)) hs
  · refine made3_ok (by omega) hb4 (by omega) ⟨ho3, by omega⟩ ⟨ho4, by omega⟩ fun s b5 hb5 hs => ?_
    simp -dsimp
    exact q s b5 (hb5.mono (by omega)) hs
  · refine madeS_ok (by omega) hb4 (by omega) ⟨ho3, by omega⟩ ⟨ho4, by omega⟩ fun s b5 hb5 hs => ?_
    simp -dsimp
    exact q s b5 (hb5.mono (by omega)) hs
end K94

set_option Elab.async false
set_option linter.all false
set_option maxRecDepth 100000
set_option maxHeartbeats 4000000
namespace K94
open PySem L2 Pv Pv.Wp
/-! lists of one's own -/
theorem erase_map {α β : Type} (f : α → β) : ∀ (l : List α) (j : Nat), (l.map f).eraseIdx j = (l.eraseIdx j).map f
  | [], _ => rfl
  | x :: l, 0 => rfl
  | x :: l, j + 1 => by
    rw [List.map_cons, List.eraseIdx_cons_succ, List.eraseIdx_cons_succ, List.map_cons, erase_map f l j]
def shL (ds : List D) : List OT := ds.map .sh
@[simp] theorem map_sh {ds : List D} : List.map OT.sh ds = shL ds := rfl
@[simp] theorem shL_app {ds : List D} {d : D} : shL ds ++ [.sh d] = shL (ds ++ [d]) := by unfold shL; rw [List.map_append]; rfl
@[simp] theorem shL_len {ds : List D} : (shL ds).length = ds.length := by unfold shL; rw [List.length_map]
@[simp] theorem rdVar_shL {ds : List D} {ρ : Pv.Env} : rdVar 0 (.val false (.lst (shL ds)) :: ρ) = some (.list ds, .val false (.sh (.list ds)) :: ρ) := rdVar_lst
@[simp] theorem fz_shL {ds : List D} : OT.fz (.lst (shL ds)) = some (.list ds) := Pv.Wp.fz_lst
@[simp] theorem shL_get {ds : List D} {j : Nat} : (shL ds)[j]? = (ds[j]?).map OT.sh := by unfold shL; rw [List.getElem?_map]
@[simp] theorem shL_erase {ds : List D} {j : Nat} : (shL ds).eraseIdx j = shL (ds.eraseIdx j) := by unfold shL; rw [erase_map]
@[simp] theorem fzs_shL {ds : List D} : OT.fzs (shL ds) = some ds := fzs_sh ds
@[simp] theorem fzs_nil : OT.fzs [] = some [] := by unfold OT.fzs; rfl
@[simp] theorem fzs_cons {d : D} {ts : List OT} : OT.fzs (.sh d :: ts) = (OT.fzs ts).map (d :: ·) := by
  conv => lhs; unfold OT.fzs
  rw [Pv.Wp.fz_sh]
  cases OT.fzs ts <;> rfl
@[simp] theorem fz_own {ts : List OT} : OT.fz (.lst ts) = (OT.fzs ts).map .list := by
  conv => lhs; unfold OT.fz
@[simp] theorem rdVar_own {ts : List OT} {ρ : Pv.Env} : rdVar 0 (.val false (.lst ts) :: ρ) = (OT.fzs ts).map fun ds => (.list ds, .val false (.sh (.list ds)) :: ρ) := by
  unfold rdVar
  simp only [List.getElem?_cons_zero]
  rw [fz_own]
  cases OT.fzs ts <;> rfl
theorem shL_nil : ([] : List OT) = shL [] := rfl
/-! data that can be compared -/
def Lay (n : Nat) (d : D) : Prop := d.canLay0 = true ∧ d.depth ≤ n
theorem layAll {n : Nat} : ∀ {xs : List D}, (∀ x ∈ xs, Lay n x) → PyData.canLayAll0 xs = true ∧ PyData.depthAll xs ≤ n
  | [], _ => ⟨by simp [PyData.canLayAll0], by simp [PyData.depthAll]⟩
  | x :: xs, h => by
    have h1 := h x (List.mem_cons_self ..)
    have h2 := layAll fun y hy => h y (List.mem_cons_of_mem _ hy)
    exact ⟨by simp [PyData.canLayAll0, h1.1, h2.1], by simp only [PyData.depthAll]; have := h1.2; omega⟩
theorem lay_list {n : Nat} {xs : List D} (h : ∀ x ∈ xs, Lay n x) : Lay (n + 1) (.list xs) := by
  have := layAll h
  exact ⟨by simpa [PyData.canLay0] using this.1, by simp only [PyData.depth]; omega⟩
theorem lay_tup {n : Nat} {xs : List D} (h : ∀ x ∈ xs, Lay n x) : Lay (n + 1) (.tuple xs) := by
  have := layAll h
  exact ⟨by simpa [PyData.canLay0] using this.1, by simp only [PyData.depth]; omega⟩
theorem lay_int {n : Nat} {i : Int} : Lay n (.int i) := ⟨by simp [PyData.canLay0], by simp [PyData.depth]⟩
theorem Lay.mono {n m : Nat} {d : D} (h : Lay n d) (l : n ≤ m) : Lay m d := ⟨h.1, Nat.le_trans h.2 l⟩
theorem Lay.shaped {n : Nat} {d : D} (h : Lay n d) (l : n ≤ 64) : SeqAt.shaped d = true := by
  unfold SeqAt.shaped
  rw [h.1, decide_eq_true (Nat.le_trans h.2 l)]; rfl
theorem lay_str {n : Nat} {s : Str} (h : PyData.strOk s = true) : Lay n (.str s) := ⟨by simpa [PyData.canLay0] using h, by simp [PyData.depth]⟩
theorem Tm.lay : ∀ t : Tm, Lay (t.hgt + 1) t.d
  | .any => lay_tup fun x hx => by simp at hx; subst hx; exact lay_str (by decide +kernel)
  | .is i => lay_tup fun x hx => by
    simp at hx
    rcases hx with rfl | rfl
    · exact lay_str (by decide +kernel)
    · exact lay_int
  | .not t => lay_tup fun x hx => by
    simp at hx
    rcases hx with rfl | rfl
    · exact lay_str (by decide +kernel)
    · exact t.lay.mono (by simp [Tm.hgt])
  | .and t u => lay_tup fun x hx => by
    simp at hx
    rcases hx with rfl | rfl | rfl
    · exact lay_str (by decide +kernel)
    · exact t.lay.mono (by simp only [Tm.hgt]; omega)
    · exact u.lay.mono (by simp only [Tm.hgt]; omega)
  | .or t u => lay_tup fun x hx => by
    simp at hx
    rcases hx with rfl | rfl | rfl
    · exact lay_str (by decide +kernel)
    · exact t.lay.mono (by simp only [Tm.hgt]; omega)
    · exact u.lay.mono (by simp only [Tm.hgt]; omega)
theorem Sy.lay : ∀ s : Sy, s.ok → Lay 6 s.d
  | .two w a b, ⟨ha, hb⟩ => lay_tup fun x hx => by
    simp at hx
    rcases hx with rfl | rfl | rfl
    · cases w <;> exact lay_str (by decide +kernel)
    · exact a.lay.mono (by have := ha.2; omega)
    · exact b.lay.mono (by have := hb.2; omega)
  | .num w n a b, ⟨_, ha, hb⟩ => lay_tup fun x hx => by
    simp at hx
    rcases hx with rfl | rfl | rfl | rfl
    · cases w <;> exact lay_str (by decide +kernel)
    · exact lay_int
    · exact a.lay.mono (by have := ha.2; omega)
    · exact b.lay.mono (by have := hb.2; omega)
  | .shr w t b x y, ⟨hx', hy'⟩ => lay_tup fun z hz => by
    simp at hz
    rcases hz with rfl | rfl | rfl | rfl | rfl
    · cases w <;> exact lay_str (by decide +kernel)
    · exact lay_int
    · exact lay_int
    · exact x.lay.mono (by have := hx'.2; omega)
    · exact y.lay.mono (by have := hy'.2; omega)
def syD (l : List Sy) : List D := l.map Sy.d
@[simp] theorem map_sy {l : List Sy} : List.map Sy.d l = syD l := rfl
@[simp] theorem syD_app {l : List Sy} {s : Sy} : syD l ++ [s.d] = syD (l ++ [s]) := by unfold syD; rw [List.map_append]; rfl
@[simp] theorem syD_app2 {l m : List Sy} : syD l ++ syD m = syD (l ++ m) := by unfold syD; rw [List.map_append]
@[simp] theorem syD_len {l : List Sy} : (syD l).length = l.length := by unfold syD; rw [List.length_map]
@[simp] theorem syD_get {l : List Sy} {j : Nat} : (syD l)[j]? = (l[j]?).map Sy.d := by unfold syD; rw [List.getElem?_map]
@[simp] theorem syD_erase {l : List Sy} {j : Nat} : (syD l).eraseIdx j = syD (l.eraseIdx j) := by unfold syD; rw [erase_map]
theorem syD_nil : ([] : List D) = syD [] := rfl
theorem lay_syD {l : List Sy} (h : ∀ s ∈ l, s.ok) : Lay 7 (.list (syD l)) := lay_list fun x hx => by
  obtain ⟨s, hs, rfl⟩ := List.mem_map.mp hx
  exact s.lay (h s hs)
theorem ne_nil {xs : List D} {n : Nat} (h : Lay n (.list xs)) (hn : n ≤ 64) : C2.b .ne (.list xs) (.list []) = some (!xs.isEmpty) := by
  have e : C2.b .ne (.list xs) (.list []) = (if SeqAt.shaped (.list xs) = true ∧ SeqAt.shaped (.list []) = true then some (PyData.eqv (.list xs) (.list [])) else none).map not := rfl
  rw [e, if_pos ⟨h.shaped hn, (lay_list (n := 0) fun x hx => by cases hx).shaped (by omega)⟩]
  cases xs with
  | nil => simp [PyData.eqv, PyData.eqvAll]
  | cons x xs => simp [PyData.eqv, PyData.eqvAll]
theorem rng_ok {i : Int} (h0 : -1000000 ≤ i) (h1 : i ≤ 1000000) : rngOk i = true := by
  unfold rngOk
  rw [decide_eq_true (by omega), decide_eq_true (by omega)]; rfl
@[simp] theorem rangeD_len {z : Int} : (rangeD 0 z).length = z.toNat := by unfold rangeD; simp
/-! slices -/
theorem cut_from {xs : List D} {n : Nat} : cutD xs (some (n : Int)) none = xs.drop n := by
  unfold cutD
  rw [HT.sIx_nat, HT.sIx_none]
  by_cases h : n ≤ xs.length
  · rw [Nat.min_eq_left h, List.take_of_length_le (by rw [List.length_drop]; omega)]
  · rw [Nat.min_eq_right (by omega)]
    simp; omega
theorem cut_to {xs : List D} {n : Nat} : cutD xs none (some (n : Int)) = xs.take n := by
  unfold cutD
  rw [HT.sIx_nat, HT.sIx_none, List.drop_zero, Nat.sub_zero]
  by_cases h : n ≤ xs.length
  · rw [Nat.min_eq_left h]
  · rw [Nat.min_eq_right (by omega), List.take_of_length_le (Nat.le_refl _), List.take_of_length_le (by omega)]
@[simp] theorem sl_t1 {xs : List D} : slD (.tuple xs) (some 1) none = some (.tuple (xs.drop 1)) := congrArg (fun x => some (PyData.tuple x)) (cut_from (n := 1))
@[simp] theorem sl_t2 {xs : List D} : slD (.tuple xs) (some 2) none = some (.tuple (xs.drop 2)) := congrArg (fun x => some (PyData.tuple x)) (cut_from (n := 2))
@[simp] theorem sl_l1 {xs : List D} : slD (.list xs) (some 1) none = some (.list (xs.drop 1)) := congrArg (fun x => some (PyData.list x)) (cut_from (n := 1))
@[simp] theorem sl_m1 {xs : List D} : slD (.list xs) none (some 1) = some (.list (xs.take 1)) := congrArg (fun x => some (PyData.list x)) (cut_to (n := 1))
@[simp] theorem sl_m3 {xs : List D} : slD (.list xs) none (some 3) = some (.list (xs.take 3)) := congrArg (fun x => some (PyData.list x)) (cut_to (n := 3))
@[simp] theorem sl_m40 {xs : List D} : slD (.list xs) none (some 40) = some (.list (xs.take 40)) := congrArg (fun x => some (PyData.list x)) (cut_to (n := 40))
@[simp] theorem isDct_0 {b : Bool} {kds : List (Key × D)} {ρ : Pv.Env} : isDct (.val b (.dK kds) :: ρ) 0 = true := rfl
@[simp] theorem isDct_1 {s : Slot} {i : Nat} {ρ : Pv.Env} : isDct (s :: ρ) (i + 1) = isDct ρ i := rfl
/-! a hidden world -/
def wI (m M N : Int) (ds : List D) (ρ : Pv.Env) : Prop := ∃ (box : List OT) (left : Int) (w : List Int) (o5 o6 : Option OT), Bx (N + 3 * (16 - ds.length)) box ∧ 0 ≤ left ∧ left + w.sum = M ∧ (∀ x ∈ w, 0 ≤ x) ∧ w.length + ds.length ≤ 16 ∧
  ρ = [.val true (.lst box), .val false (.sh (.int m)), .val false (.sh (.int M)), .val false (.sh (.int left)), .val false (.lst (shL (w.map .int))), frS o5, frS o6]
theorem world_ok {fu k : Nat} {m M N : Int} {box : List OT} {Q : OT → List OT → Prop} (hm0 : 0 < m) (hm : m ≤ 3) (hM0 : 0 ≤ M) (hM : M ≤ 8) (hk : 3 ≤ k) (hb : Bx N box) (hN : N + 100 < 1000000)
    (q : ∀ (w : List Int) (box' : List OT), Bx (N + 100) box' → W w → Q (.sh (wd w)) [.lst box', .sh .none, .sh .none]) : Wr (evF T fu k 20 [.lst box, .sh (.int m), .sh (.int M)]) Q := by
  refine w_def (by omega) (fd := r_law_world.fd) rfl (ρ := [.val true (.lst box), .val false (.sh (.int m)), .val false (.sh (.int M))]) rfl ?_
  show Wo (evS _ fu b_law_world [.val true (.lst box), .val false (.sh (.int m)), .val false (.sh (.int M)), .non, .non, .non, .non]) (finr [true, false, false] Q)
  unfold b_law_world
  simp -dsimp
  refine at_mem (by omega) (by simp; omega) fun x hx => ?_
  have hx' : ∃ z : Int, x = .int z ∧ 0 < z ∧ z ≤ 16 := by
    simp only [List.mem_cons, List.not_mem_nil, or_false] at hx
    rcases hx with rfl | rfl | rfl | rfl | rfl <;> exact ⟨_, rfl, by omega, by omega⟩
  obtain ⟨z, rfl, hz0, hz1⟩ := hx'
  simp -dsimp
  refine ⟨rng_ok (by omega) (by omega), for_inv (wI m M N) ?_ ?_ _ _ ⟨box, M, [], none, none, hb.mono (by simp; omega), hM0, by simp, by simp, by simp; omega, rfl⟩⟩
  · rintro d ds ρ ⟨box, left, w, o5, o6, h1, h2, h3, h4, h5, rfl⟩
    simp only [List.length_cons] at h1 h5
    simp -dsimp
    refine take_ok (by omega) h1 (by omega) (by omega) (by omega) fun r1 b1 hb1 h10 h11 => ?_
    simp -dsimp
    refine take_ok (by omega) hb1 (by omega) (by omega) (by omega) fun r2 b2 hb2 h20 h21 => ?_
    simp -dsimp
    refine take_ok (by omega) hb2 (by omega) (by omega) (by omega) fun r3 b3 hb3 h30 h31 => ?_
    simp -dsimp
    refine at_mem h30 (by simpa using h31) fun x hx => ?_
    have hx' : ∃ z : Int, x = .int z ∧ 0 ≤ z := by
      simp only [List.mem_cons, List.not_mem_nil, or_false] at hx
      rcases hx with rfl | rfl | rfl | rfl | rfl <;> exact ⟨_, rfl, by omega⟩
    obtain ⟨z, rfl, hz⟩ := hx'
    simp -dsimp
    generalize hv : (if z < left then z else left) = v
    have hv0 : 0 ≤ v ∧ v ≤ left := by subst hv; split <;> omega
    refine ⟨by omega, ?_⟩
    unfold wI
    exact ⟨b3, left - v, w ++ [v], some _, some _, hb3.mono (by omega), by omega, by simp; omega, fun y hy => by
      rcases List.mem_append.mp hy with hy | hy
      · exact h4 y hy
      · simp at hy; omega, by simp; omega, by rw [List.map_append]; rfl⟩
  · rintro ρ ⟨box, left, w, o5, o6, h1, h2, h3, h4, h5, rfl⟩
    simp -dsimp
    exact q w box (h1.mono (by simp only [List.length_nil]; omega)) ⟨h4, by omega⟩
end K94

set_option Elab.async false
set_option linter.all false
set_option maxRecDepth 100000
set_option maxHeartbeats 4000000
namespace K94
open PySem L2 Pv Pv.Wp
theorem kept_one_ok {fu k : Nat} {m M N : Int} {box : List OT} {w : List Int} {Q : OT → List OT → Prop} (hm0 : 0 < m) (hm : m ≤ 3) (hk : 9 ≤ k) (hw : W w) (hb : Bx N box) (hN : N + 100 < 1000000)
    (q : ∀ (s : Sy) (box' : List OT), Bx (N + 100) box' → s.ok → Q (.sh s.d) [.lst box', .sh .none, .sh .none, .sh .none]) : Wr (evF T fu k 21 [.lst box, .sh (.int m), .sh (.int M), .sh (wd w)]) Q := by
  refine w_def (by omega) (fd := r_law_kept_one.fd) rfl (ρ := [.val true (.lst box), .val false (.sh (.int m)), .val false (.sh (.int M)), .val false (.sh (wd w))]) rfl ?_
  show Wo (evS _ fu b_law_kept_one [.val true (.lst box), .val false (.sh (.int m)), .val false (.sh (.int M)), .val false (.sh (wd w)), .non, .non, .non, .non, .non, .non]) (finr [true, false, false, false] Q)
  unfold b_law_kept_one
  simp -dsimp
  refine saying_ok hm0 hm (by omega) hb (by omega) fun s b1 hb1 hs => ?_
  simp -dsimp
  refine lholds_ok hw (by omega) s hs ?_
  simp -dsimp
  refine ⟨fun _ => ?_, fun _ => ?_⟩
  · simp -dsimp
    exact q s b1 hb1 hs
  · simp -dsimp
    cases s with
    | two u a b =>
      obtain ⟨ha, hb'⟩ := hs
      have q' : ∀ u' a' b', a'.good → b'.good → Q (.sh (.tuple [.str (W2.s u'), Tm.d a', Tm.d b'])) [.lst b1, .sh .none, .sh .none, .sh .none] := fun u' a' b' h1 h2 => q (.two u' a' b') b1 hb1 ⟨h1, h2⟩
      simp -dsimp [Sy.d]
      refine lcount_ok (by have := ha.2; have := hb'.2; omega) ha.1 hb'.1 ?_
      cases u <;> simp -dsimp [W2.s, dctD, keysOk, zipK, atD]
      · exact q' .notall a b ha hb'
      · exact q' .all a b ha hb'
      · exact q' .none a b ha hb'
      · exact q' .some a b ha hb'
      · exact q' .asmany b a hb' ha
      · exact q' .more b a hb' ha
    | num u n a b =>
      obtain ⟨hn, ha, hb'⟩ := hs
      have q' : ∀ n', 0 ≤ n' → Q (.sh (.tuple [.str (W3.s u), .int n', Tm.d a, Tm.d b])) [.lst b1, .sh .none, .sh .none, .sh .none] := fun n' h1 => q (.num u n' a b) b1 hb1 ⟨h1, ha, hb'⟩
      simp -dsimp [Sy.d]
      refine lcount_ok (by have := ha.2; have := hb'.2; omega) ha.1 hb'.1 ?_
      have hq := q' _ (bo_bd a b hw).1
      cases u <;> simp -dsimp [W3.s] <;> simpa [W3.s] using hq
    | shr u n m a b =>
      obtain ⟨ha, hb'⟩ := hs
      have q' : ∀ u', Q (.sh (.tuple [.str (WS.s u'), .int n, .int m, Tm.d a, Tm.d b])) [.lst b1, .sh .none, .sh .none, .sh .none] := fun u' => q (.shr u' n m a b) b1 hb1 ⟨ha, hb'⟩
      simp -dsimp [Sy.d]
      refine lcount_ok (by have := ha.2; have := hb'.2; omega) ha.1 hb'.1 ?_
      cases u <;> simp -dsimp [WS.s]
      · exact q' .under
      · exact q' .share
def kI (m M C N : Int) (w : List Int) (ds acc : List D) (ρ : Pv.Env) : Prop := ∃ (box : List OT) (l : List Sy), Bx (N + 100 * (20 - ds.length)) box ∧ acc = syD l ∧ (∀ s ∈ l, s.ok) ∧ l.length + ds.length ≤ 20 ∧
  ρ = [.val true (.lst box), .val false (.sh (.int m)), .val false (.sh (.int M)), .val false (.sh (wd w)), .val false (.sh (.int C)), .non]
theorem kept_ok {fu k : Nat} {m M C N : Int} {box : List OT} {w : List Int} {Q : OT → List OT → Prop} (hm0 : 0 < m) (hm : m ≤ 3) (hk : 10 ≤ k) (hw : W w) (hC0 : 0 ≤ C) (hC : C ≤ 20) (hb : Bx N box) (hN : N + 3000 < 1000000)
    (q : ∀ (l : List Sy) (box' : List OT), Bx (N + 2000) box' → (∀ s ∈ l, s.ok) → l.length ≤ 20 → Q (.lst (shL (syD l))) [.lst box', .sh .none, .sh .none, .sh .none, .sh .none]) : Wr (evF T fu k 22 [.lst box, .sh (.int m), .sh (.int M), .sh (wd w), .sh (.int C)]) Q := by
  refine w_def (by omega) (fd := r_law_kept.fd) rfl (ρ := [.val true (.lst box), .val false (.sh (.int m)), .val false (.sh (.int M)), .val false (.sh (wd w)), .val false (.sh (.int C))]) rfl ?_
  show Wo (evS _ fu b_law_kept [.val true (.lst box), .val false (.sh (.int m)), .val false (.sh (.int M)), .val false (.sh (wd w)), .val false (.sh (.int C)), .non]) (finr [true, false, false, false, false] Q)
  unfold b_law_kept
  simp -dsimp
  refine ⟨rng_ok (by omega) (by omega), comp_inv' (kI m M C N w) ?_ ?_ _ _ _ ⟨box, [], hb.mono (by simp; omega), rfl, by simp, by simp; omega, rfl⟩⟩
  · rintro d ds acc ρ ⟨box, l, h1, rfl, h3, h4, rfl⟩
    simp only [List.length_cons] at h1 h4
    simp -dsimp
    refine kept_one_ok hm0 hm (by omega) hw h1 (by omega) fun s b1 hb1 hs => ?_
    simp -dsimp
    refine ⟨by omega, ?_⟩
    unfold kI
    exact ⟨b1, l ++ [s], hb1.mono (by omega), rfl, fun x hx => by
      rcases List.mem_append.mp hx with hx | hx
      · exact h3 x hx
      · simp at hx; rw [hx]; exact hs, by simp; omega, rfl⟩
  · rintro acc ρ ⟨box, l, h1, rfl, h3, h4, rfl⟩
    simp -dsimp
    exact q l box (h1.mono (by simp only [List.length_nil]; omega)) h3 (by simp at h4; omega)
theorem class_ok {fu k : Nat} {m N : Int} {box : List OT} {Q : OT → List OT → Prop} (hm0 : 0 < m) (hm : m ≤ 3) (hk : 2 ≤ k) (hb : Bx N box) (hN : N < 1000000)
    (q : ∀ (i : Nat) (box' : List OT), Bx (N + 1) box' → i < 4 → Q (.sh (.tuple [.str "is", .int i])) [.lst box', .sh .none]) : Wr (evF T fu k 23 [.lst box, .sh (.int m)]) Q := by
  refine w_def (by omega) (fd := r_law_class.fd) rfl (ρ := [.val true (.lst box), .val false (.sh (.int m))]) rfl ?_
  show Wo (evS _ fu b_law_class [.val true (.lst box), .val false (.sh (.int m))]) (finr [true, false] Q)
  unfold b_law_class
  simp -dsimp
  refine take_ok (by omega) hb (by omega) (by omega) (by omega) fun r1 b1 hb1 h10 h11 => ?_
  simp -dsimp
  have := q r1.toNat b1 hb1 (by omega)
  rwa [Int.toNat_of_nonneg h10] at this
theorem is_good {i : Nat} (h : i < 4) : (Tm.is i).good := ⟨h, by simp [Tm.hgt]⟩
theorem any_good : Tm.any.good := ⟨trivial, by simp [Tm.hgt]⟩
theorem not_good {i : Nat} (h : i < 4) : (Tm.not (.is i)).good := ⟨h, by simp [Tm.hgt]⟩
/-- what a kind of sayings is -/
def kd (l : List Sy) (s : Sy) : D := .tuple [.list (syD l), s.d]
theorem counts_ok {fu k : Nat} {m M N : Int} {box : List OT} {Q : OT → List OT → Prop} (hm0 : 0 < m) (hm : m ≤ 3) (hk : 4 ≤ k) (hb : Bx N box) (hN : N + 100 < 1000000)
    (q : ∀ (l : List Sy) (s : Sy) (box' : List OT), Bx (N + 100) box' → (∀ x ∈ l, x.ok) → l.length ≤ 10 → s.ok → Q (.sh (kd l s)) [.lst box', .sh .none, .sh .none]) : Wr (evF T fu k 25 [.lst box, .sh (.int m), .sh (.int M)]) Q := by
  refine w_def (by omega) (fd := r_law_counts.fd) rfl (ρ := [.val true (.lst box), .val false (.sh (.int m)), .val false (.sh (.int M))]) rfl ?_
  show Wo (evS _ fu b_law_counts [.val true (.lst box), .val false (.sh (.int m)), .val false (.sh (.int M)), .non, .non, .non, .non, .non, .non, .non]) (finr [true, false, false] Q)
  unfold b_law_counts
  simp -dsimp
  refine class_ok hm0 hm (by omega) hb (by omega) fun i b1 hb1 hi => ?_
  simp -dsimp
  refine class_ok hm0 hm (by omega) hb1 (by omega) fun j b2 hb2 hj => ?_
  simp -dsimp
  refine take_ok (by omega) hb2 (by omega) (by omega) (by omega) fun n b3 hb3 hn0 hn1 => ?_
  simp -dsimp
  refine take_ok (by omega) hb3 (by omega) (by omega) (by omega) fun v b4 hb4 hv0 hv1 => ?_
  simp -dsimp
  refine take_ok (by omega) hb4 (by omega) (by omega) (by omega) fun z b5 hb5 hz0 hz1 => ?_
  have heq : ∃ r, C2.b .eq (.tuple [.str "is", .int i]) (.tuple [.str "is", .int j]) = some r := by
    have h1 := ((Tm.is i).lay).shaped (by simp [Tm.hgt])
    have h2 := ((Tm.is j).lay).shaped (by simp [Tm.hgt])
    exact ⟨_, show (if SeqAt.shaped (Tm.is i).d = true ∧ SeqAt.shaped (Tm.is j).d = true then some (PyData.eqv (Tm.is i).d (Tm.is j).d) else none) = _ from if_pos ⟨h1, h2⟩⟩
  obtain ⟨r, hr⟩ := heq
  simp -dsimp [hr]
  have fin : ∀ (wh du : Int) (b6 : List OT), 0 ≤ wh → 0 ≤ du → Bx (N + 6) b6 → Q (.sh (.tuple [.list [.tuple [.str "least", .int n, .tuple [.str "any"], .tuple [.str "is", .int i]], .tuple [.str "least", .int v, .tuple [.str "any"], .tuple [.str "is", .int j]], .tuple [.str "most", .int wh, .tuple [.str "any"], .tuple [.str "any"]]], .tuple [.str "least", .int du, .tuple [.str "is", .int i], .tuple [.str "is", .int j]]])) [.lst b6, .sh .none, .sh .none] := fun wh du b6 h1 h2 h3 => by
    refine q [.num .least n .any (.is i), .num .least v .any (.is j), .num .most wh .any .any] (.num .least du (.is i) (.is j)) b6 (h3.mono (by omega)) (fun x hx => ?_) (by simp) ⟨h2, is_good hi, is_good hj⟩
    simp only [List.mem_cons, List.not_mem_nil, or_false] at hx
    rcases hx with rfl | rfl | rfl
    · exact ⟨hn0, any_good, is_good hi⟩
    · exact ⟨hv0, any_good, is_good hj⟩
    · exact ⟨h1, any_good, any_good⟩
  refine ⟨fun _ => ?_, fun _ => ?_⟩
  · simp -dsimp
    refine take_ok (by omega) hb5 (by omega) (by omega) (by omega) fun y b6 hb6 hy0 hy1 => ?_
    simp -dsimp
    refine fin _ _ _ ?_ ?_ (hb6.mono (by omega)) <;> (repeat' split) <;> omega
  · simp -dsimp
    refine take_ok (by omega) hb5 (by omega) (by omega) (by omega) fun y b6 hb6 hy0 hy1 => ?_
    simp -dsimp
    refine fin _ _ _ ?_ ?_ (hb6.mono (by omega)) <;> (repeat' split) <;> omega
theorem halves_ok {fu k : Nat} {m M N : Int} {box : List OT} {Q : OT → List OT → Prop} (hm0 : 0 < m) (hm : m ≤ 3) (hM : 0 ≤ M) (hk : 6 ≤ k) (hb : Bx N box) (hN : N + 100 < 1000000)
    (q : ∀ (l : List Sy) (s : Sy) (box' : List OT), Bx (N + 100) box' → (∀ x ∈ l, x.ok) → l.length ≤ 10 → s.ok → Q (.sh (kd l s)) [.lst box', .sh .none, .sh .none]) : Wr (evF T fu k 26 [.lst box, .sh (.int m), .sh (.int M)]) Q := by
  refine w_def (by omega) (fd := r_law_halves.fd) rfl (ρ := [.val true (.lst box), .val false (.sh (.int m)), .val false (.sh (.int M))]) rfl ?_
  show Wo (evS _ fu b_law_halves [.val true (.lst box), .val false (.sh (.int m)), .val false (.sh (.int M)), .non, .non, .non]) (finr [true, false, false] Q)
  unfold b_law_halves
  simp -dsimp
  refine term_ok hm0 hm 1 (k - 1) rfl (by omega) hb (by simp [ct]; omega) fun t b1 hb1 ho hh => ?_
  simp only [ct] at hb1
  simp -dsimp
  refine take_ok (by omega) hb1 (by omega) (by split <;> omega) (by split <;> omega) fun r b2 hb2 h0 h1 => ?_
  simp -dsimp
  refine ⟨div_ok (by omega) (by omega), ?_⟩
  refine q [.shr .share 1 2 .any t, .shr .share 1 2 .any (.not t), .num .just r .any .any] (.num .just (r / 2) .any t) b2 (hb2.mono (by omega)) (fun x hx => ?_) (by simp) ⟨by omega, any_good, ho, by omega⟩
  simp only [List.mem_cons, List.not_mem_nil, or_false] at hx
  rcases hx with rfl | rfl | rfl
  · exact ⟨any_good, ho, by omega⟩
  · exact ⟨any_good, ho, by simp only [Tm.hgt]; omega⟩
  · exact ⟨h0, any_good, any_good⟩
theorem shares_ok {fu k : Nat} {m M N : Int} {box : List OT} {Q : OT → List OT → Prop} (hm0 : 0 < m) (hm : m ≤ 3) (hk : 6 ≤ k) (hb : Bx N box) (hN : N + 100 < 1000000)
    (q : ∀ (l : List Sy) (s : Sy) (box' : List OT), Bx (N + 100) box' → (∀ x ∈ l, x.ok) → l.length ≤ 10 → s.ok → Q (.sh (kd l s)) [.lst box', .sh .none, .sh .none]) : Wr (evF T fu k 27 [.lst box, .sh (.int m), .sh (.int M)]) Q := by
  refine w_def (by omega) (fd := r_law_shares.fd) rfl (ρ := [.val true (.lst box), .val false (.sh (.int m)), .val false (.sh (.int M))]) rfl ?_
  show Wo (evS _ fu b_law_shares [.val true (.lst box), .val false (.sh (.int m)), .val false (.sh (.int M)), .non, .non, .non, .non, .non, .non]) (finr [true, false, false] Q)
  unfold b_law_shares
  simp -dsimp
  refine take_ok (by omega) hb (by omega) (by omega) (by omega) fun r b1 hb1 h0 h1 => ?_
  simp -dsimp
  refine take_ok (by omega) hb1 (by omega) (by omega) (by omega) fun t b2 hb2 h20 h21 => ?_
  simp -dsimp
  refine class_ok hm0 hm (by omega) hb2 (by omega) fun i b3 hb3 hi => ?_
  simp -dsimp
  refine class_ok hm0 hm (by omega) hb3 (by omega) fun j b4 hb4 hj => ?_
  simp -dsimp
  refine q [.shr .share t (2 + r) .any (.is i), .shr .share (2 + r - t) (2 + r) .any (.is j), .two .none (.is i) (.is j)] (.shr .share (2 + r - t) (2 + r) .any (.not (.is i))) b4 (hb4.mono (by omega)) (fun x hx => ?_) (by simp) ⟨any_good, not_good hi⟩
  simp only [List.mem_cons, List.not_mem_nil, or_false] at hx
  rcases hx with rfl | rfl | rfl
  · exact ⟨any_good, is_good hi⟩
  · exact ⟨any_good, is_good hj⟩
  · exact ⟨is_good hi, is_good hj⟩
end K94

set_option Elab.async false
set_option linter.all false
set_option maxRecDepth 100000
set_option maxHeartbeats 4000000
namespace K94
open PySem L2 Pv Pv.Wp
/-- numbers of classes -/
def isI (d : D) : Prop := ∃ i : Nat, i < 4 ∧ d = .int i
theorem isI_range {m : Int} (hm : m ≤ 3) : ∀ d ∈ rangeD 0 m, isI d := fun d hd => by
  unfold rangeD at hd
  obtain ⟨i, hi, rfl⟩ := List.mem_map.mp hd
  have := List.mem_range.mp hi
  exact ⟨i, by omega, by simp⟩
/-- the order: numbers are taken out -/
def poI (m N : Int) (rest : List Slot) (ds acc : List D) (ρ : Pv.Env) : Prop := ∃ (box : List OT) (l : List D), Bx (N + (3 - ds.length)) box ∧ l.length = ds.length ∧ acc.length + ds.length = m.toNat ∧ (∀ d ∈ l, isI d) ∧ (∀ d ∈ acc, isI d) ∧
  ρ = .val true (.lst box) :: .val false (.sh (.int m)) :: .val false (.lst (shL l)) :: rest
theorem pair_is {l : List D} (h : ∀ d ∈ l, isI d) : ∀ d ∈ zipD l l.tail, ∃ i j : Nat, i < 4 ∧ j < 4 ∧ d = .tuple [.int i, .int j] := fun d hd => by
  unfold zipD at hd
  obtain ⟨⟨a, b⟩, hp, rfl⟩ := List.mem_map.mp hd
  obtain ⟨ha, hb⟩ := List.of_mem_zip hp
  obtain ⟨i, hi, rfl⟩ := h a ha
  obtain ⟨j, hj, rfl⟩ := h b (List.mem_of_mem_tail hb)
  exact ⟨i, j, hi, hj, rfl⟩
theorem zip_len {l : List D} {n : Nat} (h : l.length ≤ n) : (zipD l l.tail).length ≤ n := by
  unfold zipD
  simp; omega
theorem last_is {l : List D} (h : ∀ d ∈ l, isI d) (h0 : 0 < l.length) : ∃ i : Nat, i < 4 ∧ atI l (-1) = some (.int i) := by
  have e : ixN l.length (-1) = some (l.length - 1) := by
    unfold ixN
    rw [if_neg (by omega), if_pos (by omega)]
    congr 1
    omega
  have hl : l.length - 1 < l.length := by omega
  obtain ⟨i, hi, hd⟩ := h _ (List.getElem_mem hl)
  exact ⟨i, hi, by unfold atI; rw [e, Option.bind_some, List.getElem?_eq_getElem hl, hd]⟩
theorem first_is {l : List D} (h : ∀ d ∈ l, isI d) (h0 : 0 < l.length) : ∃ i : Nat, i < 4 ∧ atI l 0 = some (.int i) := by
  cases l with
  | nil => simp at h0
  | cons x xs =>
    obtain ⟨i, hi, rfl⟩ := h x (List.mem_cons_self ..)
    exact ⟨i, hi, atI_c0⟩
theorem ixN_in {n : Nat} {k : Int} (h0 : 0 ≤ k) (h1 : k < n) : ixN n k = some k.toNat := by
  unfold ixN
  rw [if_pos h0, if_pos h1]
def chI (m : Int) (box : List OT) (order : List D) (ds : List D) (ρ : Pv.Env) : Prop := ∃ (l : List Sy) (o6 o7 : Option OT), (∀ s ∈ l, s.ok) ∧ l.length + ds.length ≤ 3 ∧ (∀ d ∈ ds, ∃ i j : Nat, i < 4 ∧ j < 4 ∧ d = .tuple [.int i, .int j]) ∧
  ρ = [.val true (.lst box), .val false (.sh (.int m)), .val false (.lst (shL [])), .val false (.sh (.list order)), .val false (.lst (shL (syD l))), .non, frS o6, frS o7, .non, .non, .non]
theorem chain_ok {fu k : Nat} {m N : Int} {box : List OT} {Q : OT → List OT → Prop} (hm0 : 0 < m) (hm : m ≤ 3) (hk : 6 ≤ k) (hb : Bx N box) (hN : N + 100 < 1000000)
    (q : ∀ (l : List Sy) (s : Sy) (box' : List OT), Bx (N + 100) box' → (∀ x ∈ l, x.ok) → l.length ≤ 10 → s.ok → Q (.sh (kd l s)) [.lst box', .sh .none]) : Wr (evF T fu k 24 [.lst box, .sh (.int m)]) Q := by
  refine w_def (by omega) (fd := r_law_chain.fd) rfl (ρ := [.val true (.lst box), .val false (.sh (.int m))]) rfl ?_
  show Wo (evS _ fu b_law_chain [.val true (.lst box), .val false (.sh (.int m)), .non, .non, .non, .non, .non, .non, .non, .non, .non]) (finr [true, false] Q)
  unfold b_law_chain
  simp -dsimp
  refine ⟨⟨rng_ok (by omega) (by omega), by omega⟩, rng_ok (by omega) (by omega), comp_inv' (poI m N [.non, .non, .non, .non, .non, .non, .non, .non]) ?_ ?_ _ _ _ ⟨box, rangeD 0 m, hb.mono (by simp; omega), rfl, by simp, isI_range hm, by simp, rfl⟩⟩
  · rintro d ds acc ρ ⟨box, l, h1, h2, h3, h4, h5, rfl⟩
    simp only [List.length_cons] at h1 h2 h3
    simp -dsimp
    refine take_ok (by omega) h1 (by omega) (by omega) (by omega) fun r b1 hb1 h10 h11 => ?_
    have hr : r.toNat < l.length := by omega
    simp -dsimp
    rw [rng_ok (by omega) (by omega), ixN_in h10 h11]
    simp -dsimp [List.getElem?_eq_getElem hr]
    refine ⟨by omega, ?_⟩
    unfold poI
    refine ⟨b1, l.eraseIdx r.toNat, hb1.mono (by omega), by rw [List.length_eraseIdx_of_lt hr]; omega, by simp; omega, fun d hd => h4 d (List.mem_of_mem_eraseIdx hd), fun d hd => ?_, rfl⟩
    rcases List.mem_append.mp hd with hd | hd
    · exact h5 d hd
    · simp at hd; rw [hd]; exact h4 _ (List.getElem_mem hr)
  · rintro acc ρ ⟨box, l, h1, h2, h3, h4, h5, rfl⟩
    simp only [List.length_nil] at h1 h2 h3
    have hl : l = [] := List.length_eq_zero_iff.mp h2
    subst hl
    have hacc : acc.length ≤ 3 := by omega
    have hacc0 : 0 < acc.length := by omega
    simp -dsimp
    refine for_inv (chI m box acc) ?_ ?_ _ _ ⟨[], none, none, by simp, by simp only [List.length_nil]; have := zip_len hacc; omega, pair_is h5, rfl⟩
    · rintro d ds ρ ⟨l, o6, o7, g1, g2, g3, rfl⟩
      obtain ⟨i, j, hi, hj, rfl⟩ := g3 d (List.mem_cons_self ..)
      simp only [List.length_cons] at g2
      simp -dsimp
      refine ⟨by omega, ?_⟩
      unfold chI
      exact ⟨l ++ [.two .all (.is i) (.is j)], some _, some _, fun x hx => by
        rcases List.mem_append.mp hx with hx | hx
        · exact g1 x hx
        · simp at hx; rw [hx]; exact ⟨is_good hi, is_good hj⟩, by simp; omega, fun d hd => g3 d (List.mem_cons_of_mem _ hd), by unfold syD; rw [List.map_append]; rfl⟩
    · rintro ρ ⟨l, o6, o7, g1, g2, g3, rfl⟩
      simp only [List.length_nil] at g2
      obtain ⟨i, hi, ei⟩ := first_is h5 hacc0
      obtain ⟨j, hj, ej⟩ := last_is h5 hacc0
      simp -dsimp
      refine take_ok (by omega) h1 (by omega) (by omega) (by omega) fun r b1 hb1 h10 h11 => ?_
      simp -dsimp
      refine at_mem h10 (by simpa using h11) fun x hx => ?_
      simp only [List.mem_cons, List.not_mem_nil, or_false] at hx
      have hb1' : Bx (N + 100) b1 := hb1.mono (by omega)
      have hq : ∀ w l', (∀ x ∈ l', x.ok) → l'.length ≤ 10 → Q (.sh (.tuple [.list (syD l'), .tuple [.str (W2.s w), .tuple [.str "is", .int i], .tuple [.str "is", .int j]]])) [.lst b1, .sh .none] := fun w l' hl hl2 => q l' (.two w (.is i) (.is j)) b1 hb1' hl hl2 ⟨is_good hi, is_good hj⟩
      rcases hx with rfl | rfl | rfl | rfl
      · simp -dsimp [ei, ej]
        exact hq .all l g1 (by omega)
      · simp -dsimp [ei, ej]
        exact hq .all l g1 (by omega)
      · simp -dsimp [ei, ej]
        refine ⟨by omega, ?_⟩
        have := hq .some (l ++ [.two .some (.is i) .any]) (fun x hx => by
          rcases List.mem_append.mp hx with hx | hx
          · exact g1 x hx
          · simp at hx; rw [hx]; exact ⟨is_good hi, any_good⟩) (by simp; omega)
        unfold syD at this
        rw [List.map_append] at this
        exact this
      · simp -dsimp [ei, ej]
        exact q l (.two .asmany (.is j) (.is i)) b1 hb1' g1 (by omega) ⟨is_good hj, is_good hi⟩
def moI (m N : Int) (order : List D) (ds : List D) (ρ : Pv.Env) : Prop := ∃ (box : List OT) (l : List Sy) (o6 o7 : Option OT), Bx (N + 10 - ds.length) box ∧ (∀ s ∈ l, s.ok) ∧ l.length + ds.length ≤ 3 ∧ (∀ d ∈ ds, ∃ i j : Nat, i < 4 ∧ j < 4 ∧ d = .tuple [.int i, .int j]) ∧
  ρ = [.val true (.lst box), .val false (.sh (.int m)), .val false (.lst (shL [])), .val false (.sh (.list order)), .val false (.lst (shL (syD l))), frS o6, frS o7, .non]
theorem more_ok {fu k : Nat} {m N : Int} {box : List OT} {Q : OT → List OT → Prop} (hm0 : 0 < m) (hm : m ≤ 3) (hk : 6 ≤ k) (hb : Bx N box) (hN : N + 100 < 1000000)
    (q : ∀ (l : List Sy) (s : Sy) (box' : List OT), Bx (N + 100) box' → (∀ x ∈ l, x.ok) → l.length ≤ 10 → s.ok → Q (.sh (kd l s)) [.lst box', .sh .none]) : Wr (evF T fu k 28 [.lst box, .sh (.int m)]) Q := by
  refine w_def (by omega) (fd := r_law_more.fd) rfl (ρ := [.val true (.lst box), .val false (.sh (.int m))]) rfl ?_
  show Wo (evS _ fu b_law_more [.val true (.lst box), .val false (.sh (.int m)), .non, .non, .non, .non, .non, .non]) (finr [true, false] Q)
  unfold b_law_more
  simp -dsimp
  refine ⟨⟨rng_ok (by omega) (by omega), by omega⟩, rng_ok (by omega) (by omega), comp_inv' (poI m N [.non, .non, .non, .non, .non]) ?_ ?_ _ _ _ ⟨box, rangeD 0 m, hb.mono (by simp; omega), rfl, by simp, isI_range hm, by simp, rfl⟩⟩
  · rintro d ds acc ρ ⟨box, l, h1, h2, h3, h4, h5, rfl⟩
    simp only [List.length_cons] at h1 h2 h3
    simp -dsimp
    refine take_ok (by omega) h1 (by omega) (by omega) (by omega) fun r b1 hb1 h10 h11 => ?_
    have hr : r.toNat < l.length := by omega
    simp -dsimp
    rw [rng_ok (by omega) (by omega), ixN_in h10 h11]
    simp -dsimp [List.getElem?_eq_getElem hr]
    refine ⟨by omega, ?_⟩
    unfold poI
    refine ⟨b1, l.eraseIdx r.toNat, hb1.mono (by omega), by rw [List.length_eraseIdx_of_lt hr]; omega, by simp; omega, fun d hd => h4 d (List.mem_of_mem_eraseIdx hd), fun d hd => ?_, rfl⟩
    rcases List.mem_append.mp hd with hd | hd
    · exact h5 d hd
    · simp at hd; rw [hd]; exact h4 _ (List.getElem_mem hr)
  · rintro acc ρ ⟨box, l, h1, h2, h3, h4, h5, rfl⟩
    simp only [List.length_nil] at h1 h2 h3
    have hl : l = [] := List.length_eq_zero_iff.mp h2
    subst hl
    have hacc : acc.length ≤ 3 := by omega
    have hacc0 : 0 < acc.length := by omega
    have hz := zip_len hacc
    simp -dsimp
    refine for_inv (moI m N acc) ?_ ?_ _ _ ⟨box, [], none, none, h1.mono (by omega), by simp, by simp only [List.length_nil]; omega, pair_is h5, rfl⟩
    · rintro d ds ρ ⟨box, l, o6, o7, g0, g1, g2, g3, rfl⟩
      obtain ⟨i, j, hi, hj, rfl⟩ := g3 d (List.mem_cons_self ..)
      simp only [List.length_cons] at g2 g0
      simp -dsimp
      refine take_ok (by omega) g0 (by omega) (by omega) (by omega) fun r b1 hb1 h10 h11 => ?_
      simp -dsimp
      refine at_mem h10 (by simpa using h11) fun x hx => ?_
      have hx' : ∃ w : W2, x = .str w.s := by
        simp only [List.mem_cons, List.not_mem_nil, or_false] at hx
        rcases hx with rfl | rfl
        · exact ⟨.more, rfl⟩
        · exact ⟨.asmany, rfl⟩
      obtain ⟨w, rfl⟩ := hx'
      simp -dsimp
      refine ⟨by omega, ?_⟩
      unfold moI
      exact ⟨b1, l ++ [.two w (.is i) (.is j)], some _, some _, hb1.mono (by omega), fun x hx => by
        rcases List.mem_append.mp hx with hx | hx
        · exact g1 x hx
        · simp at hx; rw [hx]; exact ⟨is_good hi, is_good hj⟩, by simp; omega, fun d hd => g3 d (List.mem_cons_of_mem _ hd), by unfold syD; rw [List.map_append]; rfl⟩
    · rintro ρ ⟨box, l, o6, o7, g0, g1, g2, g3, rfl⟩
      simp only [List.length_nil] at g2 g0
      obtain ⟨i, hi, ei⟩ := first_is h5 hacc0
      obtain ⟨j, hj, ej⟩ := last_is h5 hacc0
      simp -dsimp
      refine take_ok (by omega) g0 (by omega) (by omega) (by omega) fun r b1 hb1 h10 h11 => ?_
      simp -dsimp
      refine at_mem h10 (by simpa using h11) fun x hx => ?_
      have hx' : ∃ w : W2, x = .str w.s := by
        simp only [List.mem_cons, List.not_mem_nil, or_false] at hx
        rcases hx with rfl | rfl
        · exact ⟨.more, rfl⟩
        · exact ⟨.asmany, rfl⟩
      obtain ⟨w, rfl⟩ := hx'
      simp -dsimp [ei, ej]
      exact q l (.two w (.is i) (.is j)) b1 (hb1.mono (by omega)) g1 (by omega) ⟨is_good hi, is_good hj⟩
theorem kind_ok {fu k : Nat} {m M N : Int} {box : List OT} {Q : OT → List OT → Prop} (hm0 : 0 < m) (hm : m ≤ 3) (hM : 0 ≤ M) (hk : 8 ≤ k) (hb : Bx N box) (hN : N + 200 < 1000000)
    (q : ∀ (l : List Sy) (s : Sy) (box' : List OT), Bx (N + 200) box' → (∀ x ∈ l, x.ok) → l.length ≤ 10 → s.ok → Q (.sh (kd l s)) [.lst box', .sh .none, .sh .none]) : Wr (evF T fu k 29 [.lst box, .sh (.int m), .sh (.int M)]) Q := by
  refine w_def (by omega) (fd := r_law_told_kind.fd) rfl (ρ := [.val true (.lst box), .val false (.sh (.int m)), .val false (.sh (.int M))]) rfl ?_
  show Wo (evS _ fu b_law_told_kind [.val true (.lst box), .val false (.sh (.int m)), .val false (.sh (.int M)), .non]) (finr [true, false, false] Q)
  unfold b_law_told_kind
  simp -dsimp
  refine take_ok (by omega) hb (by omega) (by omega) (by omega) fun r b1 hb1 h10 h11 => ?_
  simp -dsimp
  refine Br_dec (fun _ => ?_) (fun _ => ?_)
  · simp -dsimp
    refine chain_ok hm0 hm (by omega) hb1 (by omega) fun l s b2 hb2 hl hl2 hs => ?_
    simp -dsimp
    exact q l s b2 (hb2.mono (by omega)) hl hl2 hs
  simp -dsimp
  refine Br_dec (fun _ => ?_) (fun _ => ?_)
  · simp -dsimp
    refine counts_ok hm0 hm (by omega) hb1 (by omega) fun l s b2 hb2 hl hl2 hs => ?_
    simp -dsimp
    exact q l s b2 (hb2.mono (by omega)) hl hl2 hs
  simp -dsimp
  refine Br_dec (fun _ => ?_) (fun _ => ?_)
  · simp -dsimp
    refine halves_ok hm0 hm hM (by omega) hb1 (by omega) fun l s b2 hb2 hl hl2 hs => ?_
    simp -dsimp
    exact q l s b2 (hb2.mono (by omega)) hl hl2 hs
  simp -dsimp
  refine Br_dec (fun _ => ?_) (fun _ => ?_)
  · simp -dsimp
    refine shares_ok hm0 hm (by omega) hb1 (by omega) fun l s b2 hb2 hl hl2 hs => ?_
    simp -dsimp
    exact q l s b2 (hb2.mono (by omega)) hl hl2 hs
  · simp -dsimp
    refine more_ok hm0 hm (by omega) hb1 (by omega) fun l s b2 hb2 hl hl2 hs => ?_
    simp -dsimp
    exact q l s b2 (hb2.mono (by omega)) hl hl2 hs
end K94

set_option Elab.async false
set_option linter.all false
set_option maxRecDepth 100000
set_option maxHeartbeats 4000000
namespace K94
open PySem L2 Pv Pv.Wp
def W2.turn : W2 → W2
  | .all => .notall | .notall => .all | .some => .none | .none => .some | .more => .asmany | .asmany => .more
def WS.turn : WS → WS
  | .share => .under | .under => .share
def Sy.opp : Sy → List Sy
  | .two .more a b => [.two .asmany b a]
  | .two .asmany a b => [.two .more b a]
  | .two w a b => [.two w.turn a b]
  | .shr w t b x y => [.shr w.turn t b x y]
  | .num .least n a b => if 0 < n then [.num .most (n - 1) a b] else []
  | .num .most n a b => [.num .least (n + 1) a b]
  | .num .just n a b => (if 0 < n then [.num .most (n - 1) a b] else []) ++ [.num .least (n + 1) a b]
theorem opp_ok {s : Sy} (h : s.ok) : ∀ x ∈ s.opp, x.ok := by
  intro x hx
  cases s with
  | two w a b =>
    cases w <;> simp [Sy.opp] at hx <;> subst hx <;> first | exact h | exact ⟨h.2, h.1⟩
  | num w n a b =>
    obtain ⟨hn, ha, hb⟩ := h
    cases w
    · simp only [Sy.opp] at hx
      split at hx
      · simp at hx; subst hx; exact ⟨by omega, ha, hb⟩
      · cases hx
    · simp [Sy.opp] at hx; subst hx; exact ⟨by omega, ha, hb⟩
    · simp only [Sy.opp] at hx
      split at hx
      · simp at hx
        rcases hx with rfl | rfl <;> exact ⟨by omega, ha, hb⟩
      · simp at hx; subst hx; exact ⟨by omega, ha, hb⟩
  | shr w t b x y => simp [Sy.opp] at hx; subst hx; exact h
theorem opp_len {s : Sy} : s.opp.length ≤ 2 := by
  cases s with
  | two w a b => cases w <;> simp [Sy.opp]
  | num w n a b => cases w <;> simp only [Sy.opp] <;> (try split) <;> simp
  | shr w t b x y => simp [Sy.opp]
theorem lk2 (w : W2) : gd_TURNED.lookup w.s = some (some w.turn.s) := by cases w <;> decide +kernel
theorem lk3 (w : W3) : gd_TURNED.lookup w.s = some none := by cases w <;> decide +kernel
theorem lkS (w : WS) : gd_TURNED.lookup w.s = some (some w.turn.s) := by cases w <;> decide +kernel
theorem opposites_ok {fu k : Nat} {s : Sy} {Q : OT → List OT → Prop} (hk : 1 ≤ k) (hs : s.ok) (q : Q (.lst (shL (syD s.opp))) [.sh .none]) : Wr (evF T fu k 4 [.sh s.d]) Q := by
  refine w_def (by omega) (fd := r_opposites.fd) rfl (ρ := [.val false (.sh s.d)]) rfl ?_
  show Wo (evS _ fu b_opposites [.val false (.sh s.d), .non, .non]) (finr [false] Q)
  unfold b_opposites
  cases s with
  | two w a b =>
    have e := lk2 w
    cases w <;> simp only [W2.s, W2.turn] at e <;> simp -dsimp [Sy.d, W2.s, e] <;> exact q
  | num w n a b =>
    have e := lk3 w
    cases w <;> simp only [W3.s] at e <;> simp -dsimp [Sy.d, W3.s, e]
    · refine Br_dec (fun h => ?_) (fun h => ?_)
      · simp -dsimp
        simp only [Sy.opp, if_pos h] at q
        exact q
      · simp -dsimp
        simp only [Sy.opp, if_neg h] at q
        exact q
    · exact q
    · refine Br_dec (fun h => ?_) (fun h => ?_)
      · simp -dsimp
        simp only [Sy.opp, if_pos h] at q
        exact q
      · simp -dsimp
        simp only [Sy.opp, if_neg h] at q
        exact q
  | shr w t b x y =>
    have e := lkS w
    cases w <;> simp only [WS.s, WS.turn] at e <;> simp -dsimp [Sy.d, WS.s, e] <;> exact q
theorem turned_ok {fu k : Nat} {s : Sy} {Q : OT → List OT → Prop} (hk : 1 ≤ k) (hs : s.ok) (q : Q (.lst (shL (syD s.opp))) [.sh .none]) : Wr (evF T fu k 30 [.sh s.d]) Q := by
  refine w_def (by omega) (fd := r_law_turned.fd) rfl (ρ := [.val false (.sh s.d)]) rfl ?_
  show Wo (evS _ fu b_law_turned [.val false (.sh s.d), .non, .non, .non, .non]) (finr [false] Q)
  unfold b_law_turned
  cases s with
  | two w a b =>
    cases w <;> simp -dsimp [Sy.d, W2.s, dctD, keysOk, zipK, atD, putD] <;> exact q
  | num w n a b =>
    cases w <;> simp -dsimp [Sy.d, W3.s, dctD, keysOk, zipK, atD, putD]
    · refine Br_dec (fun h => ?_) (fun h => ?_)
      · simp -dsimp
        simp only [Sy.opp, if_pos h] at q
        exact q
      · simp -dsimp
        simp only [Sy.opp, if_neg h] at q
        exact q
    · exact q
    · refine Br_dec (fun h => ?_) (fun h => ?_)
      · simp -dsimp
        simp only [Sy.opp, if_pos h] at q
        exact q
      · simp -dsimp
        simp only [Sy.opp, if_neg h] at q
        exact q
  | shr w t b x y =>
    cases w <;> simp -dsimp [Sy.d, WS.s, dctD, keysOk, zipK, atD, putD] <;> exact q
end K94

set_option Elab.async false
set_option linter.all false
set_option maxRecDepth 100000
set_option maxHeartbeats 4000000
namespace K94
open PySem L2 Pv Pv.Wp
theorem seq_cut {cl : Cl} {fu : Nat} {a b : Pv.St} {ρ : Pv.Env} {Q : Fl → Prop} (P : Pv.Env → Prop) (h1 : Wo (evS cl fu a ρ) fun r => nxT r P fun _ => False) (h2 : ∀ ρ', P ρ' → Wo (evS cl fu b ρ') Q) : Wo (evS cl fu (.seq a b) ρ) Q := by
  rw [s_seq]
  refine Wo_mono h1 fun r h => ?_
  cases r with
  | nx ρ' => exact h2 ρ' h
  | _ => exact h.elim
/-- a slot with sayings, shared or one's own -/
def frL (b : Bool) (l : List Sy) : Slot := if b = true then .val false (.sh (.list (syD l))) else .val false (.lst (shL (syD l)))
@[simp] theorem rdVar_frL {b : Bool} {l : List Sy} {ρ : Pv.Env} : rdVar 0 (frL b l :: ρ) = some (.list (syD l), .val false (.sh (.list (syD l))) :: ρ) := by
  cases b
  · exact rdVar_shL
  · rfl
@[simp] theorem putE_frL {b : Bool} {l : List Sy} {ρ : Pv.Env} {d : D} : putE (frL b l :: ρ) 0 d = some (.val false (.sh d) :: ρ) := by cases b <;> rfl
@[simp] theorem isLent_frL {b : Bool} {l : List Sy} {ρ : Pv.Env} : isLent (frL b l :: ρ) 0 = false := by cases b <;> rfl
theorem frL_t {l : List Sy} : Slot.val false (.sh (.list (syD l))) = frL true l := rfl
theorem frL_f {l : List Sy} : Slot.val false (.lst (shL (syD l))) = frL false l := rfl
theorem syD_take {l : List Sy} {n : Nat} : (syD l).take n = syD (l.take n) := by unfold syD; rw [List.map_take]
def sa1 (m M N : Int) (ρ : Pv.Env) : Prop := ∃ (box : List OT) (r : Int), Bx (N + 1) box ∧ 0 ≤ r ∧ r < 4 ∧ ρ = [.val true (.lst box), .val false (.sh (.int m)), .val false (.sh (.int M)), .val false (.sh (.int 3)), .val false (.sh (.int r)), .non, .non, .non, .non, .non]
def sa3 (m M N : Int) (ρ : Pv.Env) : Prop := ∃ (box : List OT) (r : Int) (b : Bool) (l : List Sy) (o8 : Option OT), Bx (N + 300) box ∧ (∀ s ∈ l, s.ok) ∧ l.length ≤ 12 ∧ ρ = [.val true (.lst box), .val false (.sh (.int m)), .val false (.sh (.int M)), .val false (.sh (.int 3)), .val false (.sh (.int r)), frL b l, .non, .non, frS o8, .non]
def sa4 (m M N : Int) (ρ : Pv.Env) : Prop := ∃ (box : List OT) (r : Int) (b : Bool) (l : List Sy) (o8 : Option OT), Bx (N + 1000) box ∧ (∀ s ∈ l, s.ok) ∧ l.length ≤ 12 ∧ ρ = [.val true (.lst box), .val false (.sh (.int m)), .val false (.sh (.int M)), .val false (.sh (.int 3)), .val false (.sh (.int r)), frL b l, .non, .non, frS o8, .non]
def saC (m M N r : Int) (o8 : Option OT) (ds acc : List D) (ρ : Pv.Env) : Prop := ∃ (box : List OT) (s5 : Slot) (l : List Sy), (s5 = .val false (.lst []) ∨ ∃ b l', s5 = frL b l') ∧ Bx (N + 100 * (5 - ds.length)) box ∧ acc = syD l ∧ (∀ s ∈ l, s.ok) ∧ l.length + ds.length ≤ 5 ∧
  ρ = [.val true (.lst box), .val false (.sh (.int m)), .val false (.sh (.int M)), .val false (.sh (.int 3)), .val false (.sh (.int r)), s5, .non, .non, frS o8, .non]
def saW (m M N r : Int) (w : List Int) (o8 : Option OT) (n : Nat) (ρ : Pv.Env) : Prop := ∃ (box : List OT) (l l2 : List Sy), Bx (N + 10 - n) box ∧ n = l.length ∧ (∀ s ∈ l, s.ok) ∧ (∀ s ∈ l2, s.ok) ∧ l2.length + l.length ≤ 3 ∧
  ρ = [.val true (.lst box), .val false (.sh (.int m)), .val false (.sh (.int M)), .val false (.sh (.int 3)), .val false (.sh (.int r)), .val false (.lst (shL (syD l))), .val false (.sh (wd w)), .val false (.lst (shL (syD l2))), frS o8, .non]
theorem app_ok {l m : List Sy} (h1 : ∀ s ∈ l, s.ok) (h2 : ∀ s ∈ m, s.ok) : ∀ s ∈ l ++ m, s.ok := fun s hs => by
  rcases List.mem_append.mp hs with h | h
  · exact h1 s h
  · exact h2 s h
theorem sayings_ok {fu k : Nat} {m M N : Int} {box : List OT} {Q : OT → List OT → Prop} (hfu : 100 ≤ fu) (hm0 : 0 < m) (hm : m ≤ 3) (hM : 0 ≤ M) (hM8 : M ≤ 8) (hk : 12 ≤ k) (hb : Bx N box) (hN : N + 10000 < 1000000)
    (q : ∀ (l : List Sy) (box' : List OT), Bx (N + 5000) box' → (∀ x ∈ l, x.ok) → l.length ≤ 3 → Q (.lst (shL (syD l))) [.lst box', .sh .none, .sh .none, .sh .none]) : Wr (evF T fu k 31 [.lst box, .sh (.int m), .sh (.int M), .sh (.int 3)]) Q := by
  refine w_def (by omega) (fd := r_law_sayings.fd) rfl (ρ := [.val true (.lst box), .val false (.sh (.int m)), .val false (.sh (.int M)), .val false (.sh (.int 3))]) rfl ?_
  show Wo (evS _ fu b_law_sayings [.val true (.lst box), .val false (.sh (.int m)), .val false (.sh (.int M)), .val false (.sh (.int 3)), .non, .non, .non, .non, .non, .non]) (finr [true, false, false, false] Q)
  unfold b_law_sayings
  refine seq_cut (sa1 m M N) ?_ fun ρ hρ => ?_
  · simp -dsimp
    refine take_ok (by omega) hb (by omega) (by omega) (by omega) fun r1 b1 hb1 h10 h11 => ?_
    simp -dsimp
    unfold sa1
    exact ⟨b1, r1, hb1, h10, h11, rfl⟩
  obtain ⟨box, r, hb, hr0, hr1, rfl⟩ := hρ
  refine seq_cut (fun ρ => ρ = [.val true (.lst box), .val false (.sh (.int m)), .val false (.sh (.int M)), .val false (.sh (.int 3)), .val false (.sh (.int r)), .val false (.lst []), .non, .non, .non, .non]) ?_ fun ρ hρ => ?_
  · simp -dsimp
  subst hρ
  refine seq_cut (sa3 m M N) ?_ fun ρ hρ => ?_
  · simp -dsimp
    refine Br_dec (fun _ => ?_) (fun _ => ?_)
    · simp -dsimp
      refine kind_ok hm0 hm hM (by omega) hb (by omega) fun l s b2 hb2 hl hl2 hs => ?_
      simp -dsimp [kd]
      refine Br_dec (fun _ => ?_) (fun _ => ?_)
      · simp -dsimp
        refine turned_ok (by omega) hs ?_
        simp -dsimp [syD_take]
        have := opp_len (s := s)
        refine ⟨by omega, ?_⟩
        unfold sa3
        exact ⟨b2, r, false, l ++ s.opp.take 1, some _, hb2.mono (by omega), app_ok hl fun x hx => opp_ok hs x (List.mem_of_mem_take hx), by simp; omega, rfl⟩
      · simp -dsimp
        unfold sa3
        exact ⟨b2, r, true, l, some _, hb2.mono (by omega), hl, by omega, rfl⟩
    · simp -dsimp
      unfold sa3
      exact ⟨box, r, false, [], none, hb.mono (by omega), by simp, by simp, rfl⟩
  obtain ⟨box, r, b, l, o8, hb, hl, hl2, rfl⟩ := hρ
  refine seq_cut (sa4 m M N) ?_ fun ρ hρ => ?_
  · simp -dsimp
    refine Br_dec (fun _ => ?_) (fun _ => ?_)
    · simp -dsimp
      refine take_ok (by omega) hb (by omega) (by omega) (by omega) fun r1 b1 hb1 h10 h11 => ?_
      simp -dsimp
      refine ⟨rng_ok (by omega) (by omega), comp_inv' (saC m M (N + 301) r o8) ?_ ?_ _ _ _ ⟨b1, _, [], .inr ⟨b, l, rfl⟩, hb1.mono (by simp; omega), rfl, by simp, by simp; omega, rfl⟩⟩
      · rintro d ds acc ρ ⟨box, s5, l, g0, g1, rfl, g3, g4, rfl⟩
        simp only [List.length_cons] at g1 g4
        simp -dsimp
        refine saying_ok hm0 hm (by omega) g1 (by omega) fun s b1 hb1 hs => ?_
        simp -dsimp
        refine ⟨by omega, ?_⟩
        unfold saC
        exact ⟨b1, s5, l ++ [s], g0, hb1.mono (by omega), rfl, app_ok g3 (by simpa using hs), by simp; omega, rfl⟩
      · rintro acc ρ ⟨box, s5, l, g0, g1, rfl, g3, g4, rfl⟩
        simp only [List.length_nil] at g1 g4
        have e5 : isLent (s5 :: ([.non, .non, frS o8, .non] : Pv.Env)) 0 = false := by
          rcases g0 with rfl | ⟨b, l', rfl⟩
          · rfl
          · exact isLent_frL
        simp -dsimp [e5]
        unfold sa4
        exact ⟨box, r, false, l, o8, g1.mono (by omega), g3, by omega, rfl⟩
    · simp -dsimp
      unfold sa4
      exact ⟨box, r, b, l, o8, hb.mono (by omega), hl, hl2, rfl⟩
  obtain ⟨box, r, b, l, o8, hb, hl, hl2, rfl⟩ := hρ
  simp -dsimp
  refine world_ok hm0 hm hM hM8 (by omega) hb (by omega) fun w b1 hb1 hw => ?_
  simp -dsimp
  refine take_ok (by omega) hb1 (by omega) (by split <;> omega) (by split <;> omega) fun C b2 hb2 hC0 hC1 => ?_
  simp -dsimp
  have hC2 : C ≤ 20 := by split at hC1 <;> omega
  refine kept_ok hm0 hm (by omega) hw hC0 hC2 hb2 (by omega) fun l3 b3 hb3 hl3 hl4 => ?_
  simp -dsimp
  refine ⟨by omega, ?_⟩
  refine whl_inv' (saW m M (N + 3200) r w o8) (fun n ρ hρ => ?_) fu (min 3 (l.length + l3.length)) _ ⟨b3, (l ++ l3).take 3, [], hb3.mono (by omega), by simp, fun s hs => app_ok hl hl3 s (List.mem_of_mem_take hs), by simp, by simp; omega, by rw [← syD_take]; rfl⟩ (by omega)
  obtain ⟨box, l, l2, g1, rfl, g3, g4, g5, rfl⟩ := hρ
  have e := ne_nil (lay_syD g3) (by omega)
  simp -dsimp [e]
  cases l with
  | nil =>
    have e2 : ((syD []).isEmpty) = true := rfl
    simp -dsimp [e2]
    exact q l2 box (g1.mono (by simp only [List.length_nil]; omega)) g4 (by simp at g5; omega)
  | cons x xs =>
    have e2 : ((syD (x :: xs)).isEmpty) = false := rfl
    simp only [List.length_cons] at g1 g5
    simp -dsimp [e2]
    refine ⟨xs.length, by omega, ?_⟩
    refine take_ok (by omega) g1 (by omega) (by omega) (by omega) fun r1 b4 hb4 h10 h11 => ?_
    have hr : r1.toNat < (x :: xs).length := by simp only [List.length_cons]; omega
    simp -dsimp
    rw [rng_ok (by omega) (by omega), ixN_in h10 (by omega)]
    simp -dsimp [List.getElem?_eq_getElem hr]
    refine ⟨by omega, ?_⟩
    unfold saW
    refine ⟨b4, (x :: xs).eraseIdx r1.toNat, l2 ++ [(x :: xs)[r1.toNat]], hb4.mono (by omega), by rw [List.length_eraseIdx_of_lt hr]; simp, fun s hs => g3 s (List.mem_of_mem_eraseIdx hs), app_ok g4 (by intro s hs; simp at hs; rw [hs]; exact g3 _ (List.getElem_mem hr)), by rw [List.length_eraseIdx_of_lt hr]; simp; omega, by simp⟩
end K94

set_option Elab.async false
set_option linter.all false
set_option maxRecDepth 100000
set_option maxHeartbeats 4000000
namespace K94
open PySem L2 Pv Pv.Wp
def isInt (d : D) : Prop := ∃ v : Int, d = .int v
@[simp] theorem sl_363 {xs : List D} : slD (.list xs) (some 3) (some 63) = some (.list ((xs.drop 3).take 60)) := by
  have : cutD xs (some ((3 : Nat) : Int)) (some ((63 : Nat) : Int)) = (xs.drop 3).take 60 := by
    unfold cutD
    rw [HT.sIx_nat, HT.sIx_nat]
    by_cases h : 3 ≤ xs.length
    · rw [Nat.min_eq_left h]
      by_cases h2 : 63 ≤ xs.length
      · rw [Nat.min_eq_left h2]
      · rw [Nat.min_eq_right (by omega), List.take_of_length_le (by rw [List.length_drop]; omega), List.take_of_length_le (by rw [List.length_drop]; omega)]
    · rw [List.drop_of_length_le (by omega), List.drop_of_length_le (by omega), List.take_nil, List.take_nil]
  exact congrArg (fun x => some (PyData.list x)) this
@[simp] theorem shL_set {ds : List D} {j : Nat} {d : D} : (shL ds).set j (.sh d) = shL (ds.set j d) := by unfold shL; rw [List.map_set]
@[simp] theorem atI_shL {ds : List D} {i : Int} : atI (shL ds) i = (atI ds i).map .sh := by
  unfold atI
  rw [shL_len]
  cases ixN ds.length i with
  | none => rfl
  | some j => exact shL_get
theorem at_int {xs : List D} {i : Int} (h : ∀ d ∈ xs, isInt d) (h0 : 0 ≤ i) (h1 : i < xs.length) : ∃ v, atI xs i = some (.int v) := by
  obtain ⟨n, rfl⟩ : ∃ n : Nat, i = n := ⟨i.toNat, by omega⟩
  have hn : n < xs.length := by omega
  obtain ⟨v, hv⟩ := h _ (List.getElem_mem hn)
  exact ⟨v, by rw [atI_nat, List.getElem?_eq_getElem hn, hv]⟩
def foI (X : List D) (ds : List D) (ρ : Pv.Env) : Prop := ∃ (cs vs : List D) (c : Nat) (o3 o4 : Option OT), cs.length = min 3 X.length ∧ (∀ d ∈ cs, isInt d) ∧ (vs = [] ∨ 3 ≤ X.length) ∧ ds = enD vs c ∧ c + vs.length ≤ 100 ∧ (∀ v ∈ vs, isInt v) ∧
  ρ = [.val false (.sh (.list X)), .val false (.sh (.int 3)), .val false (.lst (shL cs)), frS o3, frS o4]
theorem folded_ok {fu k : Nat} {X : List D} {Q : OT → List OT → Prop} (hk : 1 ≤ k) (hX : ∀ d ∈ X, isInt d)
    (q : ∀ cs : List D, cs.length = min 3 X.length → (∀ d ∈ cs, isInt d) → Q (.lst (shL cs)) [.sh .none, .sh .none]) : Wr (evF T fu k 12 [.sh (.list X), .sh (.int 3)]) Q := by
  refine w_def (by omega) (fd := r_law_folded.fd) rfl (ρ := [.val false (.sh (.list X)), .val false (.sh (.int 3))]) rfl ?_
  show Wo (evS _ fu b_law_folded [.val false (.sh (.list X)), .val false (.sh (.int 3)), .non, .non, .non]) (finr [false, false] Q)
  unfold b_law_folded
  simp -dsimp
  rw [enD_eq]
  refine for_inv (foI X) ?_ ?_ _ _ ⟨X.take 3, (X.drop 3).take 60, 0, none, none, by simp, fun d hd => hX d (List.mem_of_mem_take hd), ?_, rfl, by simp; omega, fun d hd => hX d (List.mem_of_mem_drop (List.mem_of_mem_take hd)), rfl⟩
  · rintro d ds ρ ⟨cs, vs, c, o3, o4, g1, g2, g3, g4, g5, g6, rfl⟩
    cases vs with
    | nil => cases g4
    | cons v vs =>
      rw [enD] at g4
      cases g4
      obtain ⟨v, rfl⟩ := g6 v (List.mem_cons_self ..)
      have hX3 : 3 ≤ X.length := by
        rcases g3 with g3 | g3
        · cases g3
        · exact g3
      simp only [List.length_cons] at g5
      obtain ⟨u, hu⟩ := at_int g2 (i := (c : Int) % 3) (by omega) (by omega)
      simp -dsimp [hu]
      refine ⟨mul_ok2 (by omega), ?_⟩
      rw [ixN_in (by omega) (by omega)]
      simp -dsimp
      unfold foI
      refine ⟨_, vs, c + 1, some _, some _, by rw [List.length_set]; exact g1, fun d hd => ?_, .inr hX3, rfl, by omega, fun x hx => g6 x (List.mem_cons_of_mem _ hx), rfl⟩
      rcases List.mem_or_eq_of_mem_set hd with hd | hd
      · exact g2 d hd
      · exact ⟨_, hd⟩
  · rintro ρ ⟨cs, vs, c, o3, o4, g1, g2, g3, g4, g5, g6, rfl⟩
    simp -dsimp
    exact q cs g1 g2
  · by_cases h : 3 ≤ X.length
    · exact .inr h
    · exact .inl (by rw [List.drop_of_length_le (by omega), List.take_nil])
@[simp] theorem pow_int {a b : Int} : O2.f .pow (.int a) (.int b) = if 0 ≤ b ∧ b ≤ 1000000 ∧ a.natAbs < 2 ^ 64 then some (.int (a ^ b.toNat)) else none := rfl
@[simp] theorem shl_int {a b : Int} : O2.f .shl (.int a) (.int b) = if 0 ≤ b ∧ b ≤ 1000000 ∧ a.natAbs < 2 ^ 64 then some (.int (a * 2 ^ b.toNat)) else none := rfl
theorem box_ok {fu k : Nat} {cs : List D} {i : Int} {Q : OT → List OT → Prop} (hk : 1 ≤ k) (h : ∀ d ∈ cs, isInt d) (hl : cs.length ≤ 3) (h0 : 0 ≤ i) (h1 : i ≤ cs.length)
    (q : ∀ box : List OT, Bx 0 box → Q (.lst box) [.sh .none, .sh .none]) : Wr (evF T fu k 10 [.sh (.list cs), .sh (.int i)]) Q := by
  refine w_def (by omega) (fd := r_law_box.fd) rfl (ρ := [.val false (.sh (.list cs)), .val false (.sh (.int i))]) rfl ?_
  show Wo (evS _ fu b_law_box [.val false (.sh (.list cs)), .val false (.sh (.int i)), .non]) (finr [false, false] Q)
  unfold b_law_box
  have hin : ∀ d ∈ cs ++ List.replicate (i + 1).toNat (.int 0), isInt d := fun d hd => by
    rcases List.mem_append.mp hd with hd | hd
    · exact h d hd
    · rw [List.mem_replicate] at hd; exact ⟨0, hd.2⟩
  obtain ⟨v, hv⟩ := at_int hin h0 (by simp; omega)
  simp -dsimp [hv]
  refine ⟨by omega, by omega, mul_ok2 (by (repeat' split) <;> omega), mul_ok1 (by decide), mul_ok2 (by omega), ?_⟩
  refine q _ ⟨_, _, _, rfl, ?_, by omega, by omega, by omega, by omega⟩
  refine Int.mul_nonneg (by split <;> omega) (by split <;> omega)
end K94

set_option Elab.async false
set_option linter.all false
set_option maxRecDepth 100000
set_option maxHeartbeats 4000000
namespace K94
open PySem L2 Pv Pv.Wp
def yesN (Ws : List (List Int)) (s : Sy) : Int := ((Ws.filter fun w => s.hold w).length : Nat)
def mx (y n : Int) : Int := if y < n then n else y
theorem fm_wd {Ws : List (List Int)} {p : List Int → Bool} : (Ws.filterMap fun w => if p w = true then some (wd w) else none) = (Ws.filter p).map wd := by
  induction Ws with
  | nil => rfl
  | cons w Ws ih =>
    rw [List.filterMap_cons]
    cases h : p w with
    | true => simp [h, ih, List.filter_cons]
    | false => simp [h, ih, List.filter_cons]
theorem split_ok {fu k : Nat} {Ws : List (List Int)} {s : Sy} {Q : OT → List OT → Prop} (hk : 8 ≤ k) (hW : ∀ w ∈ Ws, W w) (hl : Ws.length ≤ 1000) (hs : s.ok)
    (q : Q (.sh (.tuple [.int (yesN Ws s), .int (Ws.length - yesN Ws s)])) [.sh .none, .sh .none]) : Wr (evF T fu k 5 [.sh (.list (Ws.map wd)), .sh s.d]) Q := by
  refine w_def (by omega) (fd := r_split_by.fd) rfl (ρ := [.val false (.sh (.list (Ws.map wd))), .val false (.sh s.d)]) rfl ?_
  show Wo (evS _ fu b_split_by [.val false (.sh (.list (Ws.map wd))), .val false (.sh s.d), .non, .non]) (finr [false, false] Q)
  unfold b_split_by
  simp -dsimp
  refine comp_filter' (f := wd) (fun w => if s.hold w = true then some (wd w) else none) _ rfl Ws (by simp; omega) (fun w hw => ?_) ?_
  · simp -dsimp
    refine holds_ok (hW w hw) (by omega) s hs ?_
    simp -dsimp
    refine ⟨fun h => ?_, fun h => ?_⟩
    · simp -dsimp [h]
    · simp -dsimp [h]
  · rw [fm_wd]
    simp -dsimp
    exact q
/-- the best of the sayings by now -/
abbrev Bst : Type := Option (Nat × Int × Int)
def lessB (m : Int) : Bst → Bool
  | none => true
  | some (_, y, n) => decide (m < mx y n)
def stepB (Ws : List (List Int)) (b : Bst) (c : Nat) (s : Sy) : Bst :=
  if 0 < yesN Ws s ∧ 0 < Ws.length - yesN Ws s ∧ lessB (mx (yesN Ws s) (Ws.length - yesN Ws s)) b = true then some (c, yesN Ws s, Ws.length - yesN Ws s) else b
def foldB (Ws : List (List Int)) : List Sy → Nat → Bst → Bst
  | [], _, b => b
  | s :: ss, c, b => foldB Ws ss (c + 1) (stepB Ws b c s)
def bsD : Bst → D
  | none => .none
  | some (c, y, n) => .tuple [.int c, .int y, .int n]
@[simp] theorem f_maxt {xs : List D} : Bs.f .max [.tuple xs] = (intsOf xs).bind fun ns => (maxL ns).map .int := rfl
@[simp] theorem ints_nil : intsOf [] = some [] := rfl
@[simp] theorem ints_cons {n : Int} {xs : List D} : intsOf (.int n :: xs) = (intsOf xs).map (n :: ·) := rfl
@[simp] theorem is_nn : C2.b .is .none .none = some true := rfl
@[simp] theorem is_tn {xs : List D} : C2.b .is (.tuple xs) .none = some false := rfl
@[simp] theorem isnot_nn : C2.b .isnot .none .none = some false := rfl
@[simp] theorem isnot_tn {xs : List D} : C2.b .isnot (.tuple xs) .none = some true := rfl
def baI (Ws : List (List Int)) (S : List Sy) (ds : List D) (ρ : Pv.Env) : Prop := ∃ (ss : List Sy) (c : Nat) (b : Bst) (o3 o4 o5 o6 : Option OT), ds = enD (syD ss) c ∧ (∀ s ∈ ss, s.ok) ∧ foldB Ws ss c b = foldB Ws S 0 none ∧
  ρ = [.val false (.sh (.list (Ws.map wd))), .val false (.sh (.list (syD S))), .val false (.sh (bsD b)), frS o3, frS o4, frS o5, frS o6]
theorem best_ok {fu k : Nat} {Ws : List (List Int)} {S : List Sy} {Q : OT → List OT → Prop} (hk : 9 ≤ k) (hW : ∀ w ∈ Ws, W w) (hl : Ws.length ≤ 1000) (hS : ∀ s ∈ S, s.ok)
    (q : Q (.sh (bsD (foldB Ws S 0 none))) [.sh .none, .sh .none]) : Wr (evF T fu k 6 [.sh (.list (Ws.map wd)), .sh (.list (syD S))]) Q := by
  refine w_def (by omega) (fd := r_best_ask.fd) rfl (ρ := [.val false (.sh (.list (Ws.map wd))), .val false (.sh (.list (syD S)))]) rfl ?_
  show Wo (evS _ fu b_best_ask [.val false (.sh (.list (Ws.map wd))), .val false (.sh (.list (syD S))), .non, .non, .non, .non, .non]) (finr [false, false] Q)
  unfold b_best_ask
  simp -dsimp
  rw [enD_eq]
  refine for_inv (baI Ws S) ?_ ?_ _ _ ⟨S, 0, none, none, none, none, none, rfl, hS, rfl, rfl⟩
  · rintro d ds ρ ⟨ss, c, b, o3, o4, o5, o6, e1, e2, e3, rfl⟩
    cases ss with
    | nil => cases e1
    | cons s ss =>
      have e1' : d :: ds = .tuple [.int c, s.d] :: enD (syD ss) (c + 1) := e1
      cases e1'
      rw [foldB] at e3
      have hss : ∀ s ∈ ss, s.ok := fun x hx => e2 x (List.mem_cons_of_mem _ hx)
      simp -dsimp
      refine split_ok (by omega) hW hl (e2 s (List.mem_cons_self ..)) ?_
      have done : ∀ b', stepB Ws b c s = b' → baI Ws S (enD (syD ss) (c + 1)) [.val false (.sh (.list (Ws.map wd))), .val false (.sh (.list (syD S))), .val false (.sh (bsD b')), .val false (.sh (.int c)), .val false (.sh s.d), .val false (.sh (.int (yesN Ws s))), .val false (.sh (.int (Ws.length - yesN Ws s)))] := fun b' hb' => by
        subst hb'
        exact ⟨ss, c + 1, _, some _, some _, some _, some _, rfl, hss, e3, rfl⟩
      simp -dsimp
      refine Br_dec (fun h1 => ?_) (fun h1 => ?_)
      · simp -dsimp
        refine Br_dec (fun h2 => ?_) (fun h2 => ?_)
        · cases b with
          | none =>
            simp -dsimp [bsD]
            exact done (some _) (if_pos ⟨h1, by omega, rfl⟩)
          | some t =>
            obtain ⟨c0, y0, n0⟩ := t
            simp -dsimp [bsD, maxL]
            refine Br_dec (fun h3 => ?_) (fun h3 => ?_)
            · simp -dsimp
              exact done (some _) (if_pos ⟨h1, by omega, decide_eq_true h3⟩)
            · simp -dsimp
              exact done (some _) (if_neg fun h => h3 (of_decide_eq_true h.2.2))
        · simp -dsimp
          exact done b (if_neg fun h => h2 (by omega))
      · simp -dsimp
        exact done b (if_neg fun h => h1 h.1)
  · rintro ρ ⟨ss, c, b, o3, o4, o5, o6, e1, e2, e3, rfl⟩
    cases ss with
    | nil =>
      rw [foldB] at e3
      subst e3
      simp -dsimp
      exact q
    | cons s ss => cases e1
/-! the law's own -/
def cand (Ws : List (List Int)) : List Sy → Nat → List (List Int)
  | [], _ => []
  | s :: ss, c => (if 0 < yesN Ws s ∧ yesN Ws s < Ws.length then [[mx (yesN Ws s) (Ws.length - yesN Ws s), (c : Int), yesN Ws s, Ws.length - yesN Ws s]] else []) ++ cand Ws ss (c + 1)
def ltI (a b : List Int) : Bool := PySem.W.dataLt (.tuple (a.map .int)) (.tuple (b.map .int))
theorem ltI_eq (a b : List Int) : ltI a b = PySem.W.listLt a b := by
  unfold ltI
  exact (PySem.W.dataLt_tuple _ _).trans (PySem.W.lexAll_map a b)
end K94

set_option Elab.async false
set_option linter.all false
set_option maxRecDepth 100000
set_option maxHeartbeats 4000000
namespace K94
open PySem L2 Pv Pv.Wp
def enc (l : List Int) : D := .tuple (l.map .int)
def minI (x : List Int) (xs : List (List Int)) : List Int := xs.foldl (fun a y => if ltI y a = true then y else a) x
theorem minD_enc : ∀ (xs : List (List Int)) (x : List Int), PySem.W.minD (enc x) (xs.map enc) = enc (minI x xs)
  | [], x => rfl
  | y :: ys, x => by
    have ih := minD_enc ys (if ltI y x = true then y else x)
    unfold PySem.W.minD minI at ih ⊢
    rw [List.map_cons, List.foldl_cons, List.foldl_cons, ← ih]
    congr 1
    show (if PySem.W.dataLt (enc y) (enc x) = true then enc y else enc x) = enc (if PySem.W.dataLt (enc y) (enc x) = true then y else x)
    split <;> rfl
theorem alike_enc (x y : List Int) : PySem.W.alike (enc x) (enc y) = true := by
  show PySem.W.alike (.tuple _) (.tuple _) = true
  simp only [PySem.W.alike]
  exact PySem.W.alikeAll_map x y
theorem lay_enc {x : List Int} : Lay 1 (enc x) := lay_tup fun d hd => by
  obtain ⟨i, _, rfl⟩ := List.mem_map.mp hd
  exact lay_int
theorem minF_enc {x : List Int} {xs : List (List Int)} : Bn.f .min [.list ((x :: xs).map enc)] = some (enc (minI x xs)) := by
  have e : Bn.f .min [.list ((x :: xs).map enc)] = if alikeB ((x :: xs).map enc) = true ∧ SeqAt.shaped (.list ((x :: xs).map enc)) = true then some (PySem.W.minD (enc x) (xs.map enc)) else none := rfl
  rw [e, if_pos, minD_enc]
  refine ⟨?_, (lay_list (n := 1) fun d hd => ?_).shaped (by omega)⟩
  · unfold alikeB
    rw [List.all_eq_true]
    intro a ha
    rw [List.all_eq_true]
    intro b hb
    obtain ⟨a, _, rfl⟩ := List.mem_map.mp ha
    obtain ⟨b, _, rfl⟩ := List.mem_map.mp hb
    rw [alike_enc]; rfl
  · obtain ⟨a, _, rfl⟩ := List.mem_map.mp hd
    exact lay_enc
def enc4 (b : Nat × Int × Int) : List Int := [mx b.2.1 b.2.2, (b.1 : Int), b.2.1, b.2.2]
theorem ltI_later {m y n m0 y0 n0 : Int} {c c0 : Nat} (h : c0 < c) : ltI [m, (c : Int), y, n] [m0, (c0 : Int), y0, n0] = decide (m < m0) := by
  rw [ltI_eq]
  unfold PySem.W.listLt
  by_cases hm : m = m0
  · rw [if_pos hm]
    unfold PySem.W.listLt
    rw [if_neg (by omega)]
    have e : PySem.W.DatumOrd.lt (c : Int) (c0 : Int) = decide ((c : Int) < (c0 : Int)) := rfl
    rw [e, decide_eq_false (by omega), decide_eq_false (by omega)]
  · rw [if_neg hm]
    rfl
theorem fold_some {Ws : List (List Int)} : ∀ (ss : List Sy) (c : Nat) (b : Nat × Int × Int), b.1 < c → ∃ b', foldB Ws ss c (some b) = some b' ∧ (cand Ws ss c).foldl (fun a y => if ltI y a = true then y else a) (enc4 b) = enc4 b'
  | [], c, b, h => ⟨b, rfl, rfl⟩
  | s :: ss, c, b, h => by
    obtain ⟨c0, y0, n0⟩ := b
    rw [foldB, cand]
    by_cases h1 : 0 < yesN Ws s ∧ yesN Ws s < Ws.length
    · rw [if_pos h1, List.foldl_append, List.foldl_cons, List.foldl_nil]
      have el : ltI [mx (yesN Ws s) (Ws.length - yesN Ws s), (c : Int), yesN Ws s, Ws.length - yesN Ws s] (enc4 (c0, y0, n0)) = decide (mx (yesN Ws s) (Ws.length - yesN Ws s) < mx y0 n0) := ltI_later h
      rw [el]
      by_cases h2 : mx (yesN Ws s) (Ws.length - yesN Ws s) < mx y0 n0
      · have e : stepB Ws (some (c0, y0, n0)) c s = some (c, yesN Ws s, Ws.length - yesN Ws s) := if_pos ⟨h1.1, by omega, decide_eq_true h2⟩
        rw [e, if_pos (decide_eq_true h2)]
        exact fold_some ss (c + 1) (c, yesN Ws s, Ws.length - yesN Ws s) (Nat.lt_succ_self c)
      · have e : stepB Ws (some (c0, y0, n0)) c s = some (c0, y0, n0) := if_neg fun h => h2 (of_decide_eq_true h.2.2)
        rw [e, if_neg (fun h => h2 (of_decide_eq_true h))]
        exact fold_some ss (c + 1) (c0, y0, n0) (Nat.lt_succ_of_lt h)
    · rw [if_neg h1, List.nil_append]
      have e : stepB Ws (some (c0, y0, n0)) c s = some (c0, y0, n0) := if_neg fun h => h1 ⟨h.1, by omega⟩
      rw [e]
      exact fold_some ss (c + 1) (c0, y0, n0) (Nat.lt_succ_of_lt h)
theorem fold_none {Ws : List (List Int)} : ∀ (ss : List Sy) (c : Nat), (cand Ws ss c = [] ∧ foldB Ws ss c none = none) ∨ ∃ x xs b', cand Ws ss c = x :: xs ∧ foldB Ws ss c none = some b' ∧ minI x xs = enc4 b'
  | [], c => .inl ⟨rfl, rfl⟩
  | s :: ss, c => by
    rw [foldB, cand]
    by_cases h1 : 0 < yesN Ws s ∧ yesN Ws s < Ws.length
    · rw [if_pos h1]
      have e : stepB Ws none c s = some (c, yesN Ws s, Ws.length - yesN Ws s) := if_pos ⟨h1.1, by omega, rfl⟩
      rw [e]
      obtain ⟨b', e1, e2⟩ := fold_some (Ws := Ws) ss (c + 1) (c, yesN Ws s, Ws.length - yesN Ws s) (Nat.lt_succ_self c)
      exact .inr ⟨_, _, b', rfl, e1, e2⟩
    · rw [if_neg h1, List.nil_append]
      have e : stepB Ws none c s = none := if_neg fun h => h1 ⟨h.1, by omega⟩
      rw [e]
      exact fold_none ss (c + 1)
def lbI (Ws : List (List Int)) (S : List Sy) (ds : List D) (ρ : Pv.Env) : Prop := ∃ (ss : List Sy) (c : Nat) (l : List (List Int)) (o3 o4 o5 : Option OT), ds = enD (syD ss) c ∧ (∀ s ∈ ss, s.ok) ∧ l ++ cand Ws ss c = cand Ws S 0 ∧ l.length + ss.length ≤ 1000 ∧
  ρ = [.val false (.sh (.list (Ws.map wd))), .val false (.sh (.list (syD S))), .val false (.lst (shL (l.map enc))), frS o3, frS o4, frS o5, .non]
theorem lbest_ok {fu k : Nat} {Ws : List (List Int)} {S : List Sy} {Q : OT → List OT → Prop} (hk : 9 ≤ k) (hW : ∀ w ∈ Ws, W w) (hl : Ws.length ≤ 1000) (hS : ∀ s ∈ S, s.ok) (hSl : S.length ≤ 1000)
    (q : Q (.sh (bsD (foldB Ws S 0 none))) [.sh .none, .sh .none]) : Wr (evF T fu k 33 [.sh (.list (Ws.map wd)), .sh (.list (syD S))]) Q := by
  refine w_def (by omega) (fd := r_law_best.fd) rfl (ρ := [.val false (.sh (.list (Ws.map wd))), .val false (.sh (.list (syD S)))]) rfl ?_
  show Wo (evS _ fu b_law_best [.val false (.sh (.list (Ws.map wd))), .val false (.sh (.list (syD S))), .non, .non, .non, .non, .non]) (finr [false, false] Q)
  unfold b_law_best
  simp -dsimp
  rw [enD_eq]
  refine for_inv (lbI Ws S) ?_ ?_ _ _ ⟨S, 0, [], none, none, none, rfl, hS, rfl, by simpa using hSl, rfl⟩
  · rintro d ds ρ ⟨ss, c, l, o3, o4, o5, e1, e2, e3, e4, rfl⟩
    cases ss with
    | nil => cases e1
    | cons s ss =>
      have e1' : d :: ds = .tuple [.int c, s.d] :: enD (syD ss) (c + 1) := e1
      cases e1'
      rw [cand, ← List.append_assoc] at e3
      simp only [List.length_cons] at e4
      have hss : ∀ s ∈ ss, s.ok := fun x hx => e2 x (List.mem_cons_of_mem _ hx)
      have hs := e2 s (List.mem_cons_self ..)
      simp -dsimp
      refine comp_filter' (f := wd) (fun w => if s.hold w = true then some (wd w) else none) _ rfl Ws (by simp; omega) (fun w hw => ?_) ?_
      · simp -dsimp
        refine lholds_ok (hW w hw) (by omega) s hs ?_
        simp -dsimp
        refine ⟨fun h => ?_, fun h => ?_⟩
        · simp -dsimp [h]
        · simp -dsimp [h]
      rw [fm_wd]
      have ey : (((Ws.filter fun w => s.hold w).length : Nat) : Int) = yesN Ws s := rfl
      simp -dsimp [ey]
      generalize hy : yesN Ws s = y at e3 ⊢
      have key : ∀ y' : Int, y' = y → True := fun _ _ => trivial
      refine Br_dec (fun h1 => ?_) (fun h1 => ?_)
      · simp -dsimp
        refine Br_dec (fun h2 => ?_) (fun h2 => ?_)
        · simp -dsimp
          rw [if_pos ⟨h1, h2⟩] at e3
          refine ⟨by omega, ?_⟩
          unfold lbI
          exact ⟨ss, c + 1, l ++ [[mx y (Ws.length - y), (c : Int), y, Ws.length - y]], some _, some _, some _, rfl, hss, e3, by simp; omega, by rw [List.map_append]; rfl⟩
        · simp -dsimp
          rw [if_neg (fun h => h2 h.2), List.append_nil] at e3
          unfold lbI
          exact ⟨ss, c + 1, l, some _, some _, some _, rfl, hss, e3, by omega, rfl⟩
      · simp -dsimp
        rw [if_neg (fun h => h1 h.1), List.append_nil] at e3
        unfold lbI
        exact ⟨ss, c + 1, l, some _, some _, some _, rfl, hss, e3, by omega, rfl⟩
  · rintro ρ ⟨ss, c, l, o3, o4, o5, e1, e2, e3, e4, rfl⟩
    cases ss with
    | nil =>
      rw [cand, List.append_nil] at e3
      subst e3
      have hlay : Lay 2 (.list ((cand Ws S 0).map enc)) := lay_list fun d hd => by
        obtain ⟨a, _, rfl⟩ := List.mem_map.mp hd
        exact lay_enc
      have e := ne_nil hlay (by omega)
      rcases fold_none (Ws := Ws) S 0 with ⟨h1, h2⟩ | ⟨x, xs, b', h1, h2, h3⟩
      · rw [h1] at e ⊢
        rw [h2] at q
        have e2 : ((([] : List (List Int)).map enc).isEmpty) = true := rfl
        rw [e2] at e
        generalize ([] : List (List Int)).map enc = L at e ⊢
        simp -dsimp [e]
        exact q
      · rw [h1] at e ⊢
        rw [h2] at q
        have e2 : (((x :: xs).map enc).isEmpty) = false := rfl
        rw [e2] at e
        have e3 := minF_enc (x := x) (xs := xs)
        rw [h3] at e3
        obtain ⟨c', y', n'⟩ := b'
        generalize (x :: xs).map enc = L at e e3 ⊢
        simp -dsimp [e, e3, enc, enc4]
        exact q
    | cons s ss => cases e1
end K94

set_option Elab.async false
set_option linter.all false
set_option maxRecDepth 100000
set_option maxHeartbeats 4000000
namespace K94
open PySem L2 Pv Pv.Wp
def sayAt (S : List Sy) (c : Nat) : Sy := S.getD c (.two .all .any .any)
def keepB (S : List Sy) (b : Nat × Int × Int) (w : List Int) : Bool := decide ((sayAt S b.1).hold w = decide (b.2.2 ≤ b.2.1))
def planF (S : List Sy) : Nat → List (List Int) → List D
  | 0, _ => []
  | f + 1, L => match foldB L S 0 none with
    | none => []
    | some b => bsD (some b) :: planF S f (L.filter (keepB S b))
def leftF (S : List Sy) : Nat → List (List Int) → List (List Int)
  | 0, L => L
  | f + 1, L => match foldB L S 0 none with
    | none => L
    | some b => leftF S f (L.filter (keepB S b))
theorem fold_in {L : List (List Int)} : ∀ (ss : List Sy) (c : Nat) (b : Bst) (r : Nat × Int × Int), foldB L ss c b = some r → b = some r ∨ ∃ (i : Nat) (s : Sy), ss[i]? = some s ∧ r = (c + i, yesN L s, L.length - yesN L s) ∧ 0 < yesN L s ∧ yesN L s < L.length
  | [], c, b, r, h => .inl h
  | s :: ss, c, b, r, h => by
    rw [foldB] at h
    rcases fold_in ss (c + 1) _ r h with h1 | ⟨i, s', h1, h2, h3⟩
    · unfold stepB at h1
      split at h1
      · rename_i hc
        cases h1
        exact .inr ⟨0, s, rfl, rfl, hc.1, by omega⟩
      · exact .inl h1
    · exact .inr ⟨i + 1, s', h1, by rw [h2]; congr 1; omega, h3⟩
theorem filt_add (p : List Int → Bool) : ∀ L : List (List Int), (L.filter p).length + (L.filter fun w => !p w).length = L.length
  | [] => rfl
  | w :: L => by
    have := filt_add p L
    cases h : p w <;> simp [List.filter_cons, h] <;> omega
theorem keep_less {L : List (List Int)} {S : List Sy} {b : Nat × Int × Int} (h : foldB L S 0 none = some b) : b.1 < S.length ∧ (L.filter (keepB S b)).length < L.length := by
  rcases fold_in S 0 none b h with h1 | ⟨i, s, h1, h2, h3, h4⟩
  · cases h1
  · have hs : i < S.length := by
      rw [List.getElem?_eq_some_iff] at h1
      exact h1.1
    have hsay : sayAt S b.1 = s := by
      rw [h2]
      simp [sayAt, h1]
    refine ⟨by rw [h2]; simpa using hs, ?_⟩
    have hf := filt_add (fun w => s.hold w) L
    have hy : (((L.filter fun w => s.hold w).length : Nat) : Int) = yesN L s := rfl
    by_cases hle : b.2.2 ≤ b.2.1
    · have e : keepB S b = fun w => s.hold w := by
        funext w
        unfold keepB
        rw [hsay, decide_eq_true hle]
        cases s.hold w <;> rfl
      rw [e]; omega
    · have e : keepB S b = fun w => !s.hold w := by
        funext w
        unfold keepB
        rw [hsay, decide_eq_false hle]
        cases s.hold w <;> rfl
      rw [e]; omega
theorem bs_lay (b : Bst) : Lay 1 (bsD b) := by
  match b with
  | none => exact ⟨by simp [bsD, PyData.canLay0], by simp [bsD, PyData.depth]⟩
  | some (c, y, n) =>
    refine lay_tup fun d hd => ?_
    simp at hd
    rcases hd with rfl | rfl | rfl <;> exact lay_int
theorem plan_lay (S : List Sy) : ∀ (f : Nat) (L : List (List Int)), ∀ d ∈ planF S f L, Lay 1 d
  | 0, L, d, hd => by cases hd
  | f + 1, L, d, hd => by
    rw [planF] at hd
    split at hd
    · cases hd
    · rcases List.mem_cons.mp hd with rfl | hd
      · exact bs_lay _
      · exact plan_lay S f _ d hd
theorem left_end (S : List Sy) : ∀ (f : Nat) (L : List (List Int)), L.length ≤ f → foldB (leftF S f L) S 0 none = none ∧ ∀ w ∈ leftF S f L, w ∈ L
  | 0, L, h => by
    have : L = [] := List.length_eq_zero_iff.mp (by omega)
    subst this
    refine ⟨?_, fun w hw => hw⟩
    cases h2 : foldB [] S 0 none with
    | none => exact h2
    | some b => have := (keep_less h2).2; simp at this
  | f + 1, L, h => by
    rw [leftF]
    cases h2 : foldB L S 0 none with
    | none => exact ⟨h2, fun w hw => hw⟩
    | some b =>
      have := (keep_less h2).2
      obtain ⟨e1, e2⟩ := left_end S f (L.filter (keepB S b)) (by omega)
      exact ⟨e1, fun w hw => (List.mem_filter.mp (e2 w hw)).1⟩
theorem cand_nil {L : List (List Int)} : ∀ (ss : List Sy) (c : Nat), cand L ss c = [] → ∀ s ∈ ss, ¬ (0 < yesN L s ∧ yesN L s < L.length)
  | [], c, _, s, hs => by cases hs
  | t :: ss, c, h, s, hs => by
    rw [cand] at h
    obtain ⟨h1, h2⟩ := List.append_eq_nil_iff.mp h
    rcases List.mem_cons.mp hs with rfl | hs
    · intro hc
      rw [if_pos hc] at h1
      cases h1
    · exact cand_nil ss (c + 1) h2 s hs
theorem cnt_le {L : List (List Int)} {s : Sy} (h : ¬ (0 < yesN L s ∧ yesN L s < L.length)) : ((cntB (L.map fun w => s.hold w) : Nat) : Int) ≤ 1 := by
  have hf := filt_add (fun w => s.hold w) L
  have hy : (((L.filter fun w => s.hold w).length : Nat) : Int) = yesN L s := rfl
  unfold cntB
  by_cases h1 : ((L.map fun w => s.hold w).any (· == true)) = true
  · by_cases h2 : ((L.map fun w => s.hold w).any (· == false)) = true
    · exfalso
      rw [List.any_eq_true] at h1 h2
      obtain ⟨b1, m1, e1⟩ := h1
      obtain ⟨b2, m2, e2⟩ := h2
      obtain ⟨w1, n1, rfl⟩ := List.mem_map.mp m1
      obtain ⟨w2, n2, rfl⟩ := List.mem_map.mp m2
      have g1 : 0 < (L.filter fun w => s.hold w).length := List.length_pos_iff_exists_mem.mpr ⟨w1, List.mem_filter.mpr ⟨n1, by simpa using e1⟩⟩
      have g2 : 0 < (L.filter fun w => !s.hold w).length := List.length_pos_iff_exists_mem.mpr ⟨w2, List.mem_filter.mpr ⟨n2, by simpa using e2⟩⟩
      exact h ⟨by omega, by omega⟩
    · rw [if_neg h2]; split <;> simp
  · rw [if_neg h1]; split <;> simp
def apI (Ws : List (List Int)) (S : List Sy) (n : Nat) (ρ : Pv.Env) : Prop := ∃ (L : List (List Int)) (acc : List D) (o5 o6 o7 : Option OT), (∀ w ∈ L, W w) ∧ L.length ≤ n ∧ L.length ≤ 1000 ∧ acc ++ planF S n L = planF S Ws.length Ws ∧ acc.length + n ≤ 2000 ∧
  ρ = [.val false (.sh (.list (Ws.map wd))), .val false (.sh (.list (syD S))), .val false (.sh (.list (L.map wd))), .val false (.lst (shL acc)), .val false (.sh (bsD (foldB L S 0 none))), frS o5, frS o6, frS o7, .non]
theorem plan_stop {S : List Sy} {n : Nat} {L : List (List Int)} (h : foldB L S 0 none = none) : planF S n L = [] ∧ leftF S n L = L := by
  cases n with
  | zero => exact ⟨rfl, rfl⟩
  | succ n => rw [planF, leftF, h]; exact ⟨rfl, rfl⟩
theorem plan_go {S : List Sy} {n : Nat} {L : List (List Int)} {b : Nat × Int × Int} (h : foldB L S 0 none = some b) (hn : L.length ≤ n) : ∃ j, n = j + 1 ∧ planF S n L = bsD (some b) :: planF S j (L.filter (keepB S b)) ∧ leftF S n L = leftF S j (L.filter (keepB S b)) ∧ (L.filter (keepB S b)).length ≤ j := by
  have := (keep_less h).2
  cases n with
  | zero => omega
  | succ n => exact ⟨n, rfl, by rw [planF, h], by rw [leftF, h], by omega⟩
theorem plan_ok {fu k : Nat} {Ws : List (List Int)} {S : List Sy} {Q : OT → List OT → Prop} (hfu : 1000 < fu) (hk : 10 ≤ k) (hW : ∀ w ∈ Ws, W w) (hl : Ws.length ≤ 1000) (hS : ∀ s ∈ S, s.ok)
    (q : Q (.lst (shL (planF S Ws.length Ws))) [.sh .none, .sh .none]) : Wr (evF T fu k 7 [.sh (.list (Ws.map wd)), .sh (.list (syD S))]) Q := by
  refine w_def (by omega) (fd := r_ask_plan.fd) rfl (ρ := [.val false (.sh (.list (Ws.map wd))), .val false (.sh (.list (syD S)))]) rfl ?_
  show Wo (evS _ fu b_ask_plan [.val false (.sh (.list (Ws.map wd))), .val false (.sh (.list (syD S))), .non, .non, .non, .non, .non, .non, .non]) (finr [false, false] Q)
  unfold b_ask_plan
  simp -dsimp
  refine best_ok (by omega) hW hl hS ?_
  simp -dsimp
  refine whl_inv' (apI Ws S) (fun n ρ hρ => ?_) fu Ws.length _ ⟨Ws, [], none, none, none, hW, Nat.le_refl _, hl, rfl, by simp; omega, rfl⟩ (by omega)
  obtain ⟨L, acc, o5, o6, o7, g1, g2, g3, g4, g5, rfl⟩ := hρ
  cases hb : foldB L S 0 none with
  | none =>
    rw [(plan_stop hb).1, List.append_nil] at g4
    subst g4
    simp -dsimp [bsD]
    exact q
  | some b =>
    obtain ⟨j, rfl, e1, _, e3⟩ := plan_go hb g2
    have hlt := keep_less hb
    obtain ⟨c, y, n⟩ := b
    have hsc : (syD S)[c]? = some (sayAt S c).d := by
      rw [syD_get]
      have : c < S.length := hlt.1
      simp [sayAt, List.getElem?_eq_getElem this]
    have hsok : (sayAt S c).ok := by
      have : c < S.length := hlt.1
      have e : sayAt S c = S[c] := by simp [sayAt, List.getElem?_eq_getElem this]
      rw [e]
      exact hS _ (List.getElem_mem this)
    simp -dsimp [bsD]
    refine ⟨j, by omega, by omega, ?_⟩
    refine comp_filter' (f := wd) (fun w => if keepB S (c, y, n) w = true then some (wd w) else none) _ rfl L (by simp; omega) (fun w hw => ?_) ?_
    · simp -dsimp [atI_nat, hsc, -syD_get]
      refine holds_ok (g1 w hw) (by omega) _ hsok ?_
      simp -dsimp
      refine ⟨fun h => ?_, fun h => ?_⟩
      · simp -dsimp
        unfold keepB
        simp at h
        simp [h]
      · simp -dsimp
        unfold keepB
        simp at h
        simp [h]
    · rw [fm_wd]
      simp -dsimp
      refine best_ok (by omega) (fun w hw => g1 w (List.mem_filter.mp hw).1) (by omega) hS ?_
      simp -dsimp
      unfold apI
      refine ⟨L.filter (keepB S (c, y, n)), acc ++ [bsD (some (c, y, n))], some _, some _, some _, fun w hw => g1 w (List.mem_filter.mp hw).1, e3, by omega, by rw [List.append_assoc, ← g4, e1]; rfl, by simp; omega, rfl⟩
end K94

set_option Elab.async false
set_option linter.all false
set_option maxRecDepth 100000
set_option maxHeartbeats 4000000
namespace K94
open PySem L2 Pv Pv.Wp
theorem ne_self {xs : List D} {n : Nat} (h : Lay n (.list xs)) (hn : n ≤ 64) : C2.b .ne (.list xs) (.list xs) = some false := by
  have e : C2.b .ne (.list xs) (.list xs) = (if SeqAt.shaped (.list xs) = true ∧ SeqAt.shaped (.list xs) = true then some (PyData.eqv (.list xs) (.list xs)) else none).map not := rfl
  rw [e, if_pos ⟨h.shaped hn, h.shaped hn⟩, SeqAt.eqv_refl _ h.1]; rfl
def lpI (Ws : List (List Int)) (S : List Sy) (n : Nat) (ρ : Pv.Env) : Prop := ∃ (L : List (List Int)) (acc : List D), (∀ w ∈ L, W w) ∧ L.length ≤ n ∧ L.length ≤ 1000 ∧ acc ++ planF S n L = planF S Ws.length Ws ∧ leftF S n L = leftF S Ws.length Ws ∧ acc.length + n ≤ 2000 ∧
  ρ = [.val false (.sh (.list (Ws.map wd))), .val false (.sh (.list (syD S))), .val false (.sh (.list (L.map wd))), .val false (.lst (shL acc)), .val false (.sh (bsD (foldB L S 0 none))), .non, .non]
def lpF (Ws L : List (List Int)) (S : List Sy) (R : List D) (ds : List D) (ρ : Pv.Env) : Prop := ∃ (ss : List Sy) (o5 : Option OT) (b : D), ds = syD ss ∧ (∀ s ∈ ss, s ∈ S) ∧
  ρ = [.val false (.sh (.list (Ws.map wd))), .val false (.sh (.list (syD S))), .val false (.sh (.list (L.map wd))), .val false (.lst (shL R)), .val false (.sh b), frS o5, .non]
theorem bools_map {L : List (List Int)} {s : Sy} : boolsOf (L.map fun w => PyData.bool (s.hold w)) = some (L.map fun w => s.hold w) := by
  induction L with
  | nil => rfl
  | cons w L ih =>
    rw [List.map_cons, List.map_cons]
    show (boolsOf (L.map fun w => PyData.bool (s.hold w))).map (s.hold w :: ·) = _
    rw [ih]; rfl
theorem fm_all {L : List (List Int)} {g : List Int → D} : (L.filterMap fun w => some (g w)) = L.map g := by
  induction L with
  | nil => rfl
  | cons w L ih => rw [List.filterMap_cons, List.map_cons, ih]
theorem lplan_ok {fu k : Nat} {Ws : List (List Int)} {S : List Sy} {Q : OT → List OT → Prop} (hfu : 1000 < fu) (hk : 12 ≤ k) (hW : ∀ w ∈ Ws, W w) (hl : Ws.length ≤ 1000) (hS : ∀ s ∈ S, s.ok) (hSl : S.length ≤ 1000)
    (q : Q (.sh (.bool true)) [.sh .none, .sh .none]) : Wr (evF T fu k 34 [.sh (.list (Ws.map wd)), .sh (.list (syD S))]) Q := by
  refine w_def (by omega) (fd := r_law_plan_right.fd) rfl (ρ := [.val false (.sh (.list (Ws.map wd))), .val false (.sh (.list (syD S)))]) rfl ?_
  show Wo (evS _ fu b_law_plan_right [.val false (.sh (.list (Ws.map wd))), .val false (.sh (.list (syD S))), .non, .non, .non, .non, .non]) (finr [false, false] Q)
  unfold b_law_plan_right
  simp -dsimp
  refine lbest_ok (by omega) hW hl hS hSl ?_
  simp -dsimp
  refine whl_inv' (lpI Ws S) (fun n ρ hρ => ?_) fu Ws.length _ ⟨Ws, [], hW, Nat.le_refl _, hl, rfl, rfl, by simp; omega, rfl⟩ (by omega)
  obtain ⟨L, acc, g1, g2, g3, g4, g4', g5, rfl⟩ := hρ
  cases hb : foldB L S 0 none with
  | none =>
    rw [(plan_stop hb).1, List.append_nil] at g4
    rw [(plan_stop hb).2] at g4'
    subst g4
    simp -dsimp [bsD]
    refine plan_ok hfu (by omega) hW hl hS ?_
    have e := ne_self (lay_list (plan_lay S Ws.length Ws)) (by omega)
    generalize planF S Ws.length Ws = R at e ⊢
    simp -dsimp [e]
    refine for_inv (lpF Ws L S R) ?_ ?_ _ _ ⟨S, none, _, rfl, fun s h => h, rfl⟩
    · rintro d ds ρ ⟨ss, o5, b, e1, e2, rfl⟩
      cases ss with
      | nil => cases e1
      | cons s ss =>
        have e1' : d :: ds = s.d :: syD ss := e1
        cases e1'
        have hs := e2 s (List.mem_cons_self ..)
        have hcand : cand L S 0 = [] := by
          rcases fold_none (Ws := L) S 0 with ⟨h1, _⟩ | ⟨_, _, _, _, h2, _⟩
          · exact h1
          · rw [hb] at h2; cases h2
        have hcnt := cnt_le (cand_nil S 0 hcand s hs)
        simp -dsimp
        refine comp_filter' (f := wd) (fun w => some (.bool (s.hold w))) _ rfl L (by simp; omega) (fun w hw => ?_) ?_
        · simp -dsimp
          refine lholds_ok (g1 w hw) (by omega) s (hS s hs) ?_
          simp -dsimp
        · rw [fm_all]
          simp -dsimp [bools_map]
          refine Br_dec (fun h => absurd h (by omega)) (fun h => ?_)
          simp -dsimp
          unfold lpF
          exact ⟨ss, some _, b, rfl, fun x hx => e2 x (List.mem_cons_of_mem _ hx), rfl⟩
    · rintro ρ ⟨ss, o5, b, e1, e2, rfl⟩
      simp -dsimp
      exact q
  | some b =>
    obtain ⟨j, rfl, e1, e2, e3⟩ := plan_go hb g2
    have hlt := keep_less hb
    obtain ⟨c, y, n⟩ := b
    have hsc : (syD S)[c]? = some (sayAt S c).d := by
      rw [syD_get]
      have : c < S.length := hlt.1
      simp [sayAt, List.getElem?_eq_getElem this]
    have hsok : (sayAt S c).ok := by
      have : c < S.length := hlt.1
      have e : sayAt S c = S[c] := by simp [sayAt, List.getElem?_eq_getElem this]
      rw [e]
      exact hS _ (List.getElem_mem this)
    simp -dsimp [bsD]
    refine ⟨j, by omega, by omega, ?_⟩
    refine comp_filter' (f := wd) (fun w => if keepB S (c, y, n) w = true then some (wd w) else none) _ rfl L (by simp; omega) (fun w hw => ?_) ?_
    · simp -dsimp [atI_nat, hsc, -syD_get]
      refine lholds_ok (g1 w hw) (by omega) _ hsok ?_
      simp -dsimp
      refine ⟨fun h => ?_, fun h => ?_⟩
      · simp -dsimp
        unfold keepB
        simp at h
        simp [h]
      · simp -dsimp
        unfold keepB
        simp at h
        simp [h]
    · rw [fm_wd]
      simp -dsimp
      refine lbest_ok (by omega) (fun w hw => g1 w (List.mem_filter.mp hw).1) (by omega) hS hSl ?_
      simp -dsimp
      unfold lpI
      refine ⟨L.filter (keepB S (c, y, n)), acc ++ [bsD (some (c, y, n))], fun w hw => g1 w (List.mem_filter.mp hw).1, e3, by omega, by rw [List.append_assoc, ← g4, e1]; rfl, by rw [← g4', e2], by simp; omega, rfl⟩
/-! all worlds -/
def wl : Nat → Int → List (List Int)
  | 0, _ => [[]]
  | j + 1, M => (wl j M).flatMap fun w => (List.range (M - w.sum + 1).toNat).map fun (c : Nat) => w ++ [(c : Int)]
theorem wl_W : ∀ (j : Nat) {M : Int}, 0 ≤ M → ∀ w ∈ wl j M, (∀ x ∈ w, 0 ≤ x) ∧ w.sum ≤ M
  | 0, M, hM, w, hw => by
    simp [wl] at hw
    subst hw
    exact ⟨by simp, by simpa using hM⟩
  | j + 1, M, hM, w, hw => by
    rw [wl] at hw
    obtain ⟨v, hv, hw⟩ := List.mem_flatMap.mp hw
    obtain ⟨c, hc, rfl⟩ := List.mem_map.mp hw
    have hc := List.mem_range.mp hc
    obtain ⟨h1, h2⟩ := wl_W j hM v hv
    refine ⟨fun x hx => ?_, by rw [List.sum_append]; simp; omega⟩
    rcases List.mem_append.mp hx with hx | hx
    · exact h1 x hx
    · simp at hx; omega
/-- many, most: how they are drawn -/
def mmOk (m M : Nat) : Prop := (m = 1 ∧ M < 9) ∨ (m = 2 ∧ M < 5) ∨ (m = 3 ∧ M < 3)
theorem wl_len {m M j : Nat} (h : mmOk m M) (hj : j ≤ 2 ^ m) : (wl j M).length ≤ 1000 := by
  have k1 : ∀ M < 9, ∀ j < 3, (wl j (M : Nat)).length ≤ 1000 := by decide +kernel
  have k2 : ∀ M < 5, ∀ j < 5, (wl j (M : Nat)).length ≤ 1000 := by decide +kernel
  have k3 : ∀ M < 3, ∀ j < 9, (wl j (M : Nat)).length ≤ 1000 := by decide +kernel
  rcases h with ⟨rfl, h⟩ | ⟨rfl, h⟩ | ⟨rfl, h⟩
  · exact k1 M h j (by omega)
  · exact k2 M h j (by omega)
  · exact k3 M h j (by omega)
end K94

set_option Elab.async false
set_option linter.all false
set_option maxRecDepth 100000
set_option maxHeartbeats 4000000
namespace K94
open PySem L2 Pv Pv.Wp
theorem wl_lenw : ∀ (j : Nat) {M : Int}, ∀ w ∈ wl j M, w.length = j
  | 0, M, w, hw => by
    simp [wl] at hw
    subst hw; rfl
  | j + 1, M, w, hw => by
    rw [wl] at hw
    obtain ⟨v, hv, hw⟩ := List.mem_flatMap.mp hw
    obtain ⟨c, hc, rfl⟩ := List.mem_map.mp hw
    have := wl_lenw j v hv
    simp; omega
theorem ints_map : ∀ w : List Int, intsOf (w.map .int) = some w
  | [] => rfl
  | x :: w => by rw [List.map_cons, ints_cons, ints_map w]; rfl
theorem items_wd {w : List Int} : itemsOf (wd w) = some (w.map .int) := rfl
theorem rangeD_eq {z : Int} : rangeD 0 z = (List.range z.toNat).map fun (k : Nat) => PyData.int ((k : Nat) : Int) := by
  unfold rangeD
  rw [Int.sub_zero]
  congr 1
  funext k
  rw [Int.zero_add]
theorem add_wd {w : List Int} {k : Int} : O2.f .add (wd w) (.tuple [.int k]) = if w.length + 1 ≤ sizeLine then some (wd (w ++ [k])) else none := by
  have e : O2.f .add (wd w) (.tuple [.int k]) = if (w.map PyData.int).length + 1 ≤ sizeLine then some (.tuple (w.map .int ++ [.int k])) else none := rfl
  rw [e, List.length_map]
  unfold wd
  rw [List.map_append]; rfl
def nxt (M : Int) (w : List Int) : List (List Int) := (List.range (M - w.sum + 1).toNat).map fun (c : Nat) => w ++ [(c : Int)]
theorem wl_nxt {j : Nat} {M : Int} : wl (j + 1) M = (wl j M).flatMap (nxt M) := rfl
theorem fm_rng {n : Nat} {g : Nat → D} : ((List.range n).filterMap fun k => some (g k)) = (List.range n).map g := by
  generalize List.range n = l
  induction l with
  | nil => rfl
  | cons w L ih => rw [List.filterMap_cons, List.map_cons, ih]
theorem shL_more {α : Type} {f : α → D} {a b : List α} : shL (a.map f) ++ b.map (OT.sh ∘ f) = shL ((a ++ b).map f) := by
  unfold shL
  rw [List.map_append, List.map_append, List.map_map (l := b)]
def lwI (m M C : Nat) (ds : List D) (ρ : Pv.Env) : Prop := ∃ (j : Nat) (o3 o4 o5 : Option OT), j + ds.length = C ∧
  ρ = [.val false (.sh (.int m)), .val false (.sh (.int M)), .val false (.sh (.list ((wl j M).map wd))), frS o3, frS o4, frS o5, .non]
def lwJ (m M j : Nat) (d3 : D) (ds : List D) (ρ : Pv.Env) : Prop := ∃ (ws acc : List (List Int)) (o5 : Option OT), ds = ws.map wd ∧ (∀ w ∈ ws, w ∈ wl j M) ∧ acc ++ ws.flatMap (nxt M) = wl (j + 1) M ∧
  ρ = [.val false (.sh (.int m)), .val false (.sh (.int M)), .val false (.sh (.list ((wl j M).map wd))), .val false (.sh d3), .val false (.lst (shL (acc.map wd))), frS o5, .non]
theorem lworlds_ok {fu k : Nat} {m M C : Nat} {Q : OT → List OT → Prop} (hk : 1 ≤ k) (h : mmOk m M) (hC : C = 2 ^ m)
    (q : Q (.sh (.list ((wl C M).map wd))) [.sh .none, .sh .none]) : Wr (evF T fu k 32 [.sh (.int m), .sh (.int M)]) Q := by
  refine w_def (by omega) (fd := r_law_worlds.fd) rfl (ρ := [.val false (.sh (.int m)), .val false (.sh (.int M))]) rfl ?_
  show Wo (evS _ fu b_law_worlds [.val false (.sh (.int m)), .val false (.sh (.int M)), .non, .non, .non, .non, .non]) (finr [false, false] Q)
  unfold b_law_worlds
  have hM : M ≤ 8 := by rcases h with ⟨_, h⟩ | ⟨_, h⟩ | ⟨_, h⟩ <;> omega
  have hc : atI [PyData.int 1, .int 2, .int 4, .int 8, .int 16] (m : Int) = some (.int (C : Int)) := by
    subst hC
    rcases h with ⟨rfl, _⟩ | ⟨rfl, _⟩ | ⟨rfl, _⟩ <;> rfl
  have hC8 : C ≤ 8 := by
    subst hC
    rcases h with ⟨rfl, _⟩ | ⟨rfl, _⟩ | ⟨rfl, _⟩ <;> decide
  simp -dsimp [hc]
  refine ⟨rng_ok (by omega) (by omega), for_inv (lwI m M C) ?_ ?_ _ _ ⟨0, none, none, none, by simp, rfl⟩⟩
  · rintro d ds ρ ⟨j, o3, o4, o5, e1, rfl⟩
    simp only [List.length_cons] at e1
    have hlen := wl_len h (j := j + 1) (by omega)
    simp -dsimp
    refine for_inv (lwJ m M j d) ?_ ?_ _ _ ⟨wl j M, [], _, rfl, fun w h => h, by rw [List.nil_append, wl_nxt], rfl⟩
    · rintro d ds ρ ⟨ws, acc, o5, e1, e2, e3, rfl⟩
      cases ws with
      | nil => cases e1
      | cons w ws =>
        have e1' : d :: ds = wd w :: ws.map wd := e1
        cases e1'
        have hw := e2 w (List.mem_cons_self ..)
        obtain ⟨w1, w2⟩ := wl_W j (by omega) w hw
        have w3 := wl_lenw j w hw
        have w4 : 0 ≤ w.sum := Int.le_trans (cntA_bd (fun _ => true) w 0 w1).1 (cntA_bd (fun _ => true) w 0 w1).2
        rw [List.flatMap_cons, ← List.append_assoc] at e3
        have e4 : acc.length + (nxt M w).length ≤ 1000 := by
          have := congrArg List.length e3
          rw [List.length_append, List.length_append] at this
          omega
        simp -dsimp [items_wd, ints_map]
        rw [rangeD_eq]
        refine ⟨rng_ok (by omega) (by omega), comp_filter' (fun (k : Nat) => some (wd (w ++ [(k : Int)]))) (fun (k : Nat) => PyData.int (k : Int)) _ rfl (List.range (M - w.sum + 1 : Int).toNat) (by rw [List.length_range]; simp; omega) (fun k hk => ?_) ?_⟩
        · simp -dsimp [add_wd]
          omega
        · rw [fm_rng]
          have e5 : ((List.range (M - w.sum + 1 : Int).toNat).map fun (k : Nat) => wd (w ++ [(k : Int)])) = (nxt M w).map wd := by unfold nxt; rw [List.map_map]; rfl
          rw [e5]
          simp -dsimp
          refine ⟨by omega, ?_⟩
          unfold lwJ
          exact ⟨ws, acc ++ nxt M w, some _, rfl, fun x hx => e2 x (List.mem_cons_of_mem _ hx), e3, by rw [← shL_more]; rfl⟩
    · rintro ρ ⟨ws, acc, o5, e1', e2, e3, rfl⟩
      cases ws with
      | nil =>
        rw [List.flatMap_nil, List.append_nil] at e3
        subst e3
        simp -dsimp
        unfold lwI
        exact ⟨j + 1, some _, some _, o5, by omega, rfl⟩
      | cons w ws => cases e1'
  · rintro ρ ⟨j, o3, o4, o5, e1, rfl⟩
    simp only [List.length_nil, Nat.add_zero] at e1
    subst e1
    simp -dsimp
    exact q
end K94

set_option Elab.async false
set_option linter.all false
set_option maxRecDepth 100000
set_option maxHeartbeats 4000000
namespace K94
open PySem L2 Pv Pv.Wp
def encC (M : Int) (w : List Int) : D := .tuple [wd w, .int (M - w.sum)]
theorem comp_filter2 {elt : Pv.Env → Res (Option D)} {t : Tg} {vs : List Nat} {Q : List D → Pv.Env → Prop} {α : Type} (g : α → Option D) (f : α → D) (ρ ρ0 : Pv.Env) (h1 : wipeE ρ vs = ρ0) (h0 : wipeE ρ0 vs = ρ0) (xs : List α) (hn : xs.length ≤ sizeLine)
    (hs : ∀ x ∈ xs, Wo (tgE ρ0 t (f x)) fun ρ1 => Wr (elt ρ1) fun o ρ2 => o = g x ∧ wipeE ρ2 vs = ρ0) (hd1 : Q (xs.filterMap g) ρ) (hd2 : Q (xs.filterMap g) ρ0) : Wr (compE elt t vs (xs.map f) [] ρ) Q := by
  refine comp_inv' (fun ds acc ρ' => (ρ' = ρ ∨ ρ' = ρ0) ∧ ∃ ys, (∀ x ∈ ys, x ∈ xs) ∧ ds = ys.map f ∧ acc.length + ys.length ≤ sizeLine ∧ acc ++ ys.filterMap g = xs.filterMap g) (fun x xs' acc ρ' h => ?_) (fun acc ρ' h => ?_) _ _ _ ⟨.inl rfl, xs, fun _ h => h, rfl, by simpa using hn, rfl⟩
  · obtain ⟨hρ, ys, hm, e, hl, ha⟩ := h
    have hw : wipeE ρ' vs = ρ0 := by rcases hρ with rfl | rfl <;> assumption
    cases ys with
    | nil => cases e
    | cons y ys =>
      rw [List.map_cons] at e
      cases e
      rw [hw]
      refine Wo_mono (hs y (hm y (List.mem_cons_self ..))) fun ρ1 q => Wr_mono q fun o ρ2 q => ?_
      obtain ⟨q1, q2⟩ := q
      rw [q1]
      rw [List.length_cons] at hl
      rw [List.filterMap_cons] at ha
      cases hg : g y with
      | none =>
        rw [hg] at ha
        exact ⟨.inr q2, ys, fun x hx => hm x (List.mem_cons_of_mem _ hx), rfl, by omega, ha⟩
      | some z =>
        rw [hg] at ha
        refine ⟨by omega, .inr q2, ys, fun x hx => hm x (List.mem_cons_of_mem _ hx), rfl, by rw [List.length_append]; simp only [List.length_cons, List.length_nil]; omega, ?_⟩
        simpa using ha
  · obtain ⟨hρ, ys, hm, e, hl, ha⟩ := h
    cases ys with
    | nil =>
      simp only [List.filterMap_nil, List.append_nil] at ha
      subst ha
      rcases hρ with rfl | rfl
      · exact hd1
      · exact hd2
    | cons y ys => cases e
def acI (M C : Nat) (ds : List D) (ρ : Pv.Env) : Prop := ∃ (j : Nat) (o3 o4 o5 o6 : Option OT), j + ds.length = C ∧
  ρ = [.val false (.sh (.int C)), .val false (.sh (.int M)), .val false (.sh (.list ((wl j M).map (encC M)))), frS o3, frS o4, frS o5, frS o6, .non]
def acJ (M C j : Nat) (d3 : D) (ds : List D) (ρ : Pv.Env) : Prop := ∃ (ws acc : List (List Int)) (o5 o6 : Option OT), ds = ws.map (encC M) ∧ (∀ w ∈ ws, w ∈ wl j M) ∧ acc ++ ws.flatMap (nxt M) = wl (j + 1) M ∧
  ρ = [.val false (.sh (.int C)), .val false (.sh (.int M)), .val false (.sh (.list ((wl j M).map (encC M)))), .val false (.sh d3), .val false (.lst (shL (acc.map (encC M)))), frS o5, frS o6, .non]
@[simp] theorem set_fr {o : Option OT} {ρ : Pv.Env} {s : Slot} : List.set (frS o :: ρ) 0 s = s :: ρ := rfl
theorem counts2_ok {fu k : Nat} {m M C : Nat} {Q : OT → List OT → Prop} (hk : 1 ≤ k) (h : mmOk m M) (hC : C = 2 ^ m)
    (q : Q (.lst (shL ((wl C M).map wd))) [.sh .none, .sh .none]) : Wr (evF T fu k 8 [.sh (.int C), .sh (.int M)]) Q := by
  refine w_def (by omega) (fd := r_all_counts.fd) rfl (ρ := [.val false (.sh (.int C)), .val false (.sh (.int M))]) rfl ?_
  show Wo (evS _ fu b_all_counts [.val false (.sh (.int C)), .val false (.sh (.int M)), .non, .non, .non, .non, .non, .non]) (finr [false, false] Q)
  unfold b_all_counts
  have hM : M ≤ 8 := by rcases h with ⟨_, h⟩ | ⟨_, h⟩ | ⟨_, h⟩ <;> omega
  have hC8 : C ≤ 8 := by
    subst hC
    rcases h with ⟨rfl, _⟩ | ⟨rfl, _⟩ | ⟨rfl, _⟩ <;> decide
  simp -dsimp
  refine ⟨rng_ok (by omega) (by omega), for_inv (acI M C) ?_ ?_ _ _ ⟨0, none, none, none, none, by simp, by simp [wl, encC, wd, frS]⟩⟩
  · rintro d ds ρ ⟨j, o3, o4, o5, o6, e1, rfl⟩
    simp only [List.length_cons] at e1
    have hlen := wl_len h (j := j + 1) (by omega)
    simp -dsimp
    refine for_inv (acJ M C j d) ?_ ?_ _ _ ⟨wl j M, [], _, _, rfl, fun w h => h, by rw [List.nil_append, wl_nxt], rfl⟩
    · rintro d ds ρ ⟨ws, acc, o5, o6, e1, e2, e3, rfl⟩
      cases ws with
      | nil => cases e1
      | cons w ws =>
        have e1' : d :: ds = encC M w :: ws.map (encC M) := e1
        cases e1'
        have hw := e2 w (List.mem_cons_self ..)
        obtain ⟨w1, w2⟩ := wl_W j (by omega) w hw
        have w3 := wl_lenw j w hw
        have w4 : 0 ≤ w.sum := Int.le_trans (cntA_bd (fun _ => true) w 0 w1).1 (cntA_bd (fun _ => true) w 0 w1).2
        rw [List.flatMap_cons, ← List.append_assoc] at e3
        have e4 : acc.length + (nxt M w).length ≤ 1000 := by
          have := congrArg List.length e3
          rw [List.length_append, List.length_append] at this
          omega
        have ee : encC M w = .tuple [wd w, .int (M - w.sum)] := rfl
        rw [ee]
        simp -dsimp
        rw [rangeD_eq]
        refine ⟨rng_ok (by omega) (by omega), comp_filter' (fun (k : Nat) => some (encC M (w ++ [(k : Int)]))) (fun (k : Nat) => PyData.int (k : Int)) _ rfl (List.range (M - w.sum + 1 : Int).toNat) (by rw [List.length_range]; simp; omega) (fun k hk => ?_) ?_⟩
        · simp -dsimp [add_wd]
          refine ⟨by omega, ?_⟩
          unfold encC
          rw [List.sum_append]
          simp
          omega
        · rw [fm_rng]
          have e5 : ((List.range (M - w.sum + 1 : Int).toNat).map fun (k : Nat) => encC M (w ++ [(k : Int)])) = (nxt M w).map (encC M) := by unfold nxt; rw [List.map_map]; rfl
          rw [e5]
          simp -dsimp
          refine ⟨by omega, ?_⟩
          unfold acJ
          exact ⟨ws, acc ++ nxt M w, some _, some _, rfl, fun x hx => e2 x (List.mem_cons_of_mem _ hx), e3, by rw [← shL_more]; rfl⟩
    · rintro ρ ⟨ws, acc, o5, o6, e1', e2, e3, rfl⟩
      cases ws with
      | nil =>
        rw [List.flatMap_nil, List.append_nil] at e3
        subst e3
        simp -dsimp
        unfold acI
        exact ⟨j + 1, some _, some _, o5, o6, by omega, rfl⟩
      | cons w ws => cases e1'
  · rintro ρ ⟨j, o3, o4, o5, o6, e1, rfl⟩
    simp only [List.length_nil, Nat.add_zero] at e1
    subst e1
    have hlen := wl_len h (j := j) (by omega)
    simp -dsimp
    refine comp_filter2 (fun w => some (wd w)) (encC M) _ [.val false (.sh (.int j)), .val false (.sh (.int M)), .val false (.sh (.list ((wl j M).map (encC M)))), frS o3, frS o4, .non, .non, .non] rfl rfl (wl j M) (by simp; omega) (fun w hw => ?_) ?_ ?_
    · simp -dsimp [encC]
    · rw [fm_all]
      simp -dsimp
      exact q
    · rw [fm_all]
      simp -dsimp
      exact q
def allh (K : List Sy) (w : List Int) : Bool := K.all fun s => s.hold w
theorem bools_all {w : List Int} : ∀ K : List Sy, boolsOf (K.map fun s => PyData.bool (s.hold w)) = some (K.map fun s => s.hold w)
  | [] => rfl
  | s :: K => by
    rw [List.map_cons, List.map_cons]
    show (boolsOf (K.map fun s => PyData.bool (s.hold w))).map (s.hold w :: ·) = _
    rw [bools_all K]; rfl
theorem all_id {w : List Int} {K : List Sy} : (K.map fun s => s.hold w).all id = allh K w := by
  unfold allh
  rw [List.all_map]; rfl
theorem fm_allS {K : List Sy} {g : Sy → D} : (K.filterMap fun s => some (g s)) = K.map g := by
  induction K with
  | nil => rfl
  | cons w L ih => rw [List.filterMap_cons, List.map_cons, ih]
theorem worlds_ok {fu k : Nat} {m M C : Nat} {K : List Sy} {Q : OT → List OT → Prop} (hk : 10 ≤ k) (h : mmOk m M) (hC : C = 2 ^ m) (hK : ∀ s ∈ K, s.ok) (hKl : K.length ≤ 1000)
    (q : Q (.lst (shL (((wl C M).filter (allh K)).map wd))) [.sh .none, .sh .none, .sh .none]) : Wr (evF T fu k 9 [.sh (.int m), .sh (.int M), .sh (.list (syD K))]) Q := by
  refine w_def (by omega) (fd := r_all_worlds.fd) rfl (ρ := [.val false (.sh (.int m)), .val false (.sh (.int M)), .val false (.sh (.list (syD K)))]) rfl ?_
  show Wo (evS _ fu b_all_worlds [.val false (.sh (.int m)), .val false (.sh (.int M)), .val false (.sh (.list (syD K))), .non, .non, .non]) (finr [false, false, false] Q)
  unfold b_all_worlds
  have hM : M ≤ 8 := by rcases h with ⟨_, h⟩ | ⟨_, h⟩ | ⟨_, h⟩ <;> omega
  have hm : m ≤ 3 := by rcases h with ⟨_, _⟩ | ⟨_, _⟩ | ⟨_, _⟩ <;> omega
  have hlen := wl_len h (j := C) (by omega)
  have hc : O2.f .shl (.int 1) (.int m) = some (.int (C : Int)) := by
    subst hC
    rcases h with ⟨rfl, _⟩ | ⟨rfl, _⟩ | ⟨rfl, _⟩ <;> rfl
  simp -dsimp [hc, -shl_int]
  refine counts2_ok (by omega) h hC ?_
  simp -dsimp
  refine comp_filter' (f := wd) (fun w => if allh K w = true then some (wd w) else none) _ rfl (wl C M) (by simp; omega) (fun w hw => ?_) ?_
  · have hWw : W w := by
      have := wl_W C (M := M) (by omega) w hw
      exact ⟨this.1, by omega⟩
    simp -dsimp
    refine comp_filter' (f := Sy.d) (fun s => some (.bool (s.hold w))) _ rfl K (by simp; omega) (fun s hs => ?_) ?_
    · simp -dsimp
      refine holds_ok hWw (by omega) s (hK s hs) ?_
      simp -dsimp
    · rw [fm_allS]
      simp -dsimp [bools_all, all_id]
      refine ⟨fun h => ?_, fun h => ?_⟩
      · simp -dsimp [allh, h]
      · simp -dsimp [allh, h]
  · rw [fm_wd]
    simp -dsimp
    exact q
end K94

set_option Elab.async false
set_option linter.all false
set_option maxRecDepth 100000
set_option maxHeartbeats 4000000
namespace K94
open PySem L2 Pv Pv.Wp
/-! opposites: just one of them holds where the saying doesn't -/
def one (b : Bool) : Int := if b = true then 1 else 0
theorem yes_cons {w : List Int} {F : List (List Int)} {s : Sy} : yesN (w :: F) s = one (s.hold w) + yesN F s := by
  unfold yesN one
  cases h : s.hold w <;> simp [List.filter_cons, h] <;> omega
theorem sum_add {α : Type} {f g : α → Int} : ∀ l : List α, (l.map fun x => f x + g x).sum = (l.map f).sum + (l.map g).sum
  | [] => rfl
  | x :: l => by
    rw [List.map_cons, List.map_cons, List.map_cons, List.sum_cons, List.sum_cons, List.sum_cons, sum_add l]
    omega
theorem opp_one {w : List Int} (hw : W w) {s : Sy} (hs : s.ok) : (s.opp.map fun o => one (o.hold w)).sum = 1 - one (s.hold w) := by
  cases s with
  | two u a b =>
    have e1 : be w b a = al w a b := be_al
    have e2 : al w b a = be w a b := be_al.symm
    cases u <;> simp only [Sy.opp, W2.turn, Sy.hold, List.map_cons, List.map_nil, List.sum_cons, List.sum_nil, one, e1, e2] <;> by_cases h : al w a b = 0 <;> by_cases h1 : 0 < bo w a b <;> by_cases h2 : be w a b < al w a b <;> simp <;> (repeat' split) <;> omega
  | num u n a b =>
    have hb := (bo_bd a b hw).1
    obtain ⟨hn, _, _⟩ := hs
    cases u <;> simp only [Sy.opp]
    · split <;> simp [Sy.hold, one] <;> (repeat' split) <;> omega
    · simp [Sy.hold, one] <;> (repeat' split) <;> omega
    · split <;> simp [Sy.hold, one] <;> (repeat' split) <;> omega
  | shr u t c x y =>
    cases u <;> simp only [Sy.opp, WS.turn, Sy.hold, List.map_cons, List.map_nil, List.sum_cons, List.sum_nil, one] <;> simp <;> (repeat' split) <;> omega
theorem opp_sum {s : Sy} (hs : s.ok) : ∀ F : List (List Int), (∀ w ∈ F, W w) → (s.opp.map (yesN F)).sum = F.length - yesN F s
  | [], _ => by
    have e : (s.opp.map (yesN [])) = s.opp.map fun _ => (0 : Int) := by congr 1
    rw [e]
    have : ∀ l : List Sy, (l.map fun _ => (0 : Int)).sum = 0 := fun l => by
      induction l with
      | nil => rfl
      | cons x l ih => rw [List.map_cons, List.sum_cons, ih]; rfl
    rw [this]; rfl
  | w :: F, h => by
    have e : s.opp.map (yesN (w :: F)) = s.opp.map fun o => one (o.hold w) + yesN F o := by
      congr 1
      funext o
      exact yes_cons
    rw [e, sum_add, opp_one (h w (List.mem_cons_self ..)) hs, yes_cons, opp_sum hs F fun x hx => h x (List.mem_cons_of_mem _ hx), List.length_cons]
    push_cast
    omega
theorem len_and {F : List (List Int)} {K : List Sy} {s : Sy} : (((F.filter (allh (K ++ [s]))).length : Nat) : Int) = yesN (F.filter (allh K)) s := by
  unfold yesN
  rw [List.filter_filter]
  congr 2
  refine List.filter_congr fun w _ => ?_
  unfold allh
  rw [List.all_append, List.all_cons, List.all_nil, Bool.and_true, Bool.and_comm]
theorem ne_bs (b : Bst) : C2.b .ne (bsD b) (bsD b) = some false := by
  have h : SeqAt.shaped (bsD b) = true := (bs_lay b).shaped (by omega)
  have h2 : PyData.eqv (bsD b) (bsD b) = true := SeqAt.eqv_refl _ (bs_lay b).1
  match b with
  | none =>
    have e : C2.b .ne (bsD none) (bsD none) = (if SeqAt.shaped (bsD none) = true ∧ SeqAt.shaped (bsD none) = true then some (PyData.eqv (bsD none) (bsD none)) else none).map not := rfl
    rw [e, if_pos ⟨h, h⟩, h2]; rfl
  | some (c, y, n) =>
    have e : C2.b .ne (bsD (some (c, y, n))) (bsD (some (c, y, n))) = (if SeqAt.shaped (bsD (some (c, y, n))) = true ∧ SeqAt.shaped (bsD (some (c, y, n))) = true then some (PyData.eqv (bsD (some (c, y, n))) (bsD (some (c, y, n)))) else none).map not := rfl
    rw [e, if_pos ⟨h, h⟩, h2]; rfl
theorem lay_ws {F : List (List Int)} : Lay 2 (.list (F.map wd)) := lay_list fun d hd => by
  obtain ⟨w, _, rfl⟩ := List.mem_map.mp hd
  refine lay_tup fun d hd => ?_
  obtain ⟨i, _, rfl⟩ := List.mem_map.mp hd
  exact lay_int
theorem ints_lens {l : List Sy} {g : Sy → Int} : intsOf (l.map fun s => PyData.int (g s)) = some (l.map g) := by
  induction l with
  | nil => rfl
  | cons x l ih => rw [List.map_cons, ints_cons, ih]; rfl
def lrI (m M : Nat) (K S : List Sy) (F : List (List Int)) (ds : List D) (ρ : Pv.Env) : Prop := ∃ (ss : List Sy) (o6 o8 o9 : Option OT), ds = syD ss ∧ (∀ s ∈ ss, s.ok) ∧
  ρ = [.val false (.sh (.int m)), .val false (.sh (.int M)), .val false (.sh (.list (syD K))), .val false (.sh (.list (syD S))), .val false (.sh (.list (F.map wd))), .val false (.sh (.list (F.map wd))), frS o6, .non, frS o8, frS o9, .non]
theorem right_ok {fu k : Nat} {m M C : Nat} {K S : List Sy} {Q : OT → List OT → Prop} (hfu : 1000 < fu) (hk : 14 ≤ k) (h : mmOk m M) (hC : C = 2 ^ m) (hK : ∀ s ∈ K, s.ok) (hKl : K.length ≤ 100) (hS : ∀ s ∈ S, s.ok) (hSl : S.length ≤ 100)
    (q : Q (.sh (.bool true)) [.sh .none, .sh .none, .sh .none, .sh .none]) : Wr (evF T fu k 35 [.sh (.int m), .sh (.int M), .sh (.list (syD K)), .sh (.list (syD S))]) Q := by
  refine w_def (by omega) (fd := r_law_right.fd) rfl (ρ := [.val false (.sh (.int m)), .val false (.sh (.int M)), .val false (.sh (.list (syD K))), .val false (.sh (.list (syD S)))]) rfl ?_
  show Wo (evS _ fu b_law_right [.val false (.sh (.int m)), .val false (.sh (.int M)), .val false (.sh (.list (syD K))), .val false (.sh (.list (syD S))), .non, .non, .non, .non, .non, .non, .non]) (finr [false, false, false, false] Q)
  unfold b_law_right
  have hM : M ≤ 8 := by rcases h with ⟨_, h⟩ | ⟨_, h⟩ | ⟨_, h⟩ <;> omega
  have hlen := wl_len h (j := C) (by omega)
  have hWW : ∀ w ∈ wl C M, W w := fun w hw => by
    have := wl_W C (M := M) (by omega) w hw
    exact ⟨this.1, by omega⟩
  simp -dsimp
  refine lworlds_ok (by omega) h hC ?_
  simp -dsimp
  refine comp_filter' (f := wd) (fun w => if allh K w = true then some (wd w) else none) _ rfl (wl C M) (by simp; omega) (fun w hw => ?_) ?_
  · simp -dsimp
    refine comp_filter' (f := Sy.d) (fun s => some (.bool (s.hold w))) _ rfl K (by simp; omega) (fun s hs => ?_) ?_
    · simp -dsimp
      refine lholds_ok (hWW w hw) (by omega) s (hK s hs) ?_
      simp -dsimp
    · rw [fm_allS]
      simp -dsimp [bools_all, all_id]
      refine ⟨fun h => ?_, fun h => ?_⟩
      · simp -dsimp [allh, h]
      · simp -dsimp [allh, h]
  rw [fm_wd]
  simp -dsimp
  refine worlds_ok (by omega) h hC hK (by omega) ?_
  have hFl : ((wl C M).filter (allh K)).length ≤ 1000 := Nat.le_trans (List.length_filter_le _ _) hlen
  have hFW : ∀ w ∈ (wl C M).filter (allh K), W w := fun w hw => hWW w (List.mem_filter.mp hw).1
  have hone : ∀ s : Sy, (((wl C M).filter (allh (K ++ [s]))).length : Int) = yesN ((wl C M).filter (allh K)) s := fun s => len_and
  generalize hF : (wl C M).filter (allh K) = F at hFl hFW hone ⊢
  have en := ne_self (lay_ws (F := F)) (by omega)
  simp -dsimp [en]
  refine best_ok (by omega) hFW hFl hS ?_
  simp -dsimp
  refine lbest_ok (by omega) hFW hFl hS (by omega) ?_
  simp -dsimp [ne_bs, syD_take]
  refine for_inv (lrI m M K S F) ?_ ?_ _ _ ⟨S.take 3, none, none, none, rfl, fun s hs => hS s (List.mem_of_mem_take hs), rfl⟩
  · rintro d ds ρ ⟨ss, o6, o8, o9, e1, e2, rfl⟩
    cases ss with
    | nil => cases e1
    | cons s ss =>
      have e1' : d :: ds = s.d :: syD ss := e1
      cases e1'
      have hs := e2 s (List.mem_cons_self ..)
      have hadd : ∀ x : Sy, O2.f .add (.list (syD K)) (.list [x.d]) = some (.list (syD (K ++ [x]))) := fun x => by
        have e : O2.f .add (.list (syD K)) (.list [x.d]) = if (syD K).length + 1 ≤ sizeLine then some (.list (syD K ++ [x.d])) else none := rfl
        rw [e, if_pos (by simp; omega), syD_app]
      simp -dsimp
      refine split_ok (by omega) hFW hFl hs ?_
      simp -dsimp [hadd, -add_lst]
      refine worlds_ok (by omega) h hC (app_ok hK (by simpa using hs)) (by simp; omega) ?_
      simp -dsimp [hone]
      refine opposites_ok (by omega) hs ?_
      simp -dsimp
      refine comp_filter' (f := Sy.d) (fun o => some (.int (yesN F o))) _ rfl s.opp (by have := opp_len (s := s); simp; omega) (fun o ho => ?_) ?_
      · have ho' := opp_ok hs o ho
        simp -dsimp [hadd, -add_lst]
        refine worlds_ok (by omega) h hC (app_ok hK (by simpa using ho')) (by simp; omega) ?_
        simp -dsimp [hone]
      · rw [fm_allS]
        simp -dsimp [ints_lens, opp_sum hs F hFW]
        unfold lrI
        exact ⟨ss, some _, some _, some _, rfl, fun x hx => e2 x (List.mem_cons_of_mem _ hx), rfl⟩
  · rintro ρ ⟨ss, o6, o8, o9, e1, e2, rfl⟩
    have et : (F.map wd).take 40 = (F.take 40).map wd := (List.map_take ..).symm
    simp -dsimp
    rw [et]
    refine lplan_ok hfu (by omega) (fun w hw => hFW w (List.mem_of_mem_take hw)) (by rw [List.length_take]; omega) hS (by omega) ?_
    simp -dsimp
    exact q
end K94

set_option Elab.async false
set_option linter.all false
set_option maxRecDepth 100000
set_option maxHeartbeats 4000000
namespace K94
open PySem L2 Pv Pv.Wp
def laC (X cs : List D) (i : D) (m M : Nat) (K : List Sy) (o7 : Option OT) (t : Nat) (ds acc : List D) (ρ : Pv.Env) : Prop := ∃ (box : List OT) (l : List Sy), Bx (5100 + 100 * (10 - ds.length)) box ∧ acc = syD l ∧ (∀ s ∈ l, s.ok) ∧ l.length + ds.length = t ∧
  ρ = [.val false (.sh (.list X)), .val false (.sh (.list cs)), .val false (.sh i), .val false (.lst box), .val false (.sh (.int m)), .val false (.sh (.int M)), .val false (.sh (.list (syD K))), frS o7, .non]
def laI (X cs : List D) (ds : List D) (ρ : Pv.Env) : Prop := ∃ (o2 o3 o4 o5 o6 o7 : Option OT), (∀ d ∈ ds, ∃ i : Int, 0 ≤ i ∧ i ≤ cs.length ∧ d = .int i) ∧
  ρ = [.val false (.sh (.list X)), .val false (.sh (.list cs)), frS o2, frS o3, frS o4, frS o5, frS o6, frS o7, .non]
theorem law_ok {fu k : Nat} {X : List D} {Q : OT → List OT → Prop} (hfu : 1000 < fu) (hk : 16 ≤ k) (hX : ∀ d ∈ X, isInt d) (hXl : X.length ≤ 100) (q : Q (.sh (.bool true)) [.sh .none]) : Wr (evF T fu k 36 [.sh (.list X)]) Q := by
  refine w_def (by omega) (fd := r_law.fd) rfl (ρ := [.val false (.sh (.list X))]) rfl ?_
  show Wo (evS _ fu b_law [.val false (.sh (.list X)), .non, .non, .non, .non, .non, .non, .non, .non]) (finr [false] Q)
  unfold b_law
  simp -dsimp
  refine folded_ok (by omega) hX fun cs hcs hci => ?_
  simp -dsimp
  refine ⟨rng_ok (by split <;> omega) (by split <;> omega), for_inv (laI X cs) ?_ ?_ _ _ ⟨none, none, none, none, none, none, fun d hd => ?_, rfl⟩⟩
  · rintro d ds ρ ⟨o2, o3, o4, o5, o6, o7, e1, rfl⟩
    obtain ⟨i, hi0, hi1, rfl⟩ := e1 d (List.mem_cons_self ..)
    simp -dsimp
    refine box_ok (by omega) hci (by omega) hi0 hi1 fun box hb => ?_
    simp -dsimp
    refine take_ok (by omega) hb (by omega) (by omega) (by omega) fun r1 b1 hb1 h10 h11 => ?_
    simp -dsimp
    refine at_mem h10 (by simpa using h11) fun x hx => ?_
    have hx' : ∃ m b : Nat, x = .int m ∧ atI [PyData.int 9, .int 9, .int 5, .int 3] (m : Int) = some (.int (b : Int)) ∧ 0 < b ∧ b ≤ 9 ∧ 0 < m ∧ m ≤ 3 ∧ ∀ M, M < b → mmOk m M := by
      simp only [List.mem_cons, List.not_mem_nil, or_false] at hx
      rcases hx with rfl | rfl | rfl | rfl
      · exact ⟨1, 9, rfl, rfl, by omega, by omega, by omega, by omega, fun M h => .inl ⟨rfl, h⟩⟩
      · exact ⟨2, 5, rfl, rfl, by omega, by omega, by omega, by omega, fun M h => .inr (.inl ⟨rfl, h⟩)⟩
      · exact ⟨2, 5, rfl, rfl, by omega, by omega, by omega, by omega, fun M h => .inr (.inl ⟨rfl, h⟩)⟩
      · exact ⟨3, 3, rfl, rfl, by omega, by omega, by omega, by omega, fun M h => .inr (.inr ⟨rfl, h⟩)⟩
    obtain ⟨m, b, rfl, hm, hb0, hb9, hm0, hm3, hmm⟩ := hx'
    simp -dsimp [hm]
    refine take_ok (by omega) hb1 (by omega) (by omega) (by omega) fun r2 b2 hb2 h20 h21 => ?_
    obtain ⟨M, rfl⟩ : ∃ M : Nat, r2 = M := ⟨r2.toNat, by omega⟩
    have hmo := hmm M (by omega)
    simp -dsimp
    refine sayings_ok (by omega) (by omega) (by omega) (by omega) (by omega) (by omega) hb2 (by omega) fun K b3 hb3 hK hKl => ?_
    simp -dsimp
    refine take_ok (by omega) hb3 (by omega) (by omega) (by omega) fun r3 b4 hb4 h30 h31 => ?_
    simp -dsimp
    refine ⟨rng_ok (by omega) (by omega), comp_inv' (laC X cs (.int i) m M K o7 (2 + r3).toNat) ?_ ?_ _ _ _ ⟨b4, [], hb4.mono (by simp; omega), rfl, by simp, by simp, rfl⟩⟩
    · rintro d ds acc ρ ⟨box, l, g1, rfl, g3, g4, rfl⟩
      simp only [List.length_cons] at g1 g4
      simp -dsimp
      refine saying_ok (by omega) (by omega) (by omega) g1 (by omega) fun s b1 hb1 hs => ?_
      simp -dsimp
      refine ⟨by omega, ?_⟩
      unfold laC
      exact ⟨b1, l ++ [s], hb1.mono (by omega), rfl, app_ok g3 (by simpa using hs), by simp; omega, rfl⟩
    · rintro acc ρ ⟨box, l, g1, rfl, g3, g4, rfl⟩
      simp only [List.length_nil, Nat.add_zero] at g1 g4
      simp -dsimp
      refine take_ok (by omega) g1 (by omega) (by omega) (by omega) fun r4 b5 hb5 h40 h41 => ?_
      simp -dsimp
      refine Br_dec (fun _ => ?_) (fun _ => ?_)
      · cases l with
        | nil => simp at g4; omega
        | cons s l =>
          have e0 : atI (syD (s :: l)) 0 = some s.d := atI_c0 (x := s.d) (xs := syD l)
          simp only [List.length_cons] at g4
          simp -dsimp [e0]
          refine ⟨by omega, ?_⟩
          refine right_ok hfu (by omega) hmo rfl hK (by omega) (S := s :: l ++ [s]) (app_ok g3 (by simpa using g3 s (List.mem_cons_self ..))) (by simp; omega) ?_
          simp -dsimp
          unfold laI
          exact ⟨some _, some _, some _, some _, some _, some _, fun x hx => e1 x (List.mem_cons_of_mem _ hx), rfl⟩
      · simp -dsimp
        refine right_ok hfu (by omega) hmo rfl hK (by omega) g3 (by omega) ?_
        simp -dsimp
        unfold laI
        exact ⟨some _, some _, some _, some _, some _, some _, fun x hx => e1 x (List.mem_cons_of_mem _ hx), rfl⟩
  · rintro ρ ⟨o2, o3, o4, o5, o6, o7, e1, rfl⟩
    simp -dsimp
    exact q
  · rw [rangeD_eq] at hd
    obtain ⟨j, hj, rfl⟩ := List.mem_map.mp hd
    have hj := List.mem_range.mp hj
    refine ⟨j, by omega, ?_, rfl⟩
    split at hj <;> omega
theorem law_true (ns : List Int) (h : ns.length ≤ 63) : ∃ r, Pv.evF (Pv.tblOf rows) 2000 40 lawN [.sh (.list (ns.map .int))] = some (.sh (.bool true), r) ∧ ∃ ρb, Pv.backE [false] r = some ρb := by
  have := law_ok (fu := 2000) (k := 40) (X := ns.map .int) (Q := fun t ts => t = .sh (.bool true) ∧ ts = [.sh .none]) (by omega) (by omega) (fun d hd => by
    obtain ⟨i, _, rfl⟩ := List.mem_map.mp hd
    exact ⟨i, rfl⟩) (by rw [List.length_map]; omega) ⟨rfl, rfl⟩
  exact ⟨_, eq_of_Wr this, _, rfl⟩
end K94
theorem PySem.Challenge.cw_somesay_k94_whole_asked_next_holds : PySem.Challenge.rw_somesay_k94_whole_asked_next.Holds :=
  K94.holds_of K94.law_true
