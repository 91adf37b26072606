import PyProof.Rows.All
import Wide.All
import OpenK.AllK
import Wide.FinOn
import HandS.ForMost
import HandS.TupAny
import HandS.Deep
import HandS.SortRule
import HandS.SortInts
import KE.KSortTupAny
import HandS.Ends
import HandS.AnyAll
import KE.GoesOver
import KE.GoesMore
import PyProof.GenQ
import HandS.Nested
import HandS.EndOwn
import KE.DataFind
import PySem.Challenge.RW_eventsteps_k51_work_and_bounds
set_option Elab.async false
set_option linter.all false
set_option maxRecDepth 100000
set_option maxHeartbeats 8000000
/-! Data over the hand layer: values as trees, what stands for them in the heap, expressions as partial functions of the slots' data. -/
namespace DL
open PySem PySem.Spec PyProof.Rows L2

/-- data: tuples and lists as trees -/
inductive D where
  | non
  | bl (b : Bool)
  | int (i : Int)
  | str (s : Str)
  | tup (xs : List D)
  | lst (xs : List D)
  | dct (ks : List Key) (xs : List D)
  | obj (C : Str) (ns : List Str) (xs : List D)
  /-- the script: read, never written -/
  | scr (ns : List Int)

def Scr (K : PySem.W.Frag) (H : Hp) (a : Addr) (xs : List V) : Prop :=
  (∃ o, H a = some (.frz o (.lst xs))) ∨
    ∃ (o : Obj) (its : Array Value) (n : Nat), K.lookup a = some o ∧ o.cls = .type "list" ∧ o.dict = none ∧ o.data = .seq its n ∧ its.size ≤ sizeLine ∧ Vals xs its.toList
theorem Scr.seq {K : PySem.W.Frag} {H : Hp} {a : Addr} {xs : List V} (h : Scr K H a xs) : SqL K H a xs := by
  rcases h with ⟨o, h⟩ | h
  · exact .inl (.inr ⟨o, h⟩)
  · exact .inr h

/-- the class of the name C stands at a -/
def ClsAt (K : PySem.W.Frag) (C : Str) (a : Addr) : Prop := PySem.W.nsIn K mainGlobals C = some (some (.ref a))
mutual
/-- v stands for d; every list, dict, instance in it satisfies P -/
def Rep (K : PySem.W.Frag) (P : Addr → Prop) (H : Hp) : D → V → Prop
  | .non, v => v = .non
  | .bl b, v => v = .bl b
  | .int i, v => v = .int i
  | .str s, v => v = .str s
  | .tup ds, v => ∃ a vs, v = .ref a ∧ ds.length ≤ sizeLine ∧ SqT K H a vs ∧ Reps K P H ds vs
  | .lst ds, v => ∃ a vs, v = .ref a ∧ P a ∧ ds.length ≤ sizeLine ∧ H a = some (.lst vs) ∧ Reps K P H ds vs
  | .dct ks ds, v => ∃ a vs, v = .ref a ∧ P a ∧ ks.length ≤ sizeLine ∧ (ks.length = ds.length ∧ ks.Nodup) ∧ H a = some (.dK (ks.zip vs)) ∧ Reps K P H ds vs
  | .obj C ns ds, v => ∃ (a : Addr) (dx : Addr × Addr) (vs : List V), v = .ref a ∧ P a ∧ (ns.length = ds.length ∧ ClsAt K C dx.1) ∧ H a = some (.ins dx.1 dx.2 (ns.zip vs)) ∧ Reps K P H ds vs
  | .scr ns, v => ∃ a, v = .ref a ∧ Scr K H a (ns.map V.int)
def Reps (K : PySem.W.Frag) (P : Addr → Prop) (H : Hp) : List D → List V → Prop
  | [], vs => vs = []
  | d :: ds, vs => ∃ v r, vs = v :: r ∧ Rep K P H d v ∧ Reps K P H ds r
end

/-- no table of code objects -/
def NT : HO → Prop
  | .tbl _ => False
  | _ => True
/-- all that was tracked is as it was, but that tables may have grown -/
structure SameT (H H' : Hp) : Prop where
  k : ∀ b o, H b = some o → NT o → H' b = some o
  tb : ∀ b q, H b = some (.tbl q) → ∃ q', H' b = some (.tbl q') ∧ (TriplesOk q.toList → TriplesOk q'.toList)
theorem SameT.refl (H : Hp) : SameT H H := ⟨fun _ _ h _ => h, fun _ q h => ⟨q, h, id⟩⟩
theorem SameT.trans {H H1 H2 : Hp} (x : SameT H H1) (y : SameT H1 H2) : SameT H H2 := ⟨fun b o h n => y.k b o (x.k b o h n) n, fun b q h => by
  obtain ⟨q1, h1, t1⟩ := x.tb b q h
  obtain ⟨q2, h2, t2⟩ := y.tb b q1 h1
  exact ⟨q2, h2, fun z => t2 (t1 z)⟩⟩
theorem SameT.free {H H' : Hp} (e : SameT H H') {l : Addr} (h : H' l = Option.none) : H l = Option.none := by
  cases q : H l with
  | none => rfl
  | some o =>
    cases o with
    | tbl t => obtain ⟨_, z, _⟩ := e.tb l t q; rw [h] at z; cases z
    | _ => rw [e.k l _ q trivial] at h; cases h
theorem SameT.upd {H H' : Hp} {L : Addr} {o : HO} (s : SameT H H') (n : H L = Option.none) : SameT H (upd H' L o) := ⟨fun b x e t => by rw [upd_ne (ne_of_none e n)]; exact s.k b x e t, fun b q e => by
  obtain ⟨q', e', t'⟩ := s.tb b q e
  exact ⟨q', by rw [upd_ne (ne_of_none e n)]; exact e', t'⟩⟩
theorem SameT.of {H H' : Hp} (e : L2.Same H H') : SameT H H' := ⟨fun b o h _ => e b o h, fun b q h => ⟨q, e b _ h, id⟩⟩
/-- the tables that are tracked -/
class Tabs where
  T : List Addr
def TabOk (H : Hp) (P : Addr) : Prop := ∃ q, H P = some (.tbl q) ∧ TriplesOk q.toList
theorem TabOk.same {H H' : Hp} {P : Addr} (h : TabOk H P) (s : SameT H H') : TabOk H' P := by
  obtain ⟨q, e, t⟩ := h
  obtain ⟨q', e', t'⟩ := s.tb P q e
  exact ⟨q', e', t' t⟩
/-- P passes to P', what stands under P (or is never written) in H stands in H' -/
structure Tr (P P' : Addr → Prop) (H H' : Hp) : Prop where
  p : ∀ a, P a → P' a
  h : ∀ a o, H a = some o → NT o → (P a ∨ ¬ Mut (some o)) → H' a = some o
theorem Tr.refl (P : Addr → Prop) (H : Hp) : Tr P P H H := ⟨fun _ h => h, fun _ _ h _ _ => h⟩
theorem Tr.same {P : Addr → Prop} {H H' : Hp} (s : SameT H H') : Tr P P H H' := ⟨fun _ h => h, fun a o h n _ => s.k a o h n⟩
theorem Tr.mono {P P' : Addr → Prop} {H : Hp} (h : ∀ a, P a → P' a) : Tr P P' H H := ⟨h, fun _ _ h _ _ => h⟩
theorem Tr.trans {P P1 P2 : Addr → Prop} {H H1 H2 : Hp} (x : Tr P P1 H H1) (y : Tr P1 P2 H1 H2) : Tr P P2 H H2 :=
  ⟨fun a h => y.p a (x.p a h), fun a o h n q => y.h a o (x.h a o h n q) n (q.imp_left (x.p a))⟩
theorem Tr.tup {P P' : Addr → Prop} {H H' : Hp} {K : PySem.W.Frag} {a : Addr} {vs : List V} (t : Tr P P' H H') (h : SqT K H a vs) : SqT K H' a vs := by
  rcases h with (h | ⟨o, h⟩) | h
  · exact .inl (.inl (t.h _ _ h trivial (.inr fun z => z)))
  · exact .inl (.inr ⟨o, t.h _ _ h trivial (.inr fun z => z)⟩)
  · exact .inr h
theorem Tr.scr {P P' : Addr → Prop} {H H' : Hp} {K : PySem.W.Frag} {a : Addr} {vs : List V} (t : Tr P P' H H') (h : Scr K H a vs) : Scr K H' a vs := by
  rcases h with ⟨o, h⟩ | h
  · exact .inl ⟨o, t.h _ _ h trivial (.inr fun z => z)⟩
  · exact .inr h

section
variable {K : PySem.W.Frag} {P P' : Addr → Prop} {H H' : Hp}
mutual
theorem Rep.tr (t : Tr P P' H H') : ∀ {d : D} {v : V}, Rep K P H d v → Rep K P' H' d v
  | .non, _, h => by simpa only [Rep] using h
  | .bl _, _, h => by simpa only [Rep] using h
  | .int _, _, h => by simpa only [Rep] using h
  | .str _, _, h => by simpa only [Rep] using h
  | .tup ds, v, h => by
    simp only [Rep] at h ⊢
    obtain ⟨a, vs, e, hl, hs, hr⟩ := h
    exact ⟨a, vs, e, hl, t.tup hs, Reps.tr t hr⟩
  | .lst ds, v, h => by
    simp only [Rep] at h ⊢
    obtain ⟨a, vs, e, hp, hl, hs, hr⟩ := h
    exact ⟨a, vs, e, t.p a hp, hl, t.h _ _ hs trivial (.inl hp), Reps.tr t hr⟩
  | .dct ks ds, v, h => by
    simp only [Rep] at h ⊢
    obtain ⟨a, vs, e, hp, hl, hk, hs, hr⟩ := h
    exact ⟨a, vs, e, t.p a hp, hl, hk, t.h _ _ hs trivial (.inl hp), Reps.tr t hr⟩
  | .obj C ns ds, v, h => by
    simp only [Rep] at h ⊢
    obtain ⟨a, dx, vs, e, hp, hk, hs, hr⟩ := h
    exact ⟨a, dx, vs, e, t.p a hp, hk, t.h _ _ hs trivial (.inl hp), Reps.tr t hr⟩
  | .scr ns, v, h => by
    simp only [Rep] at h ⊢
    obtain ⟨a, e, hs⟩ := h
    exact ⟨a, e, t.scr hs⟩
theorem Reps.tr (t : Tr P P' H H') : ∀ {ds : List D} {vs : List V}, Reps K P H ds vs → Reps K P' H' ds vs
  | [], _, h => by simpa only [Reps] using h
  | d :: ds, vs, h => by
    simp only [Reps] at h ⊢
    obtain ⟨v, r, e, h1, h2⟩ := h
    exact ⟨v, r, e, Rep.tr t h1, Reps.tr t h2⟩
end
theorem Rep.same (s : SameT H H') {d : D} {v : V} (h : Rep K P H d v) : Rep K P H' d v := h.tr (.same s)
theorem Reps.same (s : SameT H H') {d : List D} {v : List V} (h : Reps K P H d v) : Reps K P H' d v := h.tr (.same s)
theorem Rep.mono (m : ∀ a, P a → P' a) {d : D} {v : V} (h : Rep K P H d v) : Rep K P' H d v := h.tr (.mono m)
theorem Reps.mono (m : ∀ a, P a → P' a) {d : List D} {v : List V} (h : Reps K P H d v) : Reps K P' H d v := h.tr (.mono m)

mutual
/-- the lists in it stand in the heap -/
theorem Rep.dom : ∀ {d : D} {v : V}, Rep K P H d v → Rep K (fun a => P a ∧ H a ≠ none) H d v
  | .non, _, h => by simpa only [Rep] using h
  | .bl _, _, h => by simpa only [Rep] using h
  | .int _, _, h => by simpa only [Rep] using h
  | .str _, _, h => by simpa only [Rep] using h
  | .tup ds, v, h => by
    simp only [Rep] at h ⊢
    obtain ⟨a, vs, e, hl, hs, hr⟩ := h
    exact ⟨a, vs, e, hl, hs, Reps.dom hr⟩
  | .lst ds, v, h => by
    simp only [Rep] at h ⊢
    obtain ⟨a, vs, e, hp, hl, hs, hr⟩ := h
    exact ⟨a, vs, e, ⟨hp, by rw [hs]; exact fun z => nomatch z⟩, hl, hs, Reps.dom hr⟩
  | .dct ks ds, v, h => by
    simp only [Rep] at h ⊢
    obtain ⟨a, vs, e, hp, hl, hk, hs, hr⟩ := h
    exact ⟨a, vs, e, ⟨hp, by rw [hs]; exact fun z => nomatch z⟩, hl, hk, hs, Reps.dom hr⟩
  | .obj C ns ds, v, h => by
    simp only [Rep] at h ⊢
    obtain ⟨a, dx, vs, e, hp, hk, hs, hr⟩ := h
    exact ⟨a, dx, vs, e, ⟨hp, by rw [hs]; exact fun z => nomatch z⟩, hk, hs, Reps.dom hr⟩
  | .scr ns, v, h => by simpa only [Rep] using h
theorem Reps.dom : ∀ {ds : List D} {vs : List V}, Reps K P H ds vs → Reps K (fun a => P a ∧ H a ≠ none) H ds vs
  | [], _, h => by simpa only [Reps] using h
  | d :: ds, vs, h => by
    simp only [Reps] at h ⊢
    obtain ⟨v, r, e, h1, h2⟩ := h
    exact ⟨v, r, e, Rep.dom h1, Reps.dom h2⟩
end

mutual
/-- no list, no dict, no instance in it -/
def D.pure : D → Bool
  | .tup ds => D.pures ds
  | .lst _ => false
  | .dct _ _ => false
  | .obj _ _ _ => false
  | .scr _ => true
  | .non => true
  | .bl _ => true
  | .int _ => true
  | .str _ => true
def D.pures : List D → Bool
  | [] => true
  | d :: ds => d.pure && D.pures ds
end
mutual
theorem Rep.pure : ∀ {d : D} {v : V}, d.pure = true → Rep K P H d v → Rep K P' H d v
  | .non, _, _, h => by simpa only [Rep] using h
  | .bl _, _, _, h => by simpa only [Rep] using h
  | .int _, _, _, h => by simpa only [Rep] using h
  | .str _, _, _, h => by simpa only [Rep] using h
  | .tup ds, v, p, h => by
    simp only [Rep] at h ⊢
    simp only [D.pure] at p
    obtain ⟨a, vs, e, hl, hs, hr⟩ := h
    exact ⟨a, vs, e, hl, hs, Reps.pure p hr⟩
  | .lst ds, v, p, h => by simp only [D.pure] at p; cases p
  | .dct ks ds, v, p, h => by simp only [D.pure] at p; cases p
  | .obj C ns ds, v, p, h => by simp only [D.pure] at p; cases p
  | .scr ns, v, _, h => by simpa only [Rep] using h
theorem Reps.pure : ∀ {ds : List D} {vs : List V}, D.pures ds = true → Reps K P H ds vs → Reps K P' H ds vs
  | [], _, _, h => by simpa only [Reps] using h
  | d :: ds, vs, p, h => by
    simp only [Reps] at h ⊢
    simp only [D.pures, Bool.and_eq_true] at p
    obtain ⟨v, r, e, h1, h2⟩ := h
    exact ⟨v, r, e, Rep.pure p.1 h1, Reps.pure p.2 h2⟩
end

theorem Reps.length : ∀ {ds : List D} {vs : List V}, Reps K P H ds vs → vs.length = ds.length
  | [], _, h => by simp only [Reps] at h; subst h; rfl
  | d :: ds, vs, h => by
    simp only [Reps] at h
    obtain ⟨v, r, e, h1, h2⟩ := h
    subst e
    rw [List.length_cons, List.length_cons, Reps.length h2]
theorem Reps.get : ∀ {ds : List D} {vs : List V} {i : Nat} {d : D}, Reps K P H ds vs → ds[i]? = some d → ∃ v, vs[i]? = some v ∧ Rep K P H d v
  | [], _, i, d, _, e => by simp at e
  | d0 :: ds, vs, 0, d, h, e => by
    simp only [Reps] at h
    obtain ⟨v, r, e1, h1, h2⟩ := h
    simp at e
    subst e1 e
    exact ⟨v, rfl, h1⟩
  | d0 :: ds, vs, i + 1, d, h, e => by
    simp only [Reps] at h
    obtain ⟨v, r, e1, h1, h2⟩ := h
    subst e1
    obtain ⟨u, q1, q2⟩ := Reps.get (i := i) h2 (by simpa using e)
    exact ⟨u, by simpa using q1, q2⟩
theorem Reps.app : ∀ {ds es : List D} {vs ws : List V}, Reps K P H ds vs → Reps K P H es ws → Reps K P H (ds ++ es) (vs ++ ws)
  | [], es, vs, ws, h, k => by simp only [Reps] at h; subst h; exact k
  | d :: ds, es, vs, ws, h, k => by
    simp only [Reps] at h
    obtain ⟨v, r, e1, h1, h2⟩ := h
    subst e1
    show Reps K P H (d :: (ds ++ es)) (v :: (r ++ ws))
    simp only [Reps]
    exact ⟨v, _, rfl, h1, Reps.app h2 k⟩
theorem Reps.nil : Reps K P H [] [] := by simp only [Reps]
theorem Reps.cons {d : D} {ds : List D} {v : V} {vs : List V} (h : Rep K P H d v) (k : Reps K P H ds vs) : Reps K P H (d :: ds) (v :: vs) := by
  simp only [Reps]
  exact ⟨v, vs, rfl, h, k⟩
theorem Reps.one {d : D} {v : V} (h : Rep K P H d v) : Reps K P H [d] [v] := .cons h .nil
theorem Reps.take : ∀ {ds : List D} {vs : List V} (n : Nat), Reps K P H ds vs → Reps K P H (ds.take n) (vs.take n)
  | _, _, 0, _ => by simp only [List.take_zero]; exact .nil
  | [], vs, n + 1, h => by simp only [Reps] at h; subst h; simp only [List.take_nil]; exact .nil
  | d :: ds, vs, n + 1, h => by
    simp only [Reps] at h
    obtain ⟨v, r, e1, h1, h2⟩ := h
    subst e1
    simp only [List.take_succ_cons]
    exact .cons h1 (Reps.take n h2)
theorem Reps.drop : ∀ {ds : List D} {vs : List V} (n : Nat), Reps K P H ds vs → Reps K P H (ds.drop n) (vs.drop n)
  | _, _, 0, h => by simpa only [List.drop_zero] using h
  | [], vs, n + 1, h => by simp only [Reps] at h; subst h; simp only [List.drop_nil]; exact .nil
  | d :: ds, vs, n + 1, h => by
    simp only [Reps] at h
    obtain ⟨v, r, e1, h1, h2⟩ := h
    subst e1
    simp only [List.drop_succ_cons]
    exact Reps.drop n h2

mutual
/-- v stands for d; its lists, dicts, instances (but those within tuples) are exactly those at A, in this order -/
def Own (K : PySem.W.Frag) (P : Addr → Prop) (H : Hp) : D → V → List Addr → Prop
  | .lst ds, v, A => ∃ a vs B, v = .ref a ∧ A = a :: B ∧ ds.length ≤ sizeLine ∧ H a = some (.lst vs) ∧ Owns K P H ds vs B
  | .dct ks ds, v, A => ∃ a vs B, v = .ref a ∧ A = a :: B ∧ ks.length ≤ sizeLine ∧ (ks.length = ds.length ∧ ks.Nodup) ∧ H a = some (.dK (ks.zip vs)) ∧ Owns K P H ds vs B
  | .obj C ns ds, v, A => ∃ (a : Addr) (dx : Addr × Addr) (vs : List V) (B : List Addr), v = .ref a ∧ A = a :: B ∧ (ns.length = ds.length ∧ ClsAt K C dx.1) ∧ H a = some (.ins dx.1 dx.2 (ns.zip vs)) ∧ Owns K P H ds vs B
  | .non, v, A => A = [] ∧ v = .non
  | .bl b, v, A => A = [] ∧ v = .bl b
  | .int i, v, A => A = [] ∧ v = .int i
  | .str s, v, A => A = [] ∧ v = .str s
  | .tup ds, v, A => A = [] ∧ Rep K P H (.tup ds) v
  | .scr ns, v, A => A = [] ∧ Rep K P H (.scr ns) v
def Owns (K : PySem.W.Frag) (P : Addr → Prop) (H : Hp) : List D → List V → List Addr → Prop
  | [], vs, A => vs = [] ∧ A = []
  | d :: ds, vs, A => ∃ v r B C, vs = v :: r ∧ A = B ++ C ∧ Own K P H d v B ∧ Owns K P H ds r C
end

mutual
theorem Own.tr (t : Tr P P' H H') : ∀ {d : D} {v : V} {A : List Addr}, Own K P H d v A → (∀ a ∈ A, ∀ o, H a = some o → NT o → H' a = some o) → Own K P' H' d v A
  | .non, _, _, h, _ => by simpa only [Own] using h
  | .bl _, _, _, h, _ => by simpa only [Own] using h
  | .int _, _, _, h, _ => by simpa only [Own] using h
  | .str _, _, _, h, _ => by simpa only [Own] using h
  | .tup ds, v, A, h, _ => by
    simp only [Own] at h ⊢
    exact ⟨h.1, h.2.tr t⟩
  | .scr ns, v, A, h, _ => by
    simp only [Own] at h ⊢
    exact ⟨h.1, h.2.tr t⟩
  | .lst ds, v, A, h, k => by
    simp only [Own] at h ⊢
    obtain ⟨a, vs, B, e, eA, hl, hs, hr⟩ := h
    subst eA
    exact ⟨a, vs, B, e, rfl, hl, k a (by simp) _ hs trivial, Owns.tr t hr fun b hb => k b (List.mem_cons_of_mem _ hb)⟩
  | .dct ks ds, v, A, h, k => by
    simp only [Own] at h ⊢
    obtain ⟨a, vs, B, e, eA, hl, hk, hs, hr⟩ := h
    subst eA
    exact ⟨a, vs, B, e, rfl, hl, hk, k a (by simp) _ hs trivial, Owns.tr t hr fun b hb => k b (List.mem_cons_of_mem _ hb)⟩
  | .obj C ns ds, v, A, h, k => by
    simp only [Own] at h ⊢
    obtain ⟨a, dx, vs, B, e, eA, hk, hs, hr⟩ := h
    subst eA
    exact ⟨a, dx, vs, B, e, rfl, hk, k a (by simp) _ hs trivial, Owns.tr t hr fun b hb => k b (List.mem_cons_of_mem _ hb)⟩
theorem Owns.tr (t : Tr P P' H H') : ∀ {ds : List D} {vs : List V} {A : List Addr}, Owns K P H ds vs A → (∀ a ∈ A, ∀ o, H a = some o → NT o → H' a = some o) → Owns K P' H' ds vs A
  | [], _, _, h, _ => by simpa only [Owns] using h
  | d :: ds, vs, A, h, k => by
    simp only [Owns] at h ⊢
    obtain ⟨v, r, B, C, e, eA, h1, h2⟩ := h
    subst eA
    exact ⟨v, r, B, C, e, rfl, Own.tr t h1 fun b hb => k b (List.mem_append_left _ hb), Owns.tr t h2 fun b hb => k b (List.mem_append_right _ hb)⟩
end
theorem Own.same (s : SameT H H') {d : D} {v : V} {A : List Addr} (h : Own K P H d v A) : Own K P H' d v A := h.tr (.same s) fun a _ o e n => s.k a o e n
theorem Owns.same (s : SameT H H') {d : List D} {v : List V} {A : List Addr} (h : Owns K P H d v A) : Owns K P H' d v A := h.tr (.same s) fun a _ o e n => s.k a o e n
theorem Own.mono (m : ∀ a, P a → P' a) {d : D} {v : V} {A : List Addr} (h : Own K P H d v A) : Own K P' H d v A := h.tr (.mono m) fun _ _ _ e _ => e
theorem Owns.mono (m : ∀ a, P a → P' a) {d : List D} {v : List V} {A : List Addr} (h : Owns K P H d v A) : Owns K P' H d v A := h.tr (.mono m) fun _ _ _ e _ => e

mutual
theorem Own.rep (m : ∀ a, P a → P' a) : ∀ {d : D} {v : V} {A : List Addr}, Own K P H d v A → (∀ a ∈ A, P' a) → Rep K P' H d v
  | .non, _, _, h, _ => by simp only [Own] at h; simp only [Rep]; exact h.2
  | .bl _, _, _, h, _ => by simp only [Own] at h; simp only [Rep]; exact h.2
  | .int _, _, _, h, _ => by simp only [Own] at h; simp only [Rep]; exact h.2
  | .str _, _, _, h, _ => by simp only [Own] at h; simp only [Rep]; exact h.2
  | .tup ds, v, A, h, _ => by
    simp only [Own] at h
    exact h.2.mono m
  | .scr ns, v, A, h, _ => by
    simp only [Own] at h
    exact h.2.mono m
  | .lst ds, v, A, h, k => by
    simp only [Own] at h
    simp only [Rep]
    obtain ⟨a, vs, B, e, eA, hl, hs, hr⟩ := h
    subst eA
    exact ⟨a, vs, e, k a (by simp), hl, hs, Owns.rep m hr fun b hb => k b (List.mem_cons_of_mem _ hb)⟩
  | .dct ks ds, v, A, h, k => by
    simp only [Own] at h
    simp only [Rep]
    obtain ⟨a, vs, B, e, eA, hl, hk, hs, hr⟩ := h
    subst eA
    exact ⟨a, vs, e, k a (by simp), hl, hk, hs, Owns.rep m hr fun b hb => k b (List.mem_cons_of_mem _ hb)⟩
  | .obj C ns ds, v, A, h, k => by
    simp only [Own] at h
    simp only [Rep]
    obtain ⟨a, dx, vs, B, e, eA, hk, hs, hr⟩ := h
    subst eA
    exact ⟨a, dx, vs, e, k a (by simp), hk, hs, Owns.rep m hr fun b hb => k b (List.mem_cons_of_mem _ hb)⟩
theorem Owns.rep (m : ∀ a, P a → P' a) : ∀ {ds : List D} {vs : List V} {A : List Addr}, Owns K P H ds vs A → (∀ a ∈ A, P' a) → Reps K P' H ds vs
  | [], _, _, h, _ => by simp only [Owns] at h; simp only [Reps]; exact h.1
  | d :: ds, vs, A, h, k => by
    simp only [Owns] at h
    simp only [Reps]
    obtain ⟨v, r, B, C, e, eA, h1, h2⟩ := h
    subst eA
    exact ⟨v, r, e, Own.rep m h1 fun b hb => k b (List.mem_append_left _ hb), Owns.rep m h2 fun b hb => k b (List.mem_append_right _ hb)⟩
end
mutual
/-- what is owned may be written -/
theorem Own.mut : ∀ {d : D} {v : V} {A : List Addr}, Own K P H d v A → ∀ a ∈ A, Mut (H a)
  | .non, _, _, h => by simp only [Own] at h; rw [h.1]; exact fun a z => nomatch z
  | .bl _, _, _, h => by simp only [Own] at h; rw [h.1]; exact fun a z => nomatch z
  | .int _, _, _, h => by simp only [Own] at h; rw [h.1]; exact fun a z => nomatch z
  | .str _, _, _, h => by simp only [Own] at h; rw [h.1]; exact fun a z => nomatch z
  | .tup ds, v, A, h => by simp only [Own] at h; rw [h.1]; exact fun a z => nomatch z
  | .scr ns, v, A, h => by simp only [Own] at h; rw [h.1]; exact fun a z => nomatch z
  | .lst ds, v, A, h => by
    simp only [Own] at h
    obtain ⟨a, vs, B, e, eA, hl, hs, hr⟩ := h
    subst eA
    intro b hb
    rcases List.mem_cons.mp hb with z | z
    · rw [z, hs]; trivial
    · exact Owns.mut hr b z
  | .dct ks ds, v, A, h => by
    simp only [Own] at h
    obtain ⟨a, vs, B, e, eA, hl, hk, hs, hr⟩ := h
    subst eA
    intro b hb
    rcases List.mem_cons.mp hb with z | z
    · rw [z, hs]; trivial
    · exact Owns.mut hr b z
  | .obj C ns ds, v, A, h => by
    simp only [Own] at h
    obtain ⟨a, dx, vs, B, e, eA, hk, hs, hr⟩ := h
    subst eA
    intro b hb
    rcases List.mem_cons.mp hb with z | z
    · rw [z, hs]; trivial
    · exact Owns.mut hr b z
theorem Owns.mut : ∀ {ds : List D} {vs : List V} {A : List Addr}, Owns K P H ds vs A → ∀ a ∈ A, Mut (H a)
  | [], _, _, h => by simp only [Owns] at h; rw [h.2]; exact fun a z => nomatch z
  | d :: ds, vs, A, h => by
    simp only [Owns] at h
    obtain ⟨v, r, B, C, e, eA, h1, h2⟩ := h
    subst eA
    intro b hb
    rcases List.mem_append.mp hb with z | z
    · exact Own.mut h1 b z
    · exact Owns.mut h2 b z
end
theorem mut_some {o : Option HO} (h : Mut o) : o ≠ none := fun z => by rw [z] at h; exact h
/-- tuples and scalars own nothing -/
def D.flat : D → Bool
  | .lst _ => false
  | .dct _ _ => false
  | .obj _ _ _ => false
  | _ => true
theorem Rep.own {d : D} {v : V} (f : d.flat = true) (h : Rep K P H d v) : Own K P H d v [] := by
  cases d with
  | non => simp only [Rep] at h; simp only [Own]; exact ⟨trivial, h⟩
  | bl b => simp only [Rep] at h; simp only [Own]; exact ⟨trivial, h⟩
  | int b => simp only [Rep] at h; simp only [Own]; exact ⟨trivial, h⟩
  | str b => simp only [Rep] at h; simp only [Own]; exact ⟨trivial, h⟩
  | tup ds => simp only [Own]; exact ⟨trivial, h⟩
  | scr ds => simp only [Own]; exact ⟨trivial, h⟩
  | lst _ => cases f
  | dct _ _ => cases f
  | obj _ _ _ => cases f
theorem Reps.owns : ∀ {ds : List D} {vs : List V}, ds.all D.flat = true → Reps K P H ds vs → Owns K P H ds vs []
  | [], _, _, h => by simp only [Reps] at h; simp only [Owns]; exact ⟨h, trivial⟩
  | d :: ds, vs, f, h => by
    simp only [Reps] at h
    simp only [List.all_cons, Bool.and_eq_true] at f
    simp only [Owns]
    obtain ⟨v, r, e, h1, h2⟩ := h
    exact ⟨v, r, [], [], e, rfl, h1.own f.1, Reps.owns f.2 h2⟩
end
end DL

/-! Expressions as partial functions of the slots' data. -/
namespace DL
open PySem PySem.Spec PyProof.Rows L2

abbrev En := List (Option D)
abbrev Ev := En → Option D
/-- where an expression runs: the slots hold data (slot i's lists satisfy Pf i); what flows into the answer satisfies R -/
structure Ctx [Tabs] (K : PySem.W.Frag) (U : List Nat) (Pf : Nat → Addr → Prop) (R : Addr → Prop) (σ : L2.St) (ρ : En) (H : Hp) : Prop where
  env : ∀ (i : Nat) (d : D), ρ[i]? = some (some d) → ∃ v, σ[i]? = some (some v) ∧ Rep K (Pf i) H d v
  use : ∀ i ∈ U, ∀ a, Pf i a → R a
  new : ∀ a, H a = none → R a
  len : σ.length = ρ.length
  tab : ∀ p ∈ Tabs.T, TabOk H p
section
variable {K : PySem.W.Frag} {U U' : List Nat} {Pf : Nat → Addr → Prop} {R R' : Addr → Prop} {σ : L2.St} {ρ : En} {H H' : Hp}
theorem Ctx.sub [Tabs] (c : Ctx K U Pf R σ ρ H) (h : ∀ i ∈ U', i ∈ U) : Ctx K U' Pf R σ ρ H := ⟨c.env, fun i hi => c.use i (h i hi), c.new, c.len, c.tab⟩
theorem Ctx.same [Tabs] (c : Ctx K U Pf R σ ρ H) (s : SameT H H') : Ctx K U Pf R σ ρ H' :=
  ⟨fun i d e => let ⟨v, h1, h2⟩ := c.env i d e; ⟨v, h1, h2.same s⟩, c.use, fun a e => c.new a (s.free e), c.len, fun p hp => (c.tab p hp).same s⟩
theorem Ctx.top [Tabs] (c : Ctx K U Pf R σ ρ H) : Ctx K U' Pf (fun _ => True) σ ρ H := ⟨c.env, fun _ _ _ _ => trivial, fun _ _ => trivial, c.len, c.tab⟩
theorem Ctx.l [Tabs] (c : Ctx K (U ++ U') Pf R σ ρ H) : Ctx K U Pf R σ ρ H := c.sub fun _ h => List.mem_append_left _ h
theorem Ctx.r [Tabs] (c : Ctx K (U ++ U') Pf R σ ρ H) : Ctx K U' Pf R σ ρ H := c.sub fun _ h => List.mem_append_right _ h
/-- apart from addresses that stand -/
theorem Ctx.off [Tabs] (c : Ctx K U Pf R σ ρ H) (A : List Addr) (h : ∀ a ∈ A, H a ≠ none) (n : ∀ i ∈ U, ∀ a, Pf i a → a ∉ A) : Ctx K U Pf (fun a => R a ∧ a ∉ A) σ ρ H :=
  ⟨c.env, fun i hi a p => ⟨c.use i hi a p, n i hi a p⟩, fun a e => ⟨c.new a e, fun z => h a z e⟩, c.len, c.tab⟩
/-- each slot's lists stand -/
theorem Ctx.dom [Tabs] (c : Ctx K U Pf R σ ρ H) : Ctx K U (fun i a => Pf i a ∧ H a ≠ none) R σ ρ H :=
  ⟨fun i d e => let ⟨v, h1, h2⟩ := c.env i d e; ⟨v, h1, h2.dom⟩, fun i hi a p => c.use i hi a p.1, c.new, c.len, c.tab⟩
end

/-- the reading of an expression: it gives f's answer -/
def tD [Tabs] (K : PySem.W.Frag) (U : List Nat) (f : Ev) : TE := fun σ H Q => ∃ ρ Pf R d, Ctx K U Pf R σ ρ H ∧ f ρ = some d ∧ ∀ v H', SameT H H' → Rep K R H' d v → Q v H'
/-- .. in new lists -/
def tF [Tabs] (K : PySem.W.Frag) (U : List Nat) (f : Ev) : TE := fun σ H Q => ∃ ρ Pf R d, Ctx K U Pf R σ ρ H ∧ f ρ = some d ∧
  ∀ v H' A, SameT H H' → Own K (fun a => R a ∧ a ∉ A) H' d v A → A.Nodup → (∀ a ∈ A, H a = none) → Q v H'
def tT [Tabs] (K : PySem.W.Frag) (f : En → Option Bool) : TT := fun σ H Q => ∃ ρ Pf b, Ctx K [] Pf (fun _ => True) σ ρ H ∧ f ρ = some b ∧ ∀ H', SameT H H' → Q b H'
abbrev Es := En → Option (List D)
def tA [Tabs] (K : PySem.W.Frag) (U : List Nat) (f : Es) : TA := fun σ H Q => ∃ ρ Pf R ds, Ctx K U Pf R σ ρ H ∧ f ρ = some ds ∧ ∀ vs H', SameT H H' → Reps K R H' ds vs → Q vs H'

section
variable {X : Cx} {e a b c : Expr} {U U' : List Nat} {f f' : Ev} {pos : Pos}
theorem pe_imp {t t' : TE} (h : PE X e t) (k : ∀ σ H Q, t' σ H Q → t σ H Q) : PE X e t' := ⟨fun pins s σ H Q I w => h.run pins s σ H Q I (k σ H Q w)⟩
theorem pt_imp {t t' : TT} (h : PT X e t) (k : ∀ σ H Q, t' σ H Q → t σ H Q) : PT X e t' := ⟨fun pins s σ H Q I w => h.run pins s σ H Q I (k σ H Q w)⟩
theorem de_of [Tabs] (h : ∀ ρ d, f ρ = some d → ∃ t, PE X e t ∧ ∀ σ H Pf R Q, Ctx X.K U Pf R σ ρ H → (∀ v H', SameT H H' → Rep X.K R H' d v → Q v H') → t σ H Q) : PE X e (tD X.K U f) :=
  ⟨fun pins s σ H Q I ⟨ρ, Pf, R, d, c, e, k⟩ => let ⟨t, ht, hk⟩ := h ρ d e; ht.run pins s σ H Q I (hk σ H Pf R Q c k)⟩
theorem df_of [Tabs] (h : ∀ ρ d, f ρ = some d → ∃ t, PE X e t ∧ ∀ σ H Pf R Q, Ctx X.K U Pf R σ ρ H → (∀ v H' A, SameT H H' → Own X.K (fun a => R a ∧ a ∉ A) H' d v A → A.Nodup → (∀ a ∈ A, H a = none) → Q v H') → t σ H Q) : PE X e (tF X.K U f) :=
  ⟨fun pins s σ H Q I ⟨ρ, Pf, R, d, c, e, k⟩ => let ⟨t, ht, hk⟩ := h ρ d e; ht.run pins s σ H Q I (hk σ H Pf R Q c k)⟩
theorem dt_of [Tabs] {f : En → Option Bool} (h : ∀ ρ d, f ρ = some d → ∃ t, PT X e t ∧ ∀ σ H Pf Q, Ctx X.K [] Pf (fun _ => True) σ ρ H → (∀ H', SameT H H' → Q d H') → t σ H Q) : PT X e (tT X.K f) :=
  ⟨fun pins s σ H Q I ⟨ρ, Pf, d, c, e, k⟩ => let ⟨t, ht, hk⟩ := h ρ d e; ht.run pins s σ H Q I (hk σ H Pf Q c k)⟩
/-- new lists may be shared -/
theorem de_own [Tabs] (h : PE X e (tF X.K U f)) : PE X e (tD X.K U f) := pe_imp h fun σ H Q ⟨ρ, Pf, R, d, c, e, k⟩ =>
  ⟨ρ, Pf, R, d, c, e, fun v H' A s o n z => k v H' s (o.rep (fun a h => h.1) fun a ha => c.new a (z a ha))⟩
def dFlat (f : Ev) : Ev := fun ρ => (f ρ).bind fun d => if d.flat then some d else none
/-- no list itself: nothing is owned -/
theorem df_flat [Tabs] (h : PE X e (tD X.K U f)) : PE X e (tF X.K U (dFlat f)) := pe_imp h fun σ H Q ⟨ρ, Pf, R, d, c, e, k⟩ => by
  unfold dFlat at e
  cases q : f ρ with
  | none => rw [q] at e; cases e
  | some d' =>
    rw [q] at e
    simp only [Option.bind_some] at e
    by_cases hf : d'.flat = true
    · rw [if_pos hf] at e
      cases e
      refine ⟨ρ, Pf, R, d, c, q, fun v H' s r => k v H' [] s ?_ List.nodup_nil (fun a z => nomatch z)⟩
      exact (r.own hf).mono fun a h => ⟨h, fun z => nomatch z⟩
    · rw [if_neg hf] at e; cases e
def dPure (f : Ev) : Ev := fun ρ => (f ρ).bind fun d => if d.pure then some d else none
/-- no list in it: nothing flows -/
theorem de_pure [Tabs] (h : PE X e (tD X.K U f)) : PE X e (tD X.K [] (dPure f)) := pe_imp h fun σ H Q ⟨ρ, Pf, R, d, c, e, k⟩ => by
  unfold dPure at e
  cases q : f ρ with
  | none => rw [q] at e; cases e
  | some d' =>
    rw [q] at e
    simp only [Option.bind_some] at e
    by_cases hf : d'.pure = true
    · rw [if_pos hf] at e
      cases e
      exact ⟨ρ, Pf, fun _ => True, d, c.top, q, fun v H' s r => k v H' s (r.pure hf)⟩
    · rw [if_neg hf] at e; cases e
theorem de_sub [Tabs] (h : PE X e (tD X.K U f)) (s : ∀ i ∈ U, i ∈ U') : PE X e (tD X.K U' f) := pe_imp h fun σ H Q ⟨ρ, Pf, R, d, c, e, k⟩ => ⟨ρ, Pf, R, d, c.sub s, e, k⟩

/-! ### names, constants -/
def dV (i : Nat) : Ev := fun ρ => (ρ[i]?).join
def dC (d : D) : Ev := fun _ => some d
theorem dV_at {i : Nat} {ρ : En} {d : D} (h : dV i ρ = some d) : ρ[i]? = some (some d) := by
  unfold dV at h
  cases q : ρ[i]? with
  | none => rw [q] at h; cases h
  | some o => rw [q] at h; cases o with
    | none => cases h
    | some d' => cases h; rfl
theorem de_var [Tabs] (i : Nat) {x : Str} {pos : Pos} (hN : X.N[i]? = some x := by rfl) (hv : Vis X.env.scope x := by first | exact Or.inl rfl | exact Or.inr (Or.inl rfl) | exact Or.inr (Or.inr rfl)) (hd : (x == ("__debug__" : Str)) = false := by decide)
    (hcd : (x == ("__classdict__" : Str)) = false := by decide) : PE X (.Name x pos) (tD X.K [i] (dV i)) :=
  de_of fun ρ d e => ⟨_, pv i hN hv hd hcd, fun σ H Pf R Q c k => by
    obtain ⟨v, h1, h2⟩ := c.env i d (dV_at e)
    exact ⟨v, h1, k v H (.refl H) (h2.mono (c.use i (by simp)))⟩⟩
theorem de_int [Tabs] {i : Int} {j : Nat} : PE X (.Constant (.int i) j pos) (tD X.K [] (dC (.int i))) :=
  de_of fun ρ d e => ⟨_, pe_int, fun σ H Pf R Q c k => k _ H (.refl H) (by cases e; simp only [Rep])⟩
theorem de_str [Tabs] {x : Str} {j : Nat} : PE X (.Constant (.str x) j pos) (tD X.K [] (dC (.str x))) :=
  de_of fun ρ d e => ⟨_, pe_str, fun σ H Pf R Q c k => k _ H (.refl H) (by cases e; simp only [Rep])⟩
theorem de_bl [Tabs] {x : Bool} {j : Nat} : PE X (.Constant (.bool x) j pos) (tD X.K [] (dC (.bl x))) :=
  de_of fun ρ d e => ⟨_, pe_bl, fun σ H Pf R Q c k => k _ H (.refl H) (by cases e; simp only [Rep])⟩
theorem de_non [Tabs] {j : Nat} : PE X (.Constant .none j pos) (tD X.K [] (dC .non)) :=
  de_of fun ρ d e => ⟨_, pe_non, fun σ H Pf R Q c k => k _ H (.refl H) (by cases e; simp only [Rep])⟩
/-- a constant of the module -/
theorem de_glob [Tabs] {x : Str} {v : V} {u : Value} {d : D} (hg : Gl X x) (hm : X.mg x = some u) (r : RelV v u) (h : ∀ H, Rep X.K (fun _ => False) H d v) (hd : (x == ("__debug__" : Str)) = false := by decide) : PE X (.Name x pos) (tD X.K [] (dC d)) :=
  de_of fun ρ d' e => ⟨_, pe_glob hg hm r hd, fun σ H Pf R Q c k => k _ H (.refl H) (by cases e; exact (h H).mono fun _ z => z.elim)⟩

/-! ### two in a row -/
def d2 (g : D → D → Option D) (f f' : Ev) : Ev := fun ρ => (f ρ).bind fun x => (f' ρ).bind fun y => g x y
theorem d2_some {g : D → D → Option D} {ρ : En} {d : D} (h : d2 g f f' ρ = some d) : ∃ x y, f ρ = some x ∧ f' ρ = some y ∧ g x y = some d := by
  unfold d2 at h
  cases q : f ρ with
  | none => rw [q] at h; cases h
  | some x =>
    cases q' : f' ρ with
    | none => rw [q, q'] at h; cases h
    | some y => rw [q, q'] at h; exact ⟨x, y, rfl, rfl, h⟩
theorem two [Tabs] {K : PySem.W.Frag} {σ : L2.St} {H : Hp} {Pf : Nat → Addr → Prop} {R : Addr → Prop} {ρ : En} {x y : D} {C : V → V → Hp → Prop} (c : Ctx K (U ++ U') Pf R σ ρ H) (e1 : f ρ = some x) (e2 : f' ρ = some y)
    (h : ∀ v w H', SameT H H' → Rep K R H' x v → Rep K R H' y w → C v w H') : tD K U f σ H fun v H1 => tD K U' f' σ H1 fun w H2 => C v w H2 :=
  ⟨ρ, Pf, R, x, c.l, e1, fun v H1 s1 r1 => ⟨ρ, Pf, R, y, (c.same s1).r, e2, fun w H2 s2 r2 => h v w H2 (s1.trans s2) (r1.same s2) r2⟩⟩
theorem twoT [Tabs] {K : PySem.W.Frag} {V0 : List Nat} {σ : L2.St} {H : Hp} {Pf : Nat → Addr → Prop} {R : Addr → Prop} {ρ : En} {x y : D} {C : V → V → Hp → Prop} (c : Ctx K V0 Pf R σ ρ H) (e1 : f ρ = some x) (e2 : f' ρ = some y)
    (h : ∀ v w H', SameT H H' → Rep K (fun _ => True) H' x v → Rep K (fun _ => True) H' y w → C v w H') : tD K U f σ H fun v H1 => tD K U' f' σ H1 fun w H2 => C v w H2 :=
  two (Ctx.top c) e1 e2 h
theorem one [Tabs] {K : PySem.W.Frag} {V0 : List Nat} {σ : L2.St} {H : Hp} {Pf : Nat → Addr → Prop} {R : Addr → Prop} {ρ : En} {x : D} {C : V → Hp → Prop} (c : Ctx K V0 Pf R σ ρ H) (e1 : f ρ = some x)
    (h : ∀ v H', SameT H H' → Rep K (fun _ => True) H' x v → C v H') : tD K U f σ H C := ⟨ρ, Pf, _, x, Ctx.top c, e1, h⟩
/-- a new object at a free place -/
theorem same_new {H : Hp} {p : Addr} {o : HO} (h : H p = none) : SameT H (upd H p o) := .of fun b x e => by
  rw [upd_ne (ne_of_none e h)]
  exact e

/-! ### arithmetic -/
theorem sizeLine_lit : sizeLine = 16777216 := sizeLine_eq
def D.add : D → D → Option D
  | .int i, .int j => some (.int (i + j))
  | .str x, .str y => if x.length + y.length ≤ 16777216 then some (.str (x ++ y)) else none
  | .lst x, .lst y => if x.length + y.length ≤ 16777216 then some (.lst (x ++ y)) else none
  | .tup x, .tup y => if x.length + y.length ≤ 16777216 then some (.tup (x ++ y)) else none
  | _, _ => none
/-- .. the lists' items no lists -/
def D.addF : D → D → Option D
  | .int i, .int j => some (.int (i + j))
  | .str x, .str y => if x.length + y.length ≤ 16777216 then some (.str (x ++ y)) else none
  | .lst x, .lst y => if x.length + y.length ≤ 16777216 ∧ (x ++ y).all D.flat = true then some (.lst (x ++ y)) else none
  | .tup x, .tup y => if x.length + y.length ≤ 16777216 then some (.tup (x ++ y)) else none
  | _, _ => none
theorem cat_tups {K : PySem.W.Frag} {R : Addr → Prop} {H0 H : Hp} {x y : List D} {v w : V} {Q : VK} (hl : x.length + y.length ≤ 16777216) (r1 : Rep K R H (.tup x) v) (r2 : Rep K R H (.tup y) w) (s : SameT H0 H)
    (k : ∀ v H', SameT H0 H' → Rep K R H' (.tup (x ++ y)) v → Q v H') : rCatA K v w H Q := by
  simp only [Rep] at r1 r2
  obtain ⟨a, vs, rfl, _, h1, h2⟩ := r1
  obtain ⟨b, ws, rfl, _, h3, h4⟩ := r2
  have l1 := h2.length
  have l2 := h4.length
  have hz : (x ++ y).length ≤ sizeLine := by rw [sizeLine_lit, List.length_append]; exact hl
  refine ⟨a, b, vs, ws, rfl, rfl, h1, h3, by rw [l1, l2, sizeLine_lit]; exact hl, fun e => ?_, fun _ e => ?_, fun _ _ p np => ?_⟩
  · refine k _ H s ?_
    simp only [Rep]
    exact ⟨b, vs ++ ws, rfl, hz, by rw [e]; exact h3, h2.app h4⟩
  · refine k _ H s ?_
    simp only [Rep]
    exact ⟨a, vs ++ ws, rfl, hz, by rw [e, List.append_nil]; exact h1, h2.app h4⟩
  · refine k _ _ (s.trans (same_new np)) ?_
    simp only [Rep]
    exact ⟨p, vs ++ ws, rfl, hz, .inl (.inl upd_same), (h2.app h4).same (same_new np)⟩
theorem de_add [Tabs] (ha : PE X a (tD X.K U f)) (hb : PE X b (tD X.K U' f')) : PE X (.BinOp a .Add b pos) (tD X.K (U ++ U') (d2 D.add f f')) := de_of fun ρ d e => by
  obtain ⟨x, y, e1, e2, e3⟩ := d2_some e
  cases x <;> cases y <;> simp only [D.add] at e3 <;> first | cases e3 | skip
  · exact ⟨_, pe_op op_add ha hb, fun σ H Pf R Q c k => two c e1 e2 fun v w H' s r1 r2 => by
      simp only [Rep] at r1 r2
      exact ⟨_, _, r1, r2, k _ H' s (by simp only [Rep])⟩⟩
  · split at e3
    · cases e3
      exact ⟨_, pe_op op_add_str ha hb, fun σ H Pf R Q c k => two c e1 e2 fun v w H' s r1 r2 => by
        simp only [Rep] at r1 r2
        exact ⟨_, _, r1, r2, by rw [sizeLine_lit]; assumption, k _ H' s (by simp only [Rep])⟩⟩
    · cases e3
  · split at e3
    · cases e3
      exact ⟨_, pe_op op_catA ha hb, fun σ H Pf R Q c k => two c e1 e2 fun v w H' s r1 r2 => cat_tups (by assumption) r1 r2 s k⟩
    · cases e3
  · split at e3
    · rename_i hl
      cases e3
      exact ⟨_, pe_op op_cat ha hb, fun σ H Pf R Q c k => two c e1 e2 fun v w H' s r1 r2 => by
        simp only [Rep] at r1 r2
        obtain ⟨p, vs, rfl, _, _, h1, h2⟩ := r1
        obtain ⟨q, ws, rfl, _, _, h3, h4⟩ := r2
        refine ⟨p, q, vs, ws, rfl, rfl, h1, h3, by rw [h2.length, h4.length, sizeLine_lit]; exact hl, fun l nl => k _ _ (s.trans (same_new nl)) ?_⟩
        simp only [Rep]
        exact ⟨l, _, rfl, (c.same s).new l nl, by rw [sizeLine_lit, List.length_append]; exact hl, upd_same, (h2.app h4).same (same_new nl)⟩⟩
    · cases e3
theorem df_add [Tabs] (ha : PE X a (tD X.K U f)) (hb : PE X b (tD X.K U' f')) : PE X (.BinOp a .Add b pos) (tF X.K (U ++ U') (d2 D.addF f f')) := df_of fun ρ d e => by
  obtain ⟨x, y, e1, e2, e3⟩ := d2_some e
  have go : ∀ {K : PySem.W.Frag} {R : Addr → Prop} {H : Hp} {d : D} {v : V}, d.flat = true → Rep K R H d v → Own K (fun a => R a ∧ a ∉ ([] : List Addr)) H d v [] := fun hf r => (r.own hf).mono fun a h => ⟨h, fun z => nomatch z⟩
  cases x <;> cases y <;> simp only [D.addF] at e3 <;> first | cases e3 | skip
  · exact ⟨_, pe_op op_add ha hb, fun σ H Pf R Q c k => two c e1 e2 fun v w H' s r1 r2 => by
      simp only [Rep] at r1 r2
      exact ⟨_, _, r1, r2, k _ H' [] s (go rfl (by simp only [Rep])) List.nodup_nil fun _ z => nomatch z⟩⟩
  · split at e3
    · cases e3
      exact ⟨_, pe_op op_add_str ha hb, fun σ H Pf R Q c k => two c e1 e2 fun v w H' s r1 r2 => by
        simp only [Rep] at r1 r2
        exact ⟨_, _, r1, r2, by rw [sizeLine_lit]; assumption, k _ H' [] s (go rfl (by simp only [Rep])) List.nodup_nil fun _ z => nomatch z⟩⟩
    · cases e3
  · split at e3
    · cases e3
      exact ⟨_, pe_op op_catA ha hb, fun σ H Pf R Q c k => two c e1 e2 fun v w H' s r1 r2 => cat_tups (by assumption) r1 r2 s fun v H' s r => k v H' [] s (go rfl r) List.nodup_nil fun _ z => nomatch z⟩
    · cases e3
  · split at e3
    · rename_i hl
      cases e3
      exact ⟨_, pe_op op_cat ha hb, fun σ H Pf R Q c k => two c e1 e2 fun v w H' s r1 r2 => by
        simp only [Rep] at r1 r2
        obtain ⟨p, vs, rfl, _, _, h1, h2⟩ := r1
        obtain ⟨q, ws, rfl, _, _, h3, h4⟩ := r2
        refine ⟨p, q, vs, ws, rfl, rfl, h1, h3, by rw [h2.length, h4.length, sizeLine_lit]; exact hl.1, fun l nl => k _ _ [l] (s.trans (same_new nl)) ?_ (by simp) fun a ha => ?_⟩
        · have n2 := (h2.app h4).dom
          simp only [Own]
          exact ⟨l, _, [], rfl, rfl, by rw [sizeLine_lit, List.length_append]; exact hl.1, upd_same, ((n2.owns hl.2).same (same_new nl)).mono fun a h => ⟨h.1, fun z => h.2 (by rw [List.mem_singleton.mp z]; exact nl)⟩⟩
        · rw [List.mem_singleton.mp ha]; exact s.free nl⟩
    · cases e3

/-- a rule for two ints -/
def D.int2 (C : Int → Int → Bool) (g : Int → Int → D) : D → D → Option D
  | .int i, .int j => if C i j then some (g i j) else none
  | _, _ => none
theorem int2_some {C : Int → Int → Bool} {g : Int → Int → D} {x y d : D} (h : D.int2 C g x y = some d) : ∃ i j, x = .int i ∧ y = .int j ∧ C i j = true ∧ d = g i j := by
  cases x <;> cases y <;> simp only [D.int2] at h <;> first | cases h | skip
  split at h
  · cases h; exact ⟨_, _, rfl, rfl, by assumption, rfl⟩
  · cases h
def D.sub := D.int2 (fun _ _ => true) fun i j => .int (i - j)
def D.mul := D.int2 (fun i j => decide ((-(2 ^ 64) < i ∧ i < 2 ^ 64) ∨ (-(2 ^ 64) < j ∧ j < 2 ^ 64))) fun i j => .int (i * j)
def D.fdiv := D.int2 (fun i j => decide (j ≠ 0 ∧ j.natAbs < 1073741824)) fun i j => .int (i.fdiv j)
def D.mod := D.int2 (fun _ j => decide (j ≠ 0)) fun i j => .int (i.fmod j)
def D.pow := D.int2 (fun i j => decide (0 ≤ j ∧ j ≤ 1000000 ∧ i.natAbs < 2 ^ 64)) fun i j => .int (i ^ j.toNat)
theorem de_int2 [Tabs] {op : Operator} {C : Int → Int → Bool} {g : Int → Int → Int} {C' : Int → Int → Prop} (ho : OpR X (binaryOp op) (rI C' fun i j => .int (g i j))) (hC : ∀ i j, C i j = true → C' i j) (ha : PE X a (tD X.K U f)) (hb : PE X b (tD X.K U' f')) :
    PE X (.BinOp a op b pos) (tD X.K [] (d2 (D.int2 C fun i j => .int (g i j)) f f')) := de_of fun ρ d e => by
  obtain ⟨x, y, e1, e2, e3⟩ := d2_some e
  obtain ⟨i, j, rfl, rfl, hc, rfl⟩ := int2_some e3
  exact ⟨_, pe_op ho ha hb, fun σ H Pf R Q c k => twoT c e1 e2 fun v w H' s r1 r2 => by
      simp only [Rep] at r1 r2
      exact ⟨_, _, r1, r2, hC i j hc, k _ H' s (by simp only [Rep])⟩⟩
theorem op_subC : OpR X (binaryOp .Sub) (rI (fun _ _ => True) fun i j => .int (i - j)) := fun pins s σ H x y v u Q I r1 r2 ⟨i, j, e1, e2, _, q⟩ => op_sub pins s σ H x y v u Q I r1 r2 ⟨i, j, e1, e2, q⟩
theorem de_subi [Tabs] (ha : PE X a (tD X.K U f)) (hb : PE X b (tD X.K U' f')) : PE X (.BinOp a .Sub b pos) (tD X.K [] (d2 D.sub f f')) := de_int2 op_subC (fun _ _ _ => trivial) ha hb
theorem de_fdiv [Tabs] (ha : PE X a (tD X.K U f)) (hb : PE X b (tD X.K U' f')) : PE X (.BinOp a .FloorDiv b pos) (tD X.K [] (d2 D.fdiv f f')) := de_int2 op_fdivN (fun i j h => (of_decide_eq_true h : j ≠ 0 ∧ j.natAbs < 1073741824)) ha hb
theorem de_mod [Tabs] (ha : PE X a (tD X.K U f)) (hb : PE X b (tD X.K U' f')) : PE X (.BinOp a .Mod b pos) (tD X.K [] (d2 D.mod f f')) := de_int2 op_modN (fun i j h => (of_decide_eq_true h : j ≠ 0)) ha hb
theorem de_pow [Tabs] (ha : PE X a (tD X.K U f)) (hb : PE X b (tD X.K U' f')) : PE X (.BinOp a .Pow b pos) (tD X.K [] (d2 D.pow f f')) := de_int2 op_pow (fun i j h => (of_decide_eq_true h : 0 ≤ j ∧ j ≤ 1000000 ∧ i.natAbs < 2 ^ 64)) ha hb
theorem de_mul [Tabs] (ha : PE X a (tD X.K U f)) (hb : PE X b (tD X.K U' f')) : PE X (.BinOp a .Mult b pos) (tD X.K [] (d2 D.mul f f')) := de_int2 op_mul (fun i j h => (of_decide_eq_true h : (-(2 ^ 64) < i ∧ i < 2 ^ 64) ∨ (-(2 ^ 64) < j ∧ j < 2 ^ 64))) ha hb
def D.neg : D → Option D
  | .int i => some (.int (-i))
  | _ => none
def d1 (g : D → Option D) (f : Ev) : Ev := fun ρ => (f ρ).bind g
theorem d1_some {g : D → Option D} {ρ : En} {d : D} (h : d1 g f ρ = some d) : ∃ x, f ρ = some x ∧ g x = some d := by
  unfold d1 at h
  cases q : f ρ with
  | none => rw [q] at h; cases h
  | some x => rw [q] at h; exact ⟨x, rfl, h⟩
theorem de_neg [Tabs] (ha : PE X a (tD X.K U f)) : PE X (.UnaryOp .USub a pos) (tD X.K [] (d1 D.neg f)) := de_of fun ρ d e => by
  obtain ⟨x, e1, e2⟩ := d1_some e
  cases x <;> simp only [D.neg] at e2 <;> first | cases e2 | skip
  exact ⟨_, pe_un un_neg ha, fun σ H Pf R Q c k => one c e1 fun v H' s r => by
    simp only [Rep] at r
    exact ⟨_, r, k _ H' s (by simp only [Rep])⟩⟩

/-! ### comparisons -/
/-- ints, with their rule -/
def D.lt := D.int2 (fun _ _ => true) fun i j => .bl (decide (i < j))
def D.le := D.int2 (fun _ _ => true) fun i j => .bl (decide (i ≤ j))
def D.gt := D.int2 (fun _ _ => true) fun i j => .bl (decide (j < i))
def D.ge := D.int2 (fun _ _ => true) fun i j => .bl (decide (j ≤ i))
mutual
def D.py : D → PyData
  | .non => .none
  | .bl b => .bool b
  | .int i => .int i
  | .str s => .str s
  | .tup ds => .tuple (D.pys ds)
  | .lst ds => .list (D.pys ds)
  | .dct _ _ => .dict []
  | .obj _ _ _ => .dict []
  | .scr ns => .list (ns.map .int)
def D.pys : List D → List PyData
  | [] => []
  | d :: ds => d.py :: D.pys ds
end
def D.shaped (d : D) : Bool := SeqAt.shaped d.py
theorem dpAll_ints {K : PySem.W.Frag} {H : Hp} : ∀ ns : List Int, DpAll K H (ns.map V.int) (ns.map PyData.int)
  | [] => .nil
  | n :: ns => .cons (.int n) (dpAll_ints ns)
mutual
theorem Rep.dp {K : PySem.W.Frag} {P : Addr → Prop} {H : Hp} : ∀ {d : D} {v : V}, d.py.canLay0 = true → Rep K P H d v → Dp K H v d.py
  | .non, _, _, h => by simp only [Rep] at h; subst h; simp only [D.py]; exact .non
  | .bl _, _, _, h => by simp only [Rep] at h; subst h; simp only [D.py]; exact .bl _
  | .int _, _, _, h => by simp only [Rep] at h; subst h; simp only [D.py]; exact .int _
  | .str _, _, _, h => by simp only [Rep] at h; subst h; simp only [D.py]; exact .str _
  | .tup ds, v, p, h => by
    simp only [Rep] at h
    obtain ⟨a, vs, rfl, _, h1, h2⟩ := h
    simp only [D.py] at p ⊢
    exact .tup h1 (Reps.dp (by simpa only [PyData.canLay0] using p) h2)
  | .lst ds, v, p, h => by
    simp only [Rep] at h
    obtain ⟨a, vs, rfl, _, _, h1, h2⟩ := h
    simp only [D.py] at p ⊢
    exact .lst (SqL.of h1) (Reps.dp (by simpa only [PyData.canLay0] using p) h2)
  | .dct _ _, v, p, h => by simp only [D.py, PyData.canLay0] at p; cases p
  | .obj _ _ _, v, p, h => by simp only [D.py, PyData.canLay0] at p; cases p
  | .scr ns, v, p, h => by
    simp only [Rep] at h
    obtain ⟨a, rfl, h1⟩ := h
    simp only [D.py]
    exact .lst h1.seq (dpAll_ints ns)
theorem Reps.dp {K : PySem.W.Frag} {P : Addr → Prop} {H : Hp} : ∀ {ds : List D} {vs : List V}, PyData.canLayAll0 (D.pys ds) = true → Reps K P H ds vs → DpAll K H vs (D.pys ds)
  | [], _, _, h => by simp only [Reps] at h; subst h; simp only [D.pys]; exact .nil
  | d :: ds, vs, p, h => by
    simp only [Reps] at h
    obtain ⟨v, r, rfl, h1, h2⟩ := h
    simp only [D.pys, PyData.canLayAll0, Bool.and_eq_true] at p
    simp only [D.pys]
    exact .cons (Rep.dp p.1 h1) (Reps.dp p.2 h2)
end
theorem Rep.dpS {K : PySem.W.Frag} {P : Addr → Prop} {H : Hp} {d : D} {v : V} (p : d.shaped = true) (h : Rep K P H d v) : Dp K H v d.py := h.dp (SeqAt.canLay_of_shaped p)
/-- == -/
def D.eqB : D → D → Option Bool
  | .int i, .int j => some (decide (i = j))
  | .str x, .str y => some (decide (x = y))
  | .non, .non => some true
  | x, y => if x.shaped && y.shaped then some (PyData.eqv x.py y.py) else none
def D.eq (x y : D) : Option D := (D.eqB x y).map .bl
def D.ne (x y : D) : Option D := (D.eqB x y).map fun b => .bl (!b)
theorem eqB_some {x y : D} {b : Bool} (h : D.eqB x y = some b) : (∃ i j, x = .int i ∧ y = .int j ∧ b = decide (i = j)) ∨ (∃ i j, x = .str i ∧ y = .str j ∧ b = decide (i = j)) ∨ (x.shaped = true ∧ y.shaped = true ∧ b = PyData.eqv x.py y.py) := by
  have gen : ∀ {x y : D}, (if x.shaped && y.shaped then some (PyData.eqv x.py y.py) else none) = some b → (x.shaped = true ∧ y.shaped = true ∧ b = PyData.eqv x.py y.py) := fun {x y} h => by
    by_cases q : (x.shaped && y.shaped) = true
    · rw [if_pos q] at h
      rw [Bool.and_eq_true] at q
      cases h
      exact ⟨q.1, q.2, rfl⟩
    · rw [if_neg q] at h; cases h
  unfold D.eqB at h
  split at h
  · cases h; exact .inl ⟨_, _, rfl, rfl, rfl⟩
  · cases h; exact .inr (.inl ⟨_, _, rfl, rfl, rfl⟩)
  · cases h; exact .inr (.inr ⟨by decide, by decide, by simp only [D.py, PyData.eqv]⟩)
  · exact .inr (.inr (gen h))
theorem eq_cases [Tabs] {b' : Expr} {x y : D} {b : Bool} (h : D.eqB x y = some b) (hu : X.A.units + 64 < cLine) (ha : PE X a (tD X.K U f)) (hb : PE X b' (tD X.K U' f')) {ρ : En} (e1 : f ρ = some x) (e2 : f' ρ = some y) :
    ∃ r : R2, OpR X (compareOp .Eq) r ∧ ∀ V0 σ H Pf R Q, Ctx X.K V0 Pf R σ ρ H → (∀ H', SameT H H' → Q (.bl b) H') → tD X.K U f σ H fun v H1 => tD X.K U' f' σ H1 fun w H2 => r v w H2 Q := by
  rcases eqB_some h with ⟨i, j, rfl, rfl, rfl⟩ | ⟨i, j, rfl, rfl, rfl⟩ | ⟨s1, s2, rfl⟩
  · refine ⟨_, op_eq, fun V0 σ H Pf R Q c k => twoT c e1 e2 fun v w H' s r1 r2 => ?_⟩
    simp only [Rep] at r1 r2
    subst r1; subst r2
    refine ⟨rfl, ?_⟩
    rw [show decide (V.int i = V.int j) = decide (i = j) by rw [dec_int]; exact Bool.beq_eq_decide_eq i j]
    exact k H' s
  · refine ⟨_, op_eq, fun V0 σ H Pf R Q c k => twoT c e1 e2 fun v w H' s r1 r2 => ?_⟩
    simp only [Rep] at r1 r2
    subst r1; subst r2
    refine ⟨rfl, ?_⟩
    rw [show decide (V.str i = V.str j) = decide (i = j) by simp]
    exact k H' s
  · exact ⟨_, op_eqD hu, fun V0 σ H Pf R Q c k => twoT c e1 e2 fun v w H' s r1 r2 => ⟨_, _, r1.dpS s1, r2.dpS s2, s1, s2, k H' s⟩⟩
theorem ne_cases [Tabs] {b' : Expr} {x y : D} {b : Bool} (h : D.eqB x y = some b) (hu : X.A.units + 64 < cLine) (ha : PE X a (tD X.K U f)) (hb : PE X b' (tD X.K U' f')) {ρ : En} (e1 : f ρ = some x) (e2 : f' ρ = some y) :
    ∃ r : R2, OpR X (compareOp .NotEq) r ∧ ∀ V0 σ H Pf R Q, Ctx X.K V0 Pf R σ ρ H → (∀ H', SameT H H' → Q (.bl (!b)) H') → tD X.K U f σ H fun v H1 => tD X.K U' f' σ H1 fun w H2 => r v w H2 Q := by
  rcases eqB_some h with ⟨i, j, rfl, rfl, rfl⟩ | ⟨i, j, rfl, rfl, rfl⟩ | ⟨s1, s2, rfl⟩
  · refine ⟨_, op_ne, fun V0 σ H Pf R Q c k => twoT c e1 e2 fun v w H' s r1 r2 => ?_⟩
    simp only [Rep] at r1 r2
    subst r1; subst r2
    refine ⟨rfl, ?_⟩
    rw [show decide (V.int i = V.int j) = decide (i = j) by rw [dec_int]; exact Bool.beq_eq_decide_eq i j]
    exact k H' s
  · refine ⟨_, op_ne, fun V0 σ H Pf R Q c k => twoT c e1 e2 fun v w H' s r1 r2 => ?_⟩
    simp only [Rep] at r1 r2
    subst r1; subst r2
    refine ⟨rfl, ?_⟩
    rw [show decide (V.str i = V.str j) = decide (i = j) by simp]
    exact k H' s
  · exact ⟨_, op_neD hu, fun V0 σ H Pf R Q c k => twoT c e1 e2 fun v w H' s r1 r2 => ⟨_, _, r1.dpS s1, r2.dpS s2, s1, s2, k H' s⟩⟩
end
end DL

/-! Comparisons, tests, items, slices, displays, built-in functions, calls. -/
namespace DL
open PySem PySem.Spec PyProof.Rows L2
section
variable {X : Cx} {e a b c : Expr} {U U' U'' : List Nat} {f f' f'' : Ev} {pos : Pos}

/-! ### comparisons -/
def CmpOk (X : Cx) (op : CmpOp) (g : D → D → Option Bool) : Prop :=
  ∀ x y k, g x y = some k → ∃ r : R2, OpR X (compareOp op) r ∧ ∀ v w H Q, Rep X.K (fun _ => True) H x v → Rep X.K (fun _ => True) H y w → Q (.bl k) H → r v w H Q
theorem cmp_eq (hu : X.A.units + 64 < cLine) : CmpOk X .Eq D.eqB := fun x y k h => by
  rcases eqB_some h with ⟨i, j, rfl, rfl, rfl⟩ | ⟨i, j, rfl, rfl, rfl⟩ | ⟨s1, s2, rfl⟩
  · refine ⟨_, op_eq, fun v w H Q r1 r2 q => ?_⟩
    simp only [Rep] at r1 r2
    subst r1; subst r2
    refine ⟨rfl, ?_⟩
    rw [show decide (V.int i = V.int j) = decide (i = j) by rw [dec_int]; exact Bool.beq_eq_decide_eq i j]
    exact q
  · refine ⟨_, op_eq, fun v w H Q r1 r2 q => ?_⟩
    simp only [Rep] at r1 r2
    subst r1; subst r2
    refine ⟨rfl, ?_⟩
    rw [show decide (V.str i = V.str j) = decide (i = j) by simp]
    exact q
  · exact ⟨_, op_eqD hu, fun v w H Q r1 r2 q => ⟨_, _, r1.dpS s1, r2.dpS s2, s1, s2, q⟩⟩
def D.neB (x y : D) : Option Bool := (D.eqB x y).map fun b => !b
theorem cmp_ne (hu : X.A.units + 64 < cLine) : CmpOk X .NotEq D.neB := fun x y k h => by
  unfold D.neB at h
  cases q : D.eqB x y with
  | none => rw [q] at h; cases h
  | some b =>
    rw [q] at h
    cases h
    rcases eqB_some q with ⟨i, j, rfl, rfl, rfl⟩ | ⟨i, j, rfl, rfl, rfl⟩ | ⟨s1, s2, rfl⟩
    · refine ⟨_, op_ne, fun v w H Q r1 r2 q => ?_⟩
      simp only [Rep] at r1 r2
      subst r1; subst r2
      refine ⟨rfl, ?_⟩
      rw [show decide (V.int i = V.int j) = decide (i = j) by rw [dec_int]; exact Bool.beq_eq_decide_eq i j]
      exact q
    · refine ⟨_, op_ne, fun v w H Q r1 r2 q => ?_⟩
      simp only [Rep] at r1 r2
      subst r1; subst r2
      refine ⟨rfl, ?_⟩
      rw [show decide (V.str i = V.str j) = decide (i = j) by simp]
      exact q
    · exact ⟨_, op_neD hu, fun v w H Q r1 r2 q => ⟨_, _, r1.dpS s1, r2.dpS s2, s1, s2, q⟩⟩
def D.intB (g : Int → Int → Bool) : D → D → Option Bool
  | .int i, .int j => some (g i j)
  | _, _ => none
theorem cmp_int {op : CmpOp} {g : Int → Int → Bool} (ho : OpR X (compareOp op) (rI0 fun i j => .bl (g i j))) : CmpOk X op (D.intB g) := fun x y k h => by
  cases x <;> cases y <;> simp only [D.intB] at h <;> first | cases h | skip
  refine ⟨_, ho, fun v w H Q r1 r2 q => ?_⟩
  simp only [Rep] at r1 r2
  exact ⟨_, _, r1, r2, q⟩
def D.ltB := D.intB fun i j => decide (i < j)
def D.leB := D.intB fun i j => decide (i ≤ j)
def D.gtB := D.intB fun i j => decide (j < i)
def D.geB := D.intB fun i j => decide (j ≤ i)
theorem cmp_lt : CmpOk X .Lt D.ltB := cmp_int op_lt
theorem cmp_le : CmpOk X .LtE D.leB := cmp_int op_le
theorem cmp_gt : CmpOk X .Gt D.gtB := cmp_int op_gt
theorem cmp_ge : CmpOk X .GtE D.geB := cmp_int op_ge
/-- is None -/
def D.isN : D → D → Option Bool
  | .non, .non => some true
  | _, .non => some false
  | _, _ => none
def D.isNon : D → Bool
  | .non => true
  | _ => false
theorem rep_non {K : PySem.W.Frag} {P : Addr → Prop} {H : Hp} {d : D} {v : V} (r : Rep K P H d v) : decide (v = .non) = d.isNon := by
  cases d with
  | non => simp only [Rep] at r; subst r; rfl
  | bl _ => simp only [Rep] at r; subst r; rfl
  | int _ => simp only [Rep] at r; subst r; rfl
  | str _ => simp only [Rep] at r; subst r; rfl
  | tup _ => simp only [Rep] at r; obtain ⟨_, _, rfl, _⟩ := r; rfl
  | lst _ => simp only [Rep] at r; obtain ⟨_, _, rfl, _⟩ := r; rfl
  | dct _ _ => simp only [Rep] at r; obtain ⟨_, _, rfl, _⟩ := r; rfl
  | obj _ _ _ => simp only [Rep] at r; obtain ⟨_, _, _, rfl, _⟩ := r; rfl
  | scr _ => simp only [Rep] at r; obtain ⟨_, rfl, _⟩ := r; rfl
theorem isN_some {x y : D} {k : Bool} (h : D.isN x y = some k) : y = .non ∧ k = x.isNon := by
  cases x <;> cases y <;> simp only [D.isN] at h <;> first | (cases h; exact ⟨rfl, rfl⟩) | cases h
theorem cmp_isN : CmpOk X .Is D.isN := fun x y k h => by
  obtain ⟨rfl, rfl⟩ := isN_some h
  refine ⟨_, op_isN, fun v w H Q r1 r2 q => ?_⟩
  simp only [Rep] at r2
  exact ⟨r2, by rw [rep_non r1]; exact q⟩
def D.notN (x y : D) : Option Bool := (D.isN x y).map fun b => !b
theorem cmp_notN : CmpOk X .IsNot D.notN := fun x y k h => by
  unfold D.notN at h
  cases q : D.isN x y with
  | none => rw [q] at h; cases h
  | some b =>
    rw [q] at h
    cases h
    obtain ⟨rfl, rfl⟩ := isN_some q
    refine ⟨_, op_notN, fun v w H Q r1 r2 q => ?_⟩
    simp only [Rep] at r2
    exact ⟨r2, by rw [rep_non r1]; exact q⟩
/-! in: scalars in a list or tuple of scalars; else nested data in a list -/
def D.sc : D → Option V
  | .non => some .non
  | .bl b => some (.bl b)
  | .int i => some (.int i)
  | .str s => some (.str s)
  | _ => none
def D.scs : List D → Option (List V)
  | [] => some []
  | d :: ds => d.sc.bind fun v => (D.scs ds).bind fun vs => some (v :: vs)
theorem sc_rep {K : PySem.W.Frag} {P : Addr → Prop} {H : Hp} {d : D} {v w : V} (h : d.sc = some w) (r : Rep K P H d v) : v = w ∧ flatV w = true := by
  cases d <;> simp only [D.sc] at h <;> cases h <;> (simp only [Rep] at r; exact ⟨r, rfl⟩)
theorem scs_rep {K : PySem.W.Frag} {P : Addr → Prop} {H : Hp} : ∀ {ds : List D} {vs ws : List V}, D.scs ds = some ws → Reps K P H ds vs → vs = ws ∧ ws.all flatV = true
  | [], vs, ws, h, r => by
    simp only [Reps] at r
    simp only [D.scs] at h
    cases h
    exact ⟨r, rfl⟩
  | d :: ds, vs, ws, h, r => by
    simp only [Reps] at r
    obtain ⟨v, u, rfl, r1, r2⟩ := r
    simp only [D.scs] at h
    cases q1 : d.sc with
    | none => rw [q1] at h; cases h
    | some x =>
      cases q2 : D.scs ds with
      | none => rw [q1, q2] at h; cases h
      | some xs =>
        rw [q1, q2] at h
        cases h
        obtain ⟨e1, f1⟩ := sc_rep q1 r1
        obtain ⟨e2, f2⟩ := scs_rep q2 r2
        exact ⟨by rw [e1, e2], by rw [List.all_cons, f1, f2]; rfl⟩
def D.seq? : D → Option (List D)
  | .lst ds => some ds
  | .tup ds => some ds
  | .scr ns => some (ns.map .int)
  | _ => none
def D.inDeep (x : D) : D → Option Bool
  | .lst ds => if x.shaped && (D.lst ds).shaped then some (ds.any fun z => PyData.eqv z.py x.py) else none
  | _ => none
def D.inB (x y : D) : Option Bool :=
  match x.sc, y.seq?.bind D.scs with
  | some v, some vs => some (inV v vs)
  | _, _ => x.inDeep y
theorem seq_rep {K : PySem.W.Frag} {P : Addr → Prop} {H : Hp} {d : D} {ds : List D} {v : V} (h : d.seq? = some ds) (r : Rep K P H d v) : ∃ a vs, v = .ref a ∧ (SqL K H a vs ∨ SqT K H a vs) ∧ Reps K P H ds vs := by
  cases d <;> simp only [D.seq?] at h <;> first | cases h | skip
  · simp only [Rep] at r
    obtain ⟨a, vs, rfl, _, h1, h2⟩ := r
    exact ⟨a, vs, rfl, .inr h1, h2⟩
  · simp only [Rep] at r
    obtain ⟨a, vs, rfl, _, _, h1, h2⟩ := r
    exact ⟨a, vs, rfl, .inl (SqL.of h1), h2⟩
  · simp only [Rep] at r
    obtain ⟨a, rfl, h1⟩ := r
    rename_i ns
    refine ⟨a, _, rfl, .inl h1.seq, ?_⟩
    clear h1
    induction ns with
    | nil => exact .nil
    | cons n r ih => exact .cons (by simp only [Rep]) ih
theorem pys_any (x : PyData) : ∀ ds : List D, (D.pys ds).any (fun z => PyData.eqv z x) = ds.any fun z => PyData.eqv z.py x
  | [] => rfl
  | d :: ds => by simp only [D.pys, List.any_cons, pys_any x ds]
theorem inDeep_some {x y : D} {k : Bool} (h : x.inDeep y = some k) : ∃ ds, y = .lst ds ∧ x.shaped = true ∧ (D.lst ds).shaped = true ∧ k = (D.pys ds).any fun z => PyData.eqv z x.py := by
  cases y <;> simp only [D.inDeep] at h <;> first | cases h | skip
  rename_i ds
  by_cases q : (x.shaped && (D.lst ds).shaped) = true
  · rw [if_pos q] at h
    rw [Bool.and_eq_true] at q
    cases h
    exact ⟨ds, rfl, q.1, q.2, (pys_any _ _).symm⟩
  · rw [if_neg q] at h; cases h
theorem in_some {x y : D} {k : Bool} (h : D.inB x y = some k) : (∃ v vs ds, x.sc = some v ∧ y.seq? = some ds ∧ D.scs ds = some vs ∧ k = inV v vs) ∨ (∃ ds, y = .lst ds ∧ x.shaped = true ∧ (D.lst ds).shaped = true ∧ k = (D.pys ds).any fun z => PyData.eqv z x.py) := by
  unfold D.inB at h
  split at h
  · rename_i v vs q1 q2
    cases h
    cases q3 : y.seq? with
    | none => rw [q3] at q2; cases q2
    | some ds => rw [q3] at q2; exact .inl ⟨v, vs, ds, q1, rfl, q2, rfl⟩
  · exact .inr (inDeep_some h)
theorem cmp_in (hu : X.A.units + 65 < cLine) : CmpOk X .In D.inB := fun x y k h => by
  rcases in_some h with ⟨v, vs, ds, q1, q2, q3, rfl⟩ | ⟨ds, rfl, s1, s2, rfl⟩
  · refine ⟨_, op_in_seq, fun v' w H Q r1 r2 q => ?_⟩
    obtain ⟨rfl, f1⟩ := sc_rep q1 r1
    obtain ⟨a, ws, rfl, h1, h2⟩ := seq_rep q2 r2
    obtain ⟨rfl, f2⟩ := scs_rep q3 h2
    exact ⟨a, _, rfl, h1, f1, f2, q⟩
  · refine ⟨_, op_inD hu, fun v' w H Q r1 r2 q => ⟨x.py, D.pys ds, r1.dpS s1, ?_, s1, ?_, q⟩⟩
    · have := r2.dpS s2; simpa only [D.py] using this
    · have := s2; unfold D.shaped at this; simpa only [D.py] using this
def D.notInB (x y : D) : Option Bool := (D.inB x y).map fun b => !b
theorem cmp_notIn (hu : X.A.units + 65 < cLine) : CmpOk X .NotIn D.notInB := fun x y k h => by
  unfold D.notInB at h
  cases q : D.inB x y with
  | none => rw [q] at h; cases h
  | some b =>
    rw [q] at h
    cases h
    rcases in_some q with ⟨v, vs, ds, q1, q2, q3, rfl⟩ | ⟨ds, rfl, s1, s2, rfl⟩
    · refine ⟨_, op_notIn_seq, fun v' w H Q r1 r2 q => ?_⟩
      obtain ⟨rfl, f1⟩ := sc_rep q1 r1
      obtain ⟨a, ws, rfl, h1, h2⟩ := seq_rep q2 r2
      obtain ⟨rfl, f2⟩ := scs_rep q3 h2
      exact ⟨a, _, rfl, h1, f1, f2, q⟩
    · refine ⟨_, op_notInD hu, fun v' w H Q r1 r2 q => ⟨x.py, D.pys ds, r1.dpS s1, ?_, s1, ?_, q⟩⟩
      · have := r2.dpS s2; simpa only [D.py] using this
      · have := s2; unfold D.shaped at this; simpa only [D.py] using this

abbrev Et := En → Option Bool
def t2 (g : D → D → Option Bool) (f f' : Ev) : Et := fun ρ => (f ρ).bind fun x => (f' ρ).bind fun y => g x y
theorem t2_some {g : D → D → Option Bool} {ρ : En} {d : Bool} (h : t2 g f f' ρ = some d) : ∃ x y, f ρ = some x ∧ f' ρ = some y ∧ g x y = some d := by
  unfold t2 at h
  cases q : f ρ with
  | none => rw [q] at h; cases h
  | some x =>
    cases q' : f' ρ with
    | none => rw [q, q'] at h; cases h
    | some y => rw [q, q'] at h; exact ⟨x, y, rfl, rfl, h⟩
/-- a test as a value -/
def dB (t : Et) : Ev := fun ρ => (t ρ).map .bl
theorem dB_some {t : Et} {ρ : En} {d : D} (h : dB t ρ = some d) : ∃ k, t ρ = some k ∧ d = .bl k := by
  unfold dB at h
  cases q : t ρ with
  | none => rw [q] at h; cases h
  | some k => rw [q] at h; cases h; exact ⟨k, rfl, rfl⟩
theorem de_cmp [Tabs] {op : CmpOp} {g : D → D → Option Bool} (hg : CmpOk X op g) (ha : PE X a (tD X.K U f)) (hb : PE X b (tD X.K U' f')) (hm : behindInMarks op b = false := by first | exact nomark _ | rfl) : PE X (.Compare a [op] [b] pos) (tD X.K [] (dB (t2 g f f'))) := de_of fun ρ d h0 => by
  obtain ⟨k, h, rfl⟩ := dB_some h0
  obtain ⟨x, y, e1, e2, e3⟩ := t2_some h
  obtain ⟨r, ho, hr⟩ := hg x y k e3
  exact ⟨_, pe_cmpR ho ha hb hm, fun σ H Pf R Q c q => twoT c e1 e2 fun v w H' s r1 r2 => hr v w H' Q r1 r2 (q _ H' s (by simp only [Rep]))⟩
theorem dt_cmp [Tabs] {op : CmpOp} {g : D → D → Option Bool} (hg : CmpOk X op g) (ha : PE X a (tD X.K U f)) (hb : PE X b (tD X.K U' f')) (hm : behindInMarks op b = false := by first | exact nomark _ | rfl) : PT X (.Compare a [op] [b] pos) (tT X.K (t2 g f f')) := dt_of fun ρ k h => by
  obtain ⟨x, y, e1, e2, e3⟩ := t2_some h
  obtain ⟨r, ho, hr⟩ := hg x y k e3
  exact ⟨_, pt_cmpR ho ha hb hm, fun σ H Pf Q c q => twoT c e1 e2 fun v w H' s r1 r2 => hr v w H' _ r1 r2 ⟨k, rfl, q H' s⟩⟩
/-- a op b op c -/
def tCh (g g' : D → D → Option Bool) (f f' f'' : Ev) : Et := fun ρ => (f ρ).bind fun x => (f' ρ).bind fun y => (g x y).bind fun k => if k = true then (f'' ρ).bind fun z => g' y z else some false
theorem ch_some {g g' : D → D → Option Bool} {ρ : En} {k : Bool} (h : tCh g g' f f' f'' ρ = some k) : ∃ x y k1, f ρ = some x ∧ f' ρ = some y ∧ g x y = some k1 ∧ ((k1 = true ∧ ∃ z, f'' ρ = some z ∧ g' y z = some k) ∨ (k1 = false ∧ k = false)) := by
  unfold tCh at h
  cases q : f ρ with
  | none => rw [q] at h; cases h
  | some x =>
    cases q' : f' ρ with
    | none => rw [q, q'] at h; cases h
    | some y =>
      rw [q, q'] at h
      simp only [Option.bind_some] at h
      cases q1 : g x y with
      | none => rw [q1] at h; cases h
      | some k1 =>
        rw [q1] at h
        refine ⟨x, y, k1, rfl, rfl, q1, ?_⟩
        cases k1 with
        | false => cases h; exact .inr ⟨rfl, rfl⟩
        | true =>
          simp only [Option.bind_some, if_true] at h
          cases q2 : f'' ρ with
          | none => rw [q2] at h; cases h
          | some z => rw [q2] at h; exact .inl ⟨rfl, z, rfl, h⟩
theorem de_chain [Tabs] {op op' : CmpOp} {g g' : D → D → Option Bool} (hg : CmpOk X op g) (hg' : CmpOk X op' g') (ha : PE X a (tD X.K U f)) (hb : PE X b (tD X.K U' f')) (hc : PE X c (tD X.K U'' f'')) (hm : lastMarks [op, op'] [b, c] = false := by with_unfolding_all rfl) :
    PE X (.Compare a [op, op'] [b, c] pos) (tD X.K [] (dB (tCh g g' f f' f''))) := de_of fun ρ d h0 => by
  obtain ⟨k, h, rfl⟩ := dB_some h0
  obtain ⟨x, y, k1, e1, e2, e3, e4⟩ := ch_some h
  obtain ⟨r, ho, hr⟩ := hg x y k1 e3
  rcases e4 with ⟨rfl, z, e5, e6⟩ | ⟨rfl, rfl⟩
  · obtain ⟨r', ho', hr'⟩ := hg' y z k e6
    exact ⟨_, pe_chain ho ho' ha hb hc hm, fun σ H Pf R Q c q => twoT c e1 e2 fun v w H' s r1 r2 => hr v w H' _ r1 r2 ⟨true, rfl, iteT (one (Ctx.same c s) e5 fun z' H2 s2 r3 => hr' w z' H2 Q (r2.same s2) r3 (q _ H2 (s.trans s2) (by simp only [Rep])))⟩⟩
  · exact ⟨_, pe_chain (r' := fun _ _ _ _ => False) ho (fun _ _ _ _ _ _ _ _ _ _ _ _ h => h.elim) ha hb hc hm, fun σ H Pf R Q c q => twoT c e1 e2 fun v w H' s r1 r2 => hr v w H' _ r1 r2 ⟨false, rfl, iteF (q _ H' s (by simp only [Rep]))⟩⟩
theorem dt_chain [Tabs] {op op' : CmpOp} {g g' : D → D → Option Bool} (hg : CmpOk X op g) (hg' : CmpOk X op' g') (ha : PE X a (tD X.K U f)) (hb : PE X b (tD X.K U' f')) (hc : PE X c (tD X.K U'' f'')) (hm : lastMarks [op, op'] [b, c] = false := by with_unfolding_all rfl) :
    PT X (.Compare a [op, op'] [b, c] pos) (tT X.K (tCh g g' f f' f'')) := dt_of fun ρ k h => by
  obtain ⟨x, y, k1, e1, e2, e3, e4⟩ := ch_some h
  obtain ⟨r, ho, hr⟩ := hg x y k1 e3
  rcases e4 with ⟨rfl, z, e5, e6⟩ | ⟨rfl, rfl⟩
  · obtain ⟨r', ho', hr'⟩ := hg' y z k e6
    exact ⟨_, pt_chain ho ho' ha hb hc hm, fun σ H Pf Q c q => twoT c e1 e2 fun v w H' s r1 r2 => hr v w H' _ r1 r2 ⟨true, rfl, iteT (one (Ctx.same c s) e5 fun z' H2 s2 r3 => hr' w z' H2 _ (r2.same s2) r3 ⟨k, rfl, q H2 (s.trans s2)⟩)⟩⟩
  · exact ⟨_, pt_chain (r' := fun _ _ _ _ => False) ho (fun _ _ _ _ _ _ _ _ _ _ _ _ h => h.elim) ha hb hc hm, fun σ H Pf Q c q => twoT c e1 e2 fun v w H' s r1 r2 => hr v w H' _ r1 r2 ⟨false, rfl, iteF ⟨false, rfl, q H' s⟩⟩⟩

/-! ### and, or, not; if else -/
variable {t t' : Et} {rest : List Expr}
def tAn (t t' : Et) : Et := fun ρ => (t ρ).bind fun k => if k = true then t' ρ else some false
def tOrr (t t' : Et) : Et := fun ρ => (t ρ).bind fun k => if k = true then some true else t' ρ
def tNt (t : Et) : Et := fun ρ => (t ρ).map fun k => !k
theorem an_some {ρ : En} {k : Bool} (h : tAn t t' ρ = some k) : (t ρ = some true ∧ t' ρ = some k) ∨ (t ρ = some false ∧ k = false) := by
  unfold tAn at h
  cases q : t ρ with
  | none => rw [q] at h; cases h
  | some b => rw [q] at h; cases b with
    | true => exact .inl ⟨rfl, h⟩
    | false => cases h; exact .inr ⟨rfl, rfl⟩
theorem or_some {ρ : En} {k : Bool} (h : tOrr t t' ρ = some k) : (t ρ = some true ∧ k = true) ∨ (t ρ = some false ∧ t' ρ = some k) := by
  unfold tOrr at h
  cases q : t ρ with
  | none => rw [q] at h; cases h
  | some b => rw [q] at h; cases b with
    | true => cases h; exact .inl ⟨rfl, rfl⟩
    | false => exact .inr ⟨rfl, h⟩
theorem tT_k [Tabs] {K : PySem.W.Frag} {σ : L2.St} {ρ : En} {H : Hp} {Pf : Nat → Addr → Prop} {R : Addr → Prop} {V0 : List Nat} {k : Bool} {Q : Bool → Hp → Prop} (c : Ctx K V0 Pf R σ ρ H) (e : t ρ = some k) (q : ∀ H', SameT H H' → Q k H') : tT K t σ H Q := ⟨ρ, Pf, k, c.top, e, q⟩
theorem dw_of [Tabs] {e : Expr} {f : Et} (h : ∀ ρ d, f ρ = some d → ∃ t, PW X e t ∧ ∀ σ H Pf Q, Ctx X.K [] Pf (fun _ => True) σ ρ H → (∀ H', SameT H H' → Q d H') → t σ H Q) : PW X e (tT X.K f) :=
  ⟨fun wh pins s σ H Q I ⟨ρ, Pf, d, c, e, k⟩ => let ⟨t, ht, hk⟩ := h ρ d e; ht.run wh pins s σ H Q I (hk σ H Pf Q c k)⟩
theorem dw_and1 [Tabs] (ha : PT X a (tT X.K t)) : PW X (.BoolOp .And [a] pos) (tT X.K t) := pw_and1 ha
theorem dw_or1 [Tabs] (ha : PT X a (tT X.K t)) : PW X (.BoolOp .Or [a] pos) (tT X.K t) := pw_or1 ha
theorem dw_and [Tabs] (ha : PT X a (tT X.K t)) (hb : PW X (.BoolOp .And (b :: rest) pos) (tT X.K t')) : PW X (.BoolOp .And (a :: b :: rest) pos) (tT X.K (tAn t t')) := dw_of fun ρ k h =>
  ⟨_, pw_and ha hb, fun σ H Pf Q c q => by
    rcases an_some h with ⟨h1, h2⟩ | ⟨h1, rfl⟩
    · exact tT_k c h1 fun H' s => iteT (tT_k (c.same s) h2 fun H2 s2 => q H2 (s.trans s2))
    · exact tT_k c h1 fun H' s => iteF (q H' s)⟩
theorem dw_or [Tabs] (ha : PT X a (tT X.K t)) (hb : PW X (.BoolOp .Or (b :: rest) pos) (tT X.K t')) : PW X (.BoolOp .Or (a :: b :: rest) pos) (tT X.K (tOrr t t')) := dw_of fun ρ k h =>
  ⟨_, pw_or ha hb, fun σ H Pf Q c q => by
    rcases or_some h with ⟨h1, rfl⟩ | ⟨h1, h2⟩
    · exact tT_k c h1 fun H' s => iteT (q H' s)
    · exact tT_k c h1 fun H' s => iteF (tT_k (c.same s) h2 fun H2 s2 => q H2 (s.trans s2))⟩
theorem dt_not [Tabs] (ha : PT X a (tT X.K t)) : PT X (.UnaryOp .Not a pos) (tT X.K (tNt t)) := dt_of fun ρ k h =>
  ⟨_, pt_not ha, fun σ H Pf Q c q => by
    unfold tNt at h
    cases z : t ρ with
    | none => rw [z] at h; cases h
    | some b => rw [z] at h; cases h; exact tT_k c z fun H' s => q H' s⟩
/-- a value that is a truth value, as a test -/
def tV (f : Ev) : Et := fun ρ => (f ρ).bind fun d => match d with | .bl b => some b | _ => none
theorem tV_some {ρ : En} {k : Bool} (h : tV f ρ = some k) : f ρ = some (.bl k) := by
  unfold tV at h
  cases q : f ρ with
  | none => rw [q] at h; cases h
  | some d =>
    rw [q] at h
    simp only [Option.bind_some] at h
    split at h
    · cases h; rfl
    · cases h
theorem dt_val [Tabs] (ha : PE X e (tD X.K U f)) (he : ∀ whole, isTrue e X.env whole = (do let v ← whole; standAt e.pos; holding [v] (truthy v)) := by intro _; rfl) : PT X e (tT X.K (tV f)) := dt_of fun ρ k h =>
  ⟨_, pt_val ha he, fun σ H Pf Q c q => one c (tV_some h) fun v H' s r => by
    simp only [Rep] at r
    exact ⟨k, r, q H' s⟩⟩
/-- .. as values -/
theorem de_b1 [Tabs] {op : BoolOp} (ha : PE X a (tD X.K [] (dB t))) : PE X (.BoolOp op [a] pos) (tD X.K [] (dB t)) := pe_one ha
theorem dB_k [Tabs] {K : PySem.W.Frag} {σ : L2.St} {ρ : En} {H : Hp} {Pf : Nat → Addr → Prop} {R : Addr → Prop} {V0 : List Nat} {k : Bool} {Q : VK} (c : Ctx K V0 Pf R σ ρ H) (e : t ρ = some k) (q : ∀ H', SameT H H' → Q (.bl k) H') : tD K [] (dB t) σ H Q :=
  ⟨ρ, Pf, fun _ => True, .bl k, c.top, by unfold dB; rw [e]; rfl, fun v H' s r => by simp only [Rep] at r; subst r; exact q H' s⟩
theorem de_bool [Tabs] (ha : PE X a (tD X.K U f)) : PE X a (tD X.K [] (dB (tV f))) := pe_imp ha fun σ H Q ⟨ρ, Pf, R, d, c, e, k⟩ => by
  obtain ⟨b, h, rfl⟩ := dB_some e
  exact ⟨ρ, Pf, fun _ => True, _, c.top, tV_some h, fun v H' s r => k v H' s (by simpa only [Rep] using r)⟩
theorem de_and [Tabs] (ha : PE X a (tD X.K [] (dB t))) (hb : PE X (.BoolOp .And (b :: rest) pos) (tD X.K [] (dB t'))) : PE X (.BoolOp .And (a :: b :: rest) pos) (tD X.K [] (dB (tAn t t'))) := de_of fun ρ d h0 => by
  obtain ⟨k, h, rfl⟩ := dB_some h0
  refine ⟨_, pe_and ha hb, fun σ H Pf R Q c q => ?_⟩
  rcases an_some h with ⟨h1, h2⟩ | ⟨h1, rfl⟩
  · exact dB_k c h1 fun H' s => ⟨true, rfl, iteT (dB_k (c.same s) h2 fun H2 s2 => q _ H2 (s.trans s2) (by simp only [Rep]))⟩
  · exact dB_k c h1 fun H' s => ⟨false, rfl, iteF (q _ H' s (by simp only [Rep]))⟩
theorem de_or [Tabs] (ha : PE X a (tD X.K [] (dB t))) (hb : PE X (.BoolOp .Or (b :: rest) pos) (tD X.K [] (dB t'))) : PE X (.BoolOp .Or (a :: b :: rest) pos) (tD X.K [] (dB (tOrr t t'))) := de_of fun ρ d h0 => by
  obtain ⟨k, h, rfl⟩ := dB_some h0
  refine ⟨_, pe_or ha hb, fun σ H Pf R Q c q => ?_⟩
  rcases or_some h with ⟨h1, rfl⟩ | ⟨h1, h2⟩
  · exact dB_k c h1 fun H' s => ⟨true, rfl, iteT (q _ H' s (by simp only [Rep]))⟩
  · exact dB_k c h1 fun H' s => ⟨false, rfl, iteF (dB_k (c.same s) h2 fun H2 s2 => q _ H2 (s.trans s2) (by simp only [Rep]))⟩
theorem de_not [Tabs] (ha : PE X a (tD X.K [] (dB t))) : PE X (.UnaryOp .Not a pos) (tD X.K [] (dB (tNt t))) := de_of fun ρ d h0 => by
  obtain ⟨k, h, rfl⟩ := dB_some h0
  refine ⟨_, pe_not ha, fun σ H Pf R Q c q => ?_⟩
  unfold tNt at h
  cases z : t ρ with
  | none => rw [z] at h; cases h
  | some b => rw [z] at h; cases h; exact dB_k c z fun H' s => ⟨b, rfl, q _ H' s (by simp only [Rep])⟩
def dIf (t : Et) (f f' : Ev) : Ev := fun ρ => (t ρ).bind fun k => if k = true then f ρ else f' ρ
theorem if_some {ρ : En} {d : D} (h : dIf t f f' ρ = some d) : (t ρ = some true ∧ f ρ = some d) ∨ (t ρ = some false ∧ f' ρ = some d) := by
  unfold dIf at h
  cases q : t ρ with
  | none => rw [q] at h; cases h
  | some b => rw [q] at h; cases b with
    | true => exact .inl ⟨rfl, h⟩
    | false => exact .inr ⟨rfl, h⟩
theorem de_if [Tabs] (hc : PT X c (tT X.K t)) (ha : PE X a (tD X.K U f)) (hb : PE X b (tD X.K U' f')) : PE X (.IfExp c a b pos) (tD X.K (U ++ U') (dIf t f f')) := de_of fun ρ d h =>
  ⟨_, pe_ifExp hc ha hb, fun σ H Pf R Q c q => by
    rcases if_some h with ⟨h1, h2⟩ | ⟨h1, h2⟩
    · exact tT_k c h1 fun H' s => iteT ⟨ρ, Pf, R, d, (c.same s).l, h2, fun v H2 s2 r => q v H2 (s.trans s2) r⟩
    · exact tT_k c h1 fun H' s => iteF ⟨ρ, Pf, R, d, (c.same s).r, h2, fun v H2 s2 r => q v H2 (s.trans s2) r⟩⟩
theorem df_if [Tabs] (hc : PT X c (tT X.K t)) (ha : PE X a (tF X.K U f)) (hb : PE X b (tF X.K U' f')) : PE X (.IfExp c a b pos) (tF X.K (U ++ U') (dIf t f f')) := df_of fun ρ d h =>
  ⟨_, pe_ifExp hc ha hb, fun σ H Pf R Q c q => by
    rcases if_some h with ⟨h1, h2⟩ | ⟨h1, h2⟩
    · exact tT_k c h1 fun H' s => iteT ⟨ρ, Pf, R, d, (c.same s).l, h2, fun v H2 A s2 r n z => q v H2 A (s.trans s2) r n fun a ha => s.free (z a ha)⟩
    · exact tT_k c h1 fun H' s => iteF ⟨ρ, Pf, R, d, (c.same s).r, h2, fun v H2 A s2 r n z => q v H2 A (s.trans s2) r n fun a ha => s.free (z a ha)⟩⟩

/-! ### items -/
def dLook {α : Type} : List Key → List α → Key → Option α
  | k :: ks, d :: ds, q => if k = q then some d else dLook ks ds q
  | _, _, _ => none
theorem valV_zip : ∀ (ks : List Key) (vs : List V) (q : Key), valV (ks.zip vs) q = dLook ks vs q
  | [], _, _ => rfl
  | k :: ks, [], q => rfl
  | k :: ks, v :: vs, q => by
    have ih := valV_zip ks vs q
    unfold valV at ih ⊢
    rw [List.zip_cons_cons, List.find?_cons]
    simp only [dLook]
    by_cases h : k = q
    · rw [decide_eq_true h, if_pos h]; rfl
    · rw [decide_eq_false h, if_neg h]; exact ih
theorem dLook_rep {K : PySem.W.Frag} {P : Addr → Prop} {H : Hp} : ∀ {ks : List Key} {ds : List D} {vs : List V} {q : Key} {d : D}, Reps K P H ds vs → dLook ks ds q = some d → ∃ v, dLook ks vs q = some v ∧ Rep K P H d v
  | [], ds, vs, q, d, _, h => by simp only [dLook] at h; cases h
  | k :: ks, [], vs, q, d, _, h => by simp only [dLook] at h; cases h
  | k :: ks, d0 :: ds, vs, q, d, r, h => by
    simp only [Reps] at r
    obtain ⟨v, u, rfl, r1, r2⟩ := r
    simp only [dLook] at h ⊢
    by_cases e : k = q
    · rw [if_pos e] at h ⊢
      cases h
      exact ⟨v, rfl, r1⟩
    · rw [if_neg e] at h ⊢
      exact dLook_rep r2 h
theorem dLook_none {K : PySem.W.Frag} {P : Addr → Prop} {H : Hp} : ∀ {ks : List Key} {ds : List D} {vs : List V} {q : Key}, Reps K P H ds vs → dLook ks ds q = none → dLook ks vs q = none
  | [], ds, vs, q, _, h => by cases vs <;> rfl
  | k :: ks, [], vs, q, r, h => by simp only [Reps] at r; subst r; rfl
  | k :: ks, d0 :: ds, vs, q, r, h => by
    simp only [Reps] at r
    obtain ⟨v, u, rfl, r1, r2⟩ := r
    simp only [dLook] at h ⊢
    by_cases e : k = q
    · rw [if_pos e] at h; cases h
    · rw [if_neg e] at h ⊢
      exact dLook_none r2 h
def D.key : D → Option Key
  | .int i => some (.inl i)
  | .str s => some (.inr s)
  | _ => none
theorem key_rep {K : PySem.W.Frag} {P : Addr → Prop} {H : Hp} {d : D} {k : Key} {v : V} (h : d.key = some k) (r : Rep K P H d v) : v = kV k := by
  cases d <;> simp only [D.key] at h <;> first | cases h | skip
  · simp only [Rep] at r; exact r
  · simp only [Rep] at r; exact r
def D.idx : D → D → Option D
  | .tup ds, .int i => atI ds i
  | .lst ds, .int i => atI ds i
  | .scr ns, .int i => (atI ns i).map .int
  | .str z, .int i => if z.length ≤ 16777216 then (atI z.cps.toList i).map fun c => .str ⟨#[c]⟩ else none
  | .dct ks ds, k => k.key.bind fun q => dLook ks ds q
  | _, _ => none
theorem atI_rep {K : PySem.W.Frag} {P : Addr → Prop} {H : Hp} {ds : List D} {vs : List V} {i : Int} {d : D} (r : Reps K P H ds vs) (h : atI ds i = some d) : ∃ v, atI vs i = some v ∧ Rep K P H d v := by
  unfold atI at h ⊢
  rw [r.length]
  cases q : ixN ds.length i with
  | none => rw [q] at h; cases h
  | some j => rw [q] at h; exact r.get h
theorem atI_map {α β : Type} (g : α → β) (xs : List α) (i : Int) : atI (xs.map g) i = (atI xs i).map g := by
  unfold atI
  rw [List.length_map]
  cases ixN xs.length i with
  | none => rfl
  | some j => simp only [Option.bind_some, List.getElem?_map]
theorem de_idx [Tabs] (hu : X.A.units + 1 < cLine) (ha : PE X a (tD X.K U f)) (hb : PE X b (tD X.K U' f')) (hs : PlainIx b := by exact fun _ _ => rfl) (hs' : NoSl b := by exact fun _ _ => rfl) : PE X (.Subscript a b pos) (tD X.K U (d2 D.idx f f')) := de_of fun ρ d h => by
  obtain ⟨x, y, e1, e2, e3⟩ := d2_some h
  have go : ∀ {σ : L2.St} {H : Hp} {Pf : Nat → Addr → Prop} {R : Addr → Prop} {C : V → V → Hp → Prop}, Ctx X.K U Pf R σ ρ H → (∀ v w H', SameT H H' → Rep X.K R H' x v → Rep X.K (fun _ => True) H' y w → C v w H') → tD X.K U f σ H fun v H1 => tD X.K U' f' σ H1 fun w H2 => C v w H2 :=
    fun {σ H Pf R C} c k => ⟨ρ, Pf, R, x, c, e1, fun v H1 s1 r1 => ⟨ρ, Pf, _, y, (c.same s1).top, e2, fun w H2 s2 r2 => k v w H2 (s1.trans s2) (r1.same s2) r2⟩⟩
  cases x with
  | tup ds =>
    cases y <;> simp only [D.idx] at e3 <;> first | cases e3 | skip
    exact ⟨_, pe_ix ix_tup ha hb hs, fun σ H Pf R Q c k => go c fun v w H' s r1 r2 => by
      simp only [Rep] at r1 r2
      obtain ⟨p, vs, rfl, _, h1, h2⟩ := r1
      obtain ⟨u, q1, q2⟩ := atI_rep h2 e3
      exact ⟨p, vs, _, u, rfl, r2, h1, q1, k u H' s q2⟩⟩
  | lst ds =>
    cases y <;> simp only [D.idx] at e3 <;> first | cases e3 | skip
    exact ⟨_, pe_ix ix_list ha hb hs, fun σ H Pf R Q c k => go c fun v w H' s r1 r2 => by
      simp only [Rep] at r1 r2
      obtain ⟨p, vs, rfl, _, _, h1, h2⟩ := r1
      obtain ⟨u, q1, q2⟩ := atI_rep h2 e3
      exact ⟨p, vs, _, u, rfl, r2, SqL.of h1, q1, k u H' s q2⟩⟩
  | scr ns =>
    cases y <;> simp only [D.idx] at e3 <;> first | cases e3 | skip
    rename_i i
    cases q : atI ns i with
    | none => rw [q] at e3; cases e3
    | some n =>
      rw [q] at e3
      cases e3
      exact ⟨_, pe_ix ix_list ha hb hs, fun σ H Pf R Q c k => go c fun v w H' s r1 r2 => by
        simp only [Rep] at r1 r2
        obtain ⟨p, rfl, h1⟩ := r1
        exact ⟨p, _, i, .int n, rfl, r2, h1.seq, by rw [atI_map, q]; rfl, k _ H' s (by simp only [Rep])⟩⟩
  | str z =>
    cases y <;> simp only [D.idx] at e3 <;> first | cases e3 | skip
    rename_i i
    by_cases hz : z.length ≤ 16777216
    · rw [if_pos hz] at e3
      cases q : atI z.cps.toList i with
      | none => rw [q] at e3; cases e3
      | some n =>
        rw [q] at e3
        cases e3
        exact ⟨_, pe_ix ix_str ha hb hs, fun σ H Pf R Q c k => go c fun v w H' s r1 r2 => by
          simp only [Rep] at r1 r2
          exact ⟨z, i, n, r1, r2, by rw [sizeLine_lit]; exact hz, q, k _ H' s (by simp only [Rep])⟩⟩
    · rw [if_neg hz] at e3; cases e3
  | dct ks ds =>
    simp only [D.idx] at e3
    cases q : y.key with
    | none => rw [q] at e3; cases e3
    | some kk =>
      rw [q] at e3
      simp only [Option.bind_some] at e3
      exact ⟨_, pe_dget hu ha hb hs', fun σ H Pf R Q c k => go c fun v w H' s r1 r2 => by
        simp only [Rep] at r1
        obtain ⟨p, vs, rfl, _, _, _, h1, h2⟩ := r1
        obtain ⟨u, q1, q2⟩ := dLook_rep h2 e3
        refine ⟨p, u, rfl, ?_, k u H' s q2⟩
        rw [key_rep q r2]
        have g := DGet.k (k := kk) h1
        rw [valV_zip, q1] at g
        exact g⟩
  | non => simp only [D.idx] at e3; cases e3
  | bl _ => simp only [D.idx] at e3; cases e3
  | int _ => simp only [D.idx] at e3; cases e3
  | obj _ _ _ => simp only [D.idx] at e3; cases e3

/-! ### slices -/
abbrev Eo := En → Option (Option Int)
def tO [Tabs] (K : PySem.W.Frag) (f : Eo) : TO := fun σ H Q => ∃ ρ Pf o, Ctx K [] Pf (fun _ => True) σ ρ H ∧ f ρ = some o ∧ ∀ H', SameT H H' → Q o H'
def oNo : Eo := fun _ => some none
def oSo (f : Ev) : Eo := fun ρ => (f ρ).bind fun d => match d with | .int i => some (some i) | _ => none
theorem po_imp {o : Option Expr} {t t' : TO} (h : PO X o t) (k : ∀ σ H Q, t' σ H Q → t σ H Q) : PO X o t' := ⟨fun pins s σ H Q I w => h.run pins s σ H Q I (k σ H Q w)⟩
theorem do_no [Tabs] : PO X none (tO X.K oNo) := po_imp po_none fun σ H Q ⟨ρ, Pf, o, c, e, k⟩ => by
  cases e
  exact k H (.refl H)
theorem do_so [Tabs] (h : PE X a (tD X.K U f)) : PO X (some a) (tO X.K (oSo f)) := po_imp (po_some h) fun σ H Q ⟨ρ, Pf, o, c, e, k⟩ => by
  unfold oSo at e
  cases q : f ρ with
  | none => rw [q] at e; cases e
  | some d =>
    rw [q] at e
    simp only [Option.bind_some] at e
    split at e
    · cases e
      exact one c q fun v H' s r => by
        simp only [Rep] at r
        exact ⟨_, r, k H' s⟩
    · cases e
def cutL {α : Type} (xs : List α) (lo hi : Option Int) : List α := (xs.drop (HT.sIx xs.length 0 lo)).take (HT.sIx xs.length xs.length hi - HT.sIx xs.length 0 lo)
def D.cut : D → Option Int → Option Int → Option D
  | .tup ds, lo, hi => some (.tup (cutL ds lo hi))
  | .lst ds, lo, hi => some (.lst (cutL ds lo hi))
  | _, _, _ => none
theorem cutL_rep {K : PySem.W.Frag} {P : Addr → Prop} {H : Hp} {ds : List D} {vs : List V} (lo hi : Option Int) (r : Reps K P H ds vs) : Reps K P H (cutL ds lo hi) (cutV vs lo hi) := by
  unfold cutL cutV
  rw [r.length]
  exact (r.drop _).take _
theorem cutL_len {α : Type} (xs : List α) (lo hi : Option Int) : (cutL xs lo hi).length ≤ xs.length := by
  unfold cutL
  rw [List.length_take, List.length_drop]
  omega
theorem cutL_all {α : Type} (p : α → Bool) (xs : List α) (lo hi : Option Int) (h : xs.all p = true) : (cutL xs lo hi).all p = true := by
  rw [List.all_eq_true] at h ⊢
  intro x hx
  exact h x (List.mem_of_mem_drop (List.mem_of_mem_take hx))
def dCut (f : Ev) (o o' : Eo) : Ev := fun ρ => (f ρ).bind fun d => (o ρ).bind fun lo => (o' ρ).bind fun hi => d.cut lo hi
theorem cut_some {o o' : Eo} {ρ : En} {d : D} (h : dCut f o o' ρ = some d) : ∃ x lo hi, f ρ = some x ∧ o ρ = some lo ∧ o' ρ = some hi ∧ x.cut lo hi = some d := by
  unfold dCut at h
  cases q : f ρ with
  | none => rw [q] at h; cases h
  | some x =>
    cases q1 : o ρ with
    | none => rw [q, q1] at h; cases h
    | some lo =>
      cases q2 : o' ρ with
      | none => rw [q, q1, q2] at h; cases h
      | some hi => rw [q, q1, q2] at h; exact ⟨x, lo, hi, rfl, rfl, rfl, h⟩
theorem cut_all {α : Type} {xs : List α} {lo hi : Option Int} (h : HT.sIx xs.length 0 lo = 0 ∧ HT.sIx xs.length xs.length hi = xs.length) : cutL xs lo hi = xs := by
  unfold cutL
  rw [h.1, h.2]
  simp
theorem de_slice [Tabs] {lo hi : Option Expr} {o o' : Eo} {p2 : Pos} (ha : PE X a (tD X.K U f)) (hl : PO X lo (tO X.K o)) (hh : PO X hi (tO X.K o')) : PE X (.Subscript a (.Slice lo hi none p2) pos) (tD X.K U (dCut f o o')) := de_of fun ρ d h => by
  obtain ⟨x, lo', hi', e1, e2, e3, e4⟩ := cut_some h
  have go : ∀ {σ : L2.St} {H : Hp} {Pf : Nat → Addr → Prop} {R : Addr → Prop} {C : V → Option Int → Option Int → Hp → Prop}, Ctx X.K U Pf R σ ρ H → (∀ v H', SameT H H' → Rep X.K R H' x v → C v lo' hi' H') → tD X.K U f σ H fun v H1 => tO X.K o σ H1 fun l H2 => tO X.K o' σ H2 fun u H3 => C v l u H3 :=
    fun {σ H Pf R C} c k => ⟨ρ, Pf, R, x, c, e1, fun v H1 s1 r1 => ⟨ρ, Pf, lo', (c.same s1).top, e2, fun H2 s2 => ⟨ρ, Pf, hi', ((c.same s1).same s2).top, e3, fun H3 s3 => k v H3 ((s1.trans s2).trans s3) (r1.same (s2.trans s3))⟩⟩⟩
  cases x <;> simp only [D.cut] at e4 <;> first | cases e4 | skip
  · rename_i ds
    exact ⟨_, pe_slice sl_tupA ha hl hh, fun σ H Pf R Q c k => go c fun v H' s r1 => by
      simp only [Rep] at r1
      obtain ⟨p, vs, rfl, hl, h1, h2⟩ := r1
      refine ⟨p, vs, rfl, h1, fun w => ?_, fun w q nq => ?_⟩
      · refine k _ H' s ?_
        rw [h2.length] at w
        rw [cut_all w]
        simp only [Rep]
        exact ⟨p, vs, rfl, hl, h1, h2⟩
      · refine k _ _ (s.trans (same_new nq)) ?_
        simp only [Rep]
        exact ⟨q, _, rfl, Nat.le_trans (cutL_len _ _ _) hl, .inl (.inl upd_same), (cutL_rep _ _ h2).same (same_new nq)⟩⟩
  · rename_i ds
    exact ⟨_, pe_slice sl_list ha hl hh, fun σ H Pf R Q c k => go c fun v H' s r1 => by
      simp only [Rep] at r1
      obtain ⟨p, vs, rfl, hp, hl, h1, h2⟩ := r1
      refine ⟨p, vs, rfl, SqL.of h1, fun q nq => k _ _ (s.trans (same_new nq)) ?_⟩
      simp only [Rep]
      exact ⟨q, _, rfl, (c.same s).new q nq, Nat.le_trans (cutL_len _ _ _) hl, upd_same, (cutL_rep _ _ h2).same (same_new nq)⟩⟩
/-- a new list at l of things that own nothing -/
theorem own_new {K : PySem.W.Frag} {R : Addr → Prop} {H : Hp} {ds : List D} {vs : List V} {l : Addr} (n : H l = none) (hl : ds.length ≤ sizeLine) (hf : ds.all D.flat = true) (r : Reps K R H ds vs) : Own K (fun a => R a ∧ a ∉ [l]) (upd H l (.lst vs)) (.lst ds) (.ref l) [l] := by
  simp only [Own]
  exact ⟨l, vs, [], rfl, rfl, hl, upd_same, ((r.dom.owns hf).same (same_new n)).mono fun a h => ⟨h.1, fun z => h.2 (by rw [List.mem_singleton.mp z]; exact n)⟩⟩
def D.cutF : D → Option Int → Option Int → Option D
  | .tup ds, lo, hi => some (.tup (cutL ds lo hi))
  | .lst ds, lo, hi => if (cutL ds lo hi).all D.flat then some (.lst (cutL ds lo hi)) else none
  | _, _, _ => none
def dCutF (f : Ev) (o o' : Eo) : Ev := fun ρ => (f ρ).bind fun d => (o ρ).bind fun lo => (o' ρ).bind fun hi => d.cutF lo hi
theorem cutF_some {o o' : Eo} {ρ : En} {d : D} (h : dCutF f o o' ρ = some d) : ∃ x lo hi, f ρ = some x ∧ o ρ = some lo ∧ o' ρ = some hi ∧ x.cutF lo hi = some d := by
  unfold dCutF at h
  cases q : f ρ with
  | none => rw [q] at h; cases h
  | some x =>
    cases q1 : o ρ with
    | none => rw [q, q1] at h; cases h
    | some lo =>
      cases q2 : o' ρ with
      | none => rw [q, q1, q2] at h; cases h
      | some hi => rw [q, q1, q2] at h; exact ⟨x, lo, hi, rfl, rfl, rfl, h⟩
theorem df_slice [Tabs] {lo hi : Option Expr} {o o' : Eo} {p2 : Pos} (ha : PE X a (tD X.K U f)) (hl : PO X lo (tO X.K o)) (hh : PO X hi (tO X.K o')) : PE X (.Subscript a (.Slice lo hi none p2) pos) (tF X.K U (dCutF f o o')) := df_of fun ρ d h => by
  obtain ⟨x, lo', hi', e1, e2, e3, e4⟩ := cutF_some h
  have go : ∀ {σ : L2.St} {H : Hp} {Pf : Nat → Addr → Prop} {R : Addr → Prop} {C : V → Option Int → Option Int → Hp → Prop}, Ctx X.K U Pf R σ ρ H → (∀ v H', SameT H H' → Rep X.K R H' x v → C v lo' hi' H') → tD X.K U f σ H fun v H1 => tO X.K o σ H1 fun l H2 => tO X.K o' σ H2 fun u H3 => C v l u H3 :=
    fun {σ H Pf R C} c k => ⟨ρ, Pf, R, x, c, e1, fun v H1 s1 r1 => ⟨ρ, Pf, lo', (c.same s1).top, e2, fun H2 s2 => ⟨ρ, Pf, hi', ((c.same s1).same s2).top, e3, fun H3 s3 => k v H3 ((s1.trans s2).trans s3) (r1.same (s2.trans s3))⟩⟩⟩
  cases x <;> simp only [D.cutF] at e4 <;> first | cases e4 | skip
  · rename_i ds
    have fin : ∀ {K : PySem.W.Frag} {R : Addr → Prop} {H : Hp} {d : D} {v : V}, d.flat = true → Rep K R H d v → Own K (fun a => R a ∧ a ∉ ([] : List Addr)) H d v [] := fun hf r => (r.own hf).mono fun a h => ⟨h, fun z => nomatch z⟩
    exact ⟨_, pe_slice sl_tupA ha hl hh, fun σ H Pf R Q c k => go c fun v H' s r1 => by
      simp only [Rep] at r1
      obtain ⟨p, vs, rfl, hl, h1, h2⟩ := r1
      refine ⟨p, vs, rfl, h1, fun w => ?_, fun w q nq => ?_⟩
      · refine k _ H' [] s (fin rfl ?_) List.nodup_nil fun _ z => nomatch z
        rw [h2.length] at w
        rw [cut_all w]
        simp only [Rep]
        exact ⟨p, vs, rfl, hl, h1, h2⟩
      · refine k _ _ [] (s.trans (same_new nq)) (fin rfl ?_) List.nodup_nil fun _ z => nomatch z
        simp only [Rep]
        exact ⟨q, _, rfl, Nat.le_trans (cutL_len _ _ _) hl, .inl (.inl upd_same), (cutL_rep _ _ h2).same (same_new nq)⟩⟩
  · rename_i ds
    by_cases hf : (cutL ds lo' hi').all D.flat = true
    · rw [if_pos hf] at e4
      cases e4
      exact ⟨_, pe_slice sl_list ha hl hh, fun σ H Pf R Q c k => go c fun v H' s r1 => by
        simp only [Rep] at r1
        obtain ⟨p, vs, rfl, hp, hl, h1, h2⟩ := r1
        refine ⟨p, vs, rfl, SqL.of h1, fun q nq => k _ _ [q] (s.trans (same_new nq)) (own_new nq (Nat.le_trans (cutL_len _ _ _) hl) hf (cutL_rep _ _ h2)) (by simp) fun a ha => ?_⟩
        rw [List.mem_singleton.mp ha]; exact s.free nq⟩
    · rw [if_neg hf] at e4; cases e4

/-! ### arguments, displays -/
variable {es : List Expr} {fs : Es}
theorem da_of [Tabs] {es : List Expr} {fs : Es} (h : ∀ ρ d, fs ρ = some d → ∃ t, PA X es t ∧ ∀ σ H Pf R Q, Ctx X.K U Pf R σ ρ H → (∀ v H', SameT H H' → Reps X.K R H' d v → Q v H') → t σ H Q) : PA X es (tA X.K U fs) :=
  ⟨fun po pins s σ H Q I ⟨ρ, Pf, R, d, c, e, k⟩ => let ⟨t, ht, hk⟩ := h ρ d e; ht.run po pins s σ H Q I (hk σ H Pf R Q c k)⟩
def aN : Es := fun _ => some []
def aC (f : Ev) (fs : Es) : Es := fun ρ => (f ρ).bind fun x => (fs ρ).bind fun xs => some (x :: xs)
theorem aC_some {ρ : En} {ds : List D} (h : aC f fs ρ = some ds) : ∃ x xs, f ρ = some x ∧ fs ρ = some xs ∧ ds = x :: xs := by
  unfold aC at h
  cases q : f ρ with
  | none => rw [q] at h; cases h
  | some x =>
    cases q' : fs ρ with
    | none => rw [q, q'] at h; cases h
    | some y => rw [q, q'] at h; cases h; exact ⟨x, y, rfl, rfl, rfl⟩
theorem da_nil [Tabs] : PA X [] (tA X.K [] aN) := da_of fun ρ d h => ⟨_, pa_nil, fun σ H Pf R Q c k => by cases h; exact k [] H (.refl H) .nil⟩
theorem da_cons [Tabs] (ha : PE X a (tD X.K U f)) (hr : PA X es (tA X.K U' fs)) (hs : starEach (a :: es) X.env = (false, eval a X.env) :: starEach es X.env := by rfl) : PA X (a :: es) (tA X.K (U ++ U') (aC f fs)) := da_of fun ρ d h => by
  obtain ⟨x, xs, e1, e2, rfl⟩ := aC_some h
  exact ⟨_, pa_cons ha hr hs, fun σ H Pf R Q c k => ⟨ρ, Pf, R, x, c.l, e1, fun v H1 s1 r1 => ⟨ρ, Pf, R, xs, (c.same s1).r, e2, fun w H2 s2 r2 => k _ H2 (s1.trans s2) (.cons (r1.same s2) r2)⟩⟩⟩
def dN (g : List D → Option D) (fs : Es) : Ev := fun ρ => (fs ρ).bind g
theorem dN_some {g : List D → Option D} {ρ : En} {d : D} (h : dN g fs ρ = some d) : ∃ ds, fs ρ = some ds ∧ g ds = some d := by
  unfold dN at h
  cases q : fs ρ with
  | none => rw [q] at h; cases h
  | some x => rw [q] at h; exact ⟨x, rfl, h⟩
def D.mkT (ds : List D) : Option D := if ds.length ≤ 16777216 then some (.tup ds) else none
def D.mkL (ds : List D) : Option D := if ds.length ≤ 16777216 then some (.lst ds) else none
def D.mkLF (ds : List D) : Option D := if ds.length ≤ 16777216 ∧ ds.all D.flat = true then some (.lst ds) else none
theorem de_tup [Tabs] {k0 : Nat} (h : PA X es (tA X.K U fs)) : PE X (.Tuple es k0 pos) (tD X.K U (dN D.mkT fs)) := de_of fun ρ d e => by
  obtain ⟨ds, e1, e2⟩ := dN_some e
  unfold D.mkT at e2
  split at e2
  · rename_i hl
    cases e2
    exact ⟨_, pe_tup h, fun σ H Pf R Q c k => ⟨ρ, Pf, R, ds, c, e1, fun vs H' s r => ⟨by rw [r.length, sizeLine_lit]; exact hl, fun p np => k _ _ (s.trans (same_new np)) (by
      simp only [Rep]
      exact ⟨p, vs, rfl, by rw [sizeLine_lit]; exact hl, .inl (.inl upd_same), r.same (same_new np)⟩)⟩⟩⟩
  · cases e2
theorem de_lst [Tabs] (h : PA X es (tA X.K U fs)) : PE X (.List es pos) (tD X.K U (dN D.mkL fs)) := de_of fun ρ d e => by
  obtain ⟨ds, e1, e2⟩ := dN_some e
  unfold D.mkL at e2
  split at e2
  · rename_i hl
    cases e2
    exact ⟨_, pe_lst h, fun σ H Pf R Q c k => ⟨ρ, Pf, R, ds, c, e1, fun vs H' s r => ⟨by rw [r.length, sizeLine_lit]; exact hl, fun p np => k _ _ (s.trans (same_new np)) (by
      simp only [Rep]
      exact ⟨p, vs, rfl, (c.same s).new p np, by rw [sizeLine_lit]; exact hl, upd_same, r.same (same_new np)⟩)⟩⟩⟩
  · cases e2
theorem df_lst [Tabs] (h : PA X es (tA X.K U fs)) : PE X (.List es pos) (tF X.K U (dN D.mkLF fs)) := df_of fun ρ d e => by
  obtain ⟨ds, e1, e2⟩ := dN_some e
  unfold D.mkLF at e2
  split at e2
  · rename_i hl
    cases e2
    exact ⟨_, pe_lst h, fun σ H Pf R Q c k => ⟨ρ, Pf, R, ds, c, e1, fun vs H' s r => ⟨by rw [r.length, sizeLine_lit]; exact hl.1, fun p np => k _ _ [p] (s.trans (same_new np)) (own_new np (by rw [sizeLine_lit]; exact hl.1) hl.2 r) (by simp) fun a ha => by
      rw [List.mem_singleton.mp ha]; exact s.free np⟩⟩⟩
  · cases e2
/-- {} -/
theorem df_dnew [Tabs] : PE X (.Dict [] [] pos) (tF X.K [] (dC (.dct [] []))) := df_of fun ρ d e => ⟨_, pe_dnewK, fun σ H Pf R Q c k => by
  cases e
  intro p np
  refine k _ _ [p] (same_new np) ?_ (by simp) fun a ha => by rw [List.mem_singleton.mp ha]; exact np
  simp only [Own, Owns]
  exact ⟨p, [], [], rfl, rfl, Nat.zero_le _, ⟨rfl, List.nodup_nil⟩, upd_same, rfl, rfl⟩⟩

/-! ### built-in functions -/
/-- a call of a built-in function or type, by what it does to data -/
def CallOk (X : Cx) (fv : Value) (g : List D → Option D) : Prop :=
  ∀ ds d, g ds = some d → ∃ r, CallR X fv r ∧ ∀ vs H R Q, Reps X.K R H ds vs → (∀ a, H a = none → R a) → (∀ v H', SameT H H' → Rep X.K R H' d v → Q v H') → r vs H Q
/-- .. new lists -/
def CallOkF (X : Cx) (fv : Value) (g : List D → Option D) : Prop :=
  ∀ ds d, g ds = some d → ∃ r, CallR X fv r ∧ ∀ vs H R Q, Reps X.K R H ds vs → (∀ a, H a = none → R a) → (∀ v H' A, SameT H H' → Own X.K (fun a => R a ∧ a ∉ A) H' d v A → A.Nodup → (∀ a ∈ A, H a = none) → Q v H') → r vs H Q
/-- .. scalars -/
def CallOkS (X : Cx) (fv : Value) (g : List D → Option D) : Prop :=
  ∀ ds d, g ds = some d → ∃ r, CallR X fv r ∧ ∀ vs H Q, Reps X.K (fun _ => True) H ds vs → (∀ v, (∀ R, Rep X.K R H d v) → Q v H) → r vs H Q
variable {x : Str} {p : Pos} {id T : String} {g : List D → Option D}
theorem de_callB [Tabs] (hc : CallOkS X (.builtin id) g) (hg : Gl X x) (hm : X.mg x = none) (hv : bootBuiltins x = some (.builtin id)) (ha : PA X (e :: es) (tA X.K U fs)) (hn : x ≠ "__name__" := by decide) (hdb : (x == ("__debug__" : Str)) = false := by decide)
    (he : starEach (e :: es) X.env = (false, eval e X.env) :: starEach es X.env := by rfl) (hpl : (backTo pos (starEach es X.env)).any (·.1) = false := by rfl) : PE X (.Call (.Name x p) (e :: es) [] pos) (tD X.K [] (dN g fs)) := de_of fun ρ d h => by
  obtain ⟨ds, e1, e2⟩ := dN_some h
  obtain ⟨r, h1, h2⟩ := hc ds d e2
  exact ⟨_, pe_callB h1 hg hm hv ha hn hdb he hpl, fun σ H Pf R Q c k => ⟨ρ, Pf, _, ds, c.top, e1, fun vs H' s rr => h2 vs H' Q rr fun v q => k v H' s (q R)⟩⟩
theorem de_callT [Tabs] (hc : CallOkS X (.type T) g) (hg : Gl X x) (hm : X.mg x = none) (hv : bootBuiltins x = some (.type T)) (ha : PA X (e :: es) (tA X.K U fs)) (hn : x ≠ "__name__" := by decide) (hdb : (x == ("__debug__" : Str)) = false := by decide)
    (he : starEach (e :: es) X.env = (false, eval e X.env) :: starEach es X.env := by rfl) (hpl : (backTo pos (starEach es X.env)).any (·.1) = false := by rfl) : PE X (.Call (.Name x p) (e :: es) [] pos) (tD X.K [] (dN g fs)) := de_of fun ρ d h => by
  obtain ⟨ds, e1, e2⟩ := dN_some h
  obtain ⟨r, h1, h2⟩ := hc ds d e2
  exact ⟨_, pe_callTy h1 hg hm hv ha hn hdb he hpl, fun σ H Pf R Q c k => ⟨ρ, Pf, _, ds, c.top, e1, fun vs H' s rr => h2 vs H' Q rr fun v q => k v H' s (q R)⟩⟩
theorem de_callTD [Tabs] (hc : CallOk X (.type T) g) (hg : Gl X x) (hm : X.mg x = none) (hv : bootBuiltins x = some (.type T)) (ha : PA X (e :: es) (tA X.K U fs)) (hn : x ≠ "__name__" := by decide) (hdb : (x == ("__debug__" : Str)) = false := by decide)
    (he : starEach (e :: es) X.env = (false, eval e X.env) :: starEach es X.env := by rfl) (hpl : (backTo pos (starEach es X.env)).any (·.1) = false := by rfl) : PE X (.Call (.Name x p) (e :: es) [] pos) (tD X.K U (dN g fs)) := de_of fun ρ d h => by
  obtain ⟨ds, e1, e2⟩ := dN_some h
  obtain ⟨r, h1, h2⟩ := hc ds d e2
  exact ⟨_, pe_callTy h1 hg hm hv ha hn hdb he hpl, fun σ H Pf R Q c k => ⟨ρ, Pf, R, ds, c, e1, fun vs H' s rr => h2 vs H' R Q rr (c.same s).new fun v H2 s2 q => k v H2 (s.trans s2) q⟩⟩
theorem df_callT [Tabs] (hc : CallOkF X (.type T) g) (hg : Gl X x) (hm : X.mg x = none) (hv : bootBuiltins x = some (.type T)) (ha : PA X (e :: es) (tA X.K U fs)) (hn : x ≠ "__name__" := by decide) (hdb : (x == ("__debug__" : Str)) = false := by decide)
    (he : starEach (e :: es) X.env = (false, eval e X.env) :: starEach es X.env := by rfl) (hpl : (backTo pos (starEach es X.env)).any (·.1) = false := by rfl) : PE X (.Call (.Name x p) (e :: es) [] pos) (tF X.K U (dN g fs)) := df_of fun ρ d h => by
  obtain ⟨ds, e1, e2⟩ := dN_some h
  obtain ⟨r, h1, h2⟩ := hc ds d e2
  exact ⟨_, pe_callTy h1 hg hm hv ha hn hdb he hpl, fun σ H Pf R Q c k => ⟨ρ, Pf, R, ds, c, e1, fun vs H' s rr => h2 vs H' R Q rr (c.same s).new fun v H2 A s2 q n z => k v H2 A (s.trans s2) q n fun a ha => s.free (z a ha)⟩⟩
theorem df_callB [Tabs] (hc : CallOkF X (.builtin id) g) (hg : Gl X x) (hm : X.mg x = none) (hv : bootBuiltins x = some (.builtin id)) (ha : PA X (e :: es) (tA X.K U fs)) (hn : x ≠ "__name__" := by decide) (hdb : (x == ("__debug__" : Str)) = false := by decide)
    (he : starEach (e :: es) X.env = (false, eval e X.env) :: starEach es X.env := by rfl) (hpl : (backTo pos (starEach es X.env)).any (·.1) = false := by rfl) : PE X (.Call (.Name x p) (e :: es) [] pos) (tF X.K U (dN g fs)) := df_of fun ρ d h => by
  obtain ⟨ds, e1, e2⟩ := dN_some h
  obtain ⟨r, h1, h2⟩ := hc ds d e2
  exact ⟨_, pe_callB h1 hg hm hv ha hn hdb he hpl, fun σ H Pf R Q c k => ⟨ρ, Pf, R, ds, c, e1, fun vs H' s rr => h2 vs H' R Q rr (c.same s).new fun v H2 A s2 q n z => k v H2 A (s.trans s2) q n fun a ha => s.free (z a ha)⟩⟩
theorem reps1 {K : PySem.W.Frag} {R : Addr → Prop} {H : Hp} {d : D} {vs : List V} (r : Reps K R H [d] vs) : ∃ v, vs = [v] ∧ Rep K R H d v := by
  simp only [Reps] at r
  obtain ⟨v, _, rfl, h, rfl⟩ := r
  exact ⟨v, rfl, h⟩
theorem reps2 {K : PySem.W.Frag} {R : Addr → Prop} {H : Hp} {d d' : D} {vs : List V} (r : Reps K R H [d, d'] vs) : ∃ v w, vs = [v, w] ∧ Rep K R H d v ∧ Rep K R H d' w := by
  simp only [Reps] at r
  obtain ⟨v, _, rfl, h, w, _, rfl, h', rfl⟩ := r
  exact ⟨v, w, rfl, h, h'⟩
def D.len : List D → Option D
  | [.str z] => if z.length ≤ 16777216 then some (.int z.length) else none
  | [.lst ds] => some (.int ds.length)
  | [.tup ds] => some (.int ds.length)
  | [.scr ns] => some (.int ns.length)
  | [.dct ks _] => some (.int ks.length)
  | _ => none
theorem c_len : CallOkS X (.builtin "len") D.len := fun ds d h => by
  unfold D.len at h
  split at h
  · split at h
    · cases h
      exact ⟨_, call_len, fun vs H Q r q => by
        obtain ⟨v, rfl, r1⟩ := reps1 r
        simp only [Rep] at r1
        subst r1
        exact ⟨_, _, rfl, ⟨by rw [sizeLine_lit]; assumption, rfl⟩, q _ fun R => by simp only [Rep]⟩⟩
    · cases h
  · cases h
    exact ⟨_, call_len, fun vs H Q r q => by
      obtain ⟨v, rfl, r1⟩ := reps1 r
      simp only [Rep] at r1
      obtain ⟨a, ws, rfl, _, _, h1, h2⟩ := r1
      exact ⟨_, _, rfl, .inl ⟨ws, SqL.of h1, rfl⟩, by rw [h2.length]; exact q _ fun R => by simp only [Rep]⟩⟩
  · cases h
    exact ⟨_, call_len, fun vs H Q r q => by
      obtain ⟨v, rfl, r1⟩ := reps1 r
      simp only [Rep] at r1
      obtain ⟨a, ws, rfl, _, h1, h2⟩ := r1
      exact ⟨_, _, rfl, .inr ⟨ws, h1, rfl⟩, by rw [h2.length]; exact q _ fun R => by simp only [Rep]⟩⟩
  · cases h
    exact ⟨_, call_len, fun vs H Q r q => by
      obtain ⟨v, rfl, r1⟩ := reps1 r
      simp only [Rep] at r1
      obtain ⟨a, rfl, h1⟩ := r1
      exact ⟨_, _, rfl, .inl ⟨_, h1.seq, rfl⟩, by rw [List.length_map]; exact q _ fun R => by simp only [Rep]⟩⟩
  · cases h
    exact ⟨_, call_lenD, fun vs H Q r q => by
      obtain ⟨v, rfl, r1⟩ := reps1 r
      simp only [Rep] at r1
      obtain ⟨a, ws, rfl, _, _, ⟨hk, _⟩, h1, h2⟩ := r1
      refine ⟨a, _, rfl, h1, ?_⟩
      rw [List.length_zip, h2.length, hk, Nat.min_self, ← hk]
      exact q _ fun R => by simp only [Rep]⟩
  · cases h
def D.max2 : List D → Option D
  | [.int i, .int j] => some (.int (if j > i then j else i))
  | _ => none
def D.min2 : List D → Option D
  | [.int i, .int j] => some (.int (if j < i then j else i))
  | _ => none
theorem c_max2 (hc : X.calm = true := by rfl) : CallOkS X (.builtin "max") D.max2 := fun ds d h => by
  unfold D.max2 at h
  split at h
  · cases h
    exact ⟨_, call_max2 hc, fun vs H Q r q => by
      obtain ⟨v, w, rfl, r1, r2⟩ := reps2 r
      simp only [Rep] at r1 r2
      subst r1; subst r2
      exact ⟨_, _, rfl, q _ fun R => by simp only [Rep]⟩⟩
  · cases h
theorem c_min2 (hc : X.calm = true := by rfl) : CallOkS X (.builtin "min") D.min2 := fun ds d h => by
  unfold D.min2 at h
  split at h
  · cases h
    exact ⟨_, call_min2 hc, fun vs H Q r q => by
      obtain ⟨v, w, rfl, r1, r2⟩ := reps2 r
      simp only [Rep] at r1 r2
      subst r1; subst r2
      exact ⟨_, _, rfl, q _ fun R => by simp only [Rep]⟩⟩
  · cases h
def D.int1 : List D → Option D
  | [.int i] => some (.int i)
  | [.bl k] => some (.int (if k then 1 else 0))
  | _ => none
theorem c_int1 : CallOkS X (.type "int") D.int1 := fun ds d h => by
  unfold D.int1 at h
  split at h
  · cases h
    exact ⟨_, call_int1, fun vs H Q r q => by
      obtain ⟨v, rfl, r1⟩ := reps1 r
      simp only [Rep] at r1
      subst r1
      exact .inl ⟨_, rfl, q _ fun R => by simp only [Rep]⟩⟩
  · cases h
    exact ⟨_, call_int1, fun vs H Q r q => by
      obtain ⟨v, rfl, r1⟩ := reps1 r
      simp only [Rep] at r1
      subst r1
      exact .inr ⟨_, rfl, q _ fun R => by simp only [Rep]⟩⟩
  · cases h
/-- tuple(x): of a list or a tuple -/
def D.tupOf : List D → Option D
  | [.lst ds] => some (.tup ds)
  | [.tup ds] => some (.tup ds)
  | _ => none
theorem c_tupOf : CallOk X (.type "tuple") D.tupOf := fun ds d h => by
  unfold D.tupOf at h
  split at h
  · cases h
    exact ⟨_, call_tuple_of, fun vs H R Q r n q => by
      obtain ⟨v, rfl, r1⟩ := reps1 r
      simp only [Rep] at r1
      obtain ⟨a, ws, rfl, _, hl, h1, h2⟩ := r1
      refine ⟨a, ws, rfl, .inl ⟨SqL.of h1, fun p np => q _ _ (same_new np) ?_⟩⟩
      simp only [Rep]
      exact ⟨p, ws, rfl, hl, .inl (.inl upd_same), h2.same (same_new np)⟩⟩
  · cases h
    exact ⟨_, call_tuple_of, fun vs H R Q r n q => by
      obtain ⟨v, rfl, r1⟩ := reps1 r
      have r0 := r1
      simp only [Rep] at r1
      obtain ⟨a, ws, rfl, hl, h1, h2⟩ := r1
      exact ⟨a, ws, rfl, .inr ⟨h1, q _ H (.refl H) r0⟩⟩⟩
  · cases h
/-- list(x) -/
def D.lstOf : List D → Option D
  | [.lst ds] => if ds.all D.flat then some (.lst ds) else none
  | [.tup ds] => if ds.all D.flat then some (.lst ds) else none
  | _ => none
theorem c_lstOf : CallOkF X (.type "list") D.lstOf := fun ds d h => by
  unfold D.lstOf at h
  split at h
  · split at h
    · rename_i hf
      cases h
      exact ⟨_, call_list_of, fun vs H R Q r n q => by
        obtain ⟨v, rfl, r1⟩ := reps1 r
        simp only [Rep] at r1
        obtain ⟨a, ws, rfl, _, hl, h1, h2⟩ := r1
        exact ⟨a, ws, rfl, .inl (SqL.of h1), fun p np => q _ _ [p] (same_new np) (own_new np hl hf h2) (by simp) fun a ha => by rw [List.mem_singleton.mp ha]; exact np⟩⟩
    · cases h
  · split at h
    · rename_i hf
      cases h
      exact ⟨_, call_list_of, fun vs H R Q r n q => by
        obtain ⟨v, rfl, r1⟩ := reps1 r
        simp only [Rep] at r1
        obtain ⟨a, ws, rfl, hl, h1, h2⟩ := r1
        exact ⟨a, ws, rfl, .inr h1, fun p np => q _ _ [p] (same_new np) (own_new np hl hf h2) (by simp) fun a ha => by rw [List.mem_singleton.mp ha]; exact np⟩⟩
    · cases h
  · cases h
end
end DL

/-! Calls, what is walked, comprehensions; statements over slots some of which own their lists. -/
namespace DL
open PySem PySem.Spec PyProof.Rows L2

mutual
theorem Own.dom {K : PySem.W.Frag} {P : Addr → Prop} {H : Hp} : ∀ {d : D} {v : V} {A : List Addr}, Own K P H d v A → Own K (fun a => P a ∧ H a ≠ none) H d v A
  | .non, _, _, h => by simpa only [Own] using h
  | .bl _, _, _, h => by simpa only [Own] using h
  | .int _, _, _, h => by simpa only [Own] using h
  | .str _, _, _, h => by simpa only [Own] using h
  | .tup ds, v, A, h => by
    simp only [Own] at h ⊢
    exact ⟨h.1, h.2.dom⟩
  | .scr ns, v, A, h => by
    simp only [Own] at h ⊢
    exact ⟨h.1, h.2.dom⟩
  | .lst ds, v, A, h => by
    simp only [Own] at h ⊢
    obtain ⟨a, vs, B, e, eA, hl, hs, hr⟩ := h
    exact ⟨a, vs, B, e, eA, hl, hs, Owns.dom hr⟩
  | .dct ks ds, v, A, h => by
    simp only [Own] at h ⊢
    obtain ⟨a, vs, B, e, eA, hl, hk, hs, hr⟩ := h
    exact ⟨a, vs, B, e, eA, hl, hk, hs, Owns.dom hr⟩
  | .obj C ns ds, v, A, h => by
    simp only [Own] at h ⊢
    obtain ⟨a, dx, vs, B, e, eA, hk, hs, hr⟩ := h
    exact ⟨a, dx, vs, B, e, eA, hk, hs, Owns.dom hr⟩
theorem Owns.dom {K : PySem.W.Frag} {P : Addr → Prop} {H : Hp} : ∀ {ds : List D} {vs : List V} {A : List Addr}, Owns K P H ds vs A → Owns K (fun a => P a ∧ H a ≠ none) H ds vs A
  | [], _, _, h => by simpa only [Owns] using h
  | d :: ds, vs, A, h => by
    simp only [Owns] at h ⊢
    obtain ⟨v, r, B, C, e, eA, h1, h2⟩ := h
    exact ⟨v, r, B, C, e, eA, Own.dom h1, Owns.dom h2⟩
end
theorem Owns.length {K : PySem.W.Frag} {P : Addr → Prop} {H : Hp} : ∀ {ds : List D} {vs : List V} {A : List Addr}, Owns K P H ds vs A → vs.length = ds.length
  | [], _, _, h => by simp only [Owns] at h; rw [h.1]; rfl
  | d :: ds, vs, A, h => by
    simp only [Owns] at h
    obtain ⟨v, r, B, C, rfl, _, _, h2⟩ := h
    rw [List.length_cons, List.length_cons, Owns.length h2]
theorem Owns.snoc {K : PySem.W.Frag} {P : Addr → Prop} {H : Hp} {y : D} {w : V} {C : List Addr} (k : Own K P H y w C) : ∀ {ds : List D} {vs : List V} {A : List Addr}, Owns K P H ds vs A → Owns K P H (ds ++ [y]) (vs ++ [w]) (A ++ C)
  | [], _, _, h => by
    simp only [Owns] at h
    obtain ⟨rfl, rfl⟩ := h
    show Owns K P H [y] [w] C
    simp only [Owns]
    exact ⟨w, [], C, [], rfl, by simp, k, rfl, rfl⟩
  | d :: ds, vs, A, h => by
    simp only [Owns] at h
    obtain ⟨v, r, B, C', rfl, rfl, h1, h2⟩ := h
    show Owns K P H (d :: (ds ++ [y])) (v :: (r ++ [w])) _
    simp only [Owns]
    exact ⟨v, r ++ [w], B, C' ++ C, rfl, by simp, h1, Owns.snoc k h2⟩

/-! ### a def's promise, its call -/
/-- called with data, a def that changes nothing gives F's answer in new lists -/
def spP [Tabs] (K : PySem.W.Frag) (n : Nat) (F : List D → Option D) : Sp := fun vs H Q _ => ∃ P ds d, ds.length = n ∧ Reps K P H ds vs ∧ (∀ a, H a = none → P a) ∧ F ds = some d ∧ (∀ p ∈ Tabs.T, TabOk H p) ∧
  ∀ v H' A, SameT H H' → Own K (fun a => P a ∧ a ∉ A) H' d v A → A.Nodup → (∀ a ∈ A, H a = none) → Q v H'
theorem spP_len [Tabs] {K : PySem.W.Frag} {n : Nat} {F : List D → Option D} : ∀ vs H Q E, spP K n F vs H Q E → vs.length = n := fun vs H Q E ⟨P, ds, d, h, r, _⟩ => by rw [r.length]; exact h
section
variable {X : Cx} {e a b c : Expr} {es : List Expr} {U U' U'' : List Nat} {f f' f'' : Ev} {fs : Es} {pos p : Pos} {x : Str}
theorem df_call [Tabs] {k n : Nat} {fa : Addr} {fd : FuncData} {ps : List Str} {g : List D → Option D} (F : FnOk X.prog X.w X.K X.mg X.base CX0 k fa fd ps (spP X.K n g)) (hn : ∀ ds d, g ds = some d → ds.length = n) (hr : Room k X.A) (hm : X.mg x = some (.ref fa)) (hk : PySem.W.keepIn X.K (.ref fa) = true) (hb : Binds X.K fd ps [])
    (ha : PA X (e :: es) (tA X.K U fs)) (hg : Gl X x := by rfl) (hdb : (x == ("__debug__" : Str)) = false := by decide) (he : starEach (e :: es) X.env = (false, eval e X.env) :: starEach es X.env := by rfl) (hpl : (backTo pos (starEach es X.env)).any (·.1) = false := by rfl) :
    PE X (.Call (.Name x p) (e :: es) [] pos) (tF X.K U (dN g fs)) := df_of fun ρ d h => by
  obtain ⟨ds, e1, e2⟩ := dN_some h
  exact ⟨_, pe_call F hr hg hm hk hb .nil pass0 ha hdb he hpl, fun σ H Pf R Q c q => ⟨ρ, Pf, R, ds, c, e1, fun vs H' s rr => by
    show spP X.K n g (vs ++ []) H' Q E0
    rw [List.append_nil]
    exact ⟨R, ds, d, hn ds d e2, rr, (c.same s).new, e2, (c.same s).tab, fun v H2 A s2 o n z => q v H2 A (s.trans s2) o n fun a ha => s.free (z a ha)⟩⟩⟩

/-! ### what is walked -/
def Yl (K : PySem.W.Frag) (R : Addr → Prop) (J : It) (ds : List D) (H : Hp) : Prop :=
  (∀ (i : Nat) d, ds[i]? = some d → J.go i H ∧ ∀ x H', J.yld i H x H' → SameT H H' ∧ Rep K R H' d x) ∧ (∀ i, ds.length ≤ i → J.stop i H)
def YS (K : PySem.W.Frag) (R : Addr → Prop) (J : It) (ds : List D) (H : Hp) : Prop := ∀ R' H', Tr R R' H H' → Yl K R' J ds H'
abbrev Ei := En → Option (List D)
def tI [Tabs] (K : PySem.W.Frag) (U : List Nat) (f : Ei) : TI := fun σ H Rr => ∃ ρ Pf R ds, Ctx K U Pf R σ ρ H ∧ f ρ = some ds ∧ ∀ J H', SameT H H' → ds.length ≤ sizeLine → YS K (fun a => R a ∧ H' a ≠ none) J ds H' → Rr J H'
def D.its : D → Option (List D)
  | .lst ds => some ds
  | .tup ds => some ds
  | .scr ns => if ns.length ≤ 16777216 then some (ns.map .int) else none
  | _ => none
def dItems (f : Ev) : Ei := fun ρ => (f ρ).bind D.its
theorem items_some {ρ : En} {ds : List D} (h : dItems f ρ = some ds) : ∃ d, f ρ = some d ∧ d.its = some ds := by
  unfold dItems at h
  cases q : f ρ with
  | none => rw [q] at h; cases h
  | some d => rw [q] at h; exact ⟨d, rfl, h⟩
theorem ys_list {K : PySem.W.Frag} {R : Addr → Prop} {H : Hp} {l : Addr} {vs : List V} {ds : List D} (hl : ∀ R' H', Tr R R' H H' → SqL K H' l vs) (uniq : ∀ R' H' xs, Tr R R' H H' → SqL K H' l xs → xs = vs) (r : Reps K R H ds vs) : YS K R (Itl K l) ds H := fun R' H' t => by
  have r' := r.tr t
  have s' := hl R' H' t
  refine ⟨fun i d e => ?_, fun i hi => ⟨vs, s', by rw [r.length]; exact hi⟩⟩
  obtain ⟨v, e1, e2⟩ := r'.get e
  refine ⟨⟨vs, v, s', e1⟩, fun x H2 y => ?_⟩
  obtain ⟨rfl, y⟩ := y
  have := y vs s'
  rw [e1] at this
  cases this
  exact ⟨.refl _, e2⟩
theorem ys_list' {K : PySem.W.Frag} {R : Addr → Prop} {H : Hp} {l : Addr} {vs : List V} {ds : List D} (hl : ∀ R' H', Tr R R' H H' → SqL K H' l vs) (r : Reps K R H ds vs) : YS K R (Itl K l) ds H := fun R' H' t => by
  have r' := r.tr t
  have s' := hl R' H' t
  refine ⟨fun i d e => ?_, fun i hi => ⟨vs, s', by rw [r.length]; exact hi⟩⟩
  obtain ⟨v, e1, e2⟩ := r'.get e
  refine ⟨⟨vs, v, s', e1⟩, fun x H2 y => ?_⟩
  obtain ⟨rfl, y⟩ := y
  have := y vs s'
  rw [e1] at this
  cases this
  exact ⟨.refl _, e2⟩
theorem ys_tup {K : PySem.W.Frag} {R : Addr → Prop} {H : Hp} {l : Addr} {vs : List V} {ds : List D} (hl : SqT K H l vs) (r : Reps K R H ds vs) : YS K R (Itt K l) ds H := fun R' H' t => by
  have r' := r.tr t
  have s' := t.tup hl
  refine ⟨fun i d e => ?_, fun i hi => ⟨vs, s', by rw [r.length]; exact hi⟩⟩
  obtain ⟨v, e1, e2⟩ := r'.get e
  refine ⟨⟨vs, v, s', e1⟩, fun x H2 y => ?_⟩
  obtain ⟨rfl, y⟩ := y
  have := y vs s'
  rw [e1] at this
  cases this
  exact ⟨.refl _, e2⟩
theorem scr_reps {K : PySem.W.Frag} {R : Addr → Prop} {H : Hp} : ∀ ns : List Int, Reps K R H (ns.map .int) (ns.map V.int)
  | [] => .nil
  | n :: ns => .cons (by simp only [Rep]) (scr_reps ns)
/-- over a list or a tuple -/
theorem di_seq [Tabs] {tg : Expr} (hl : PE X a (tD X.K U f)) : PI X tg a (tI X.K U (dItems f)) := ⟨fun pins s σ H Rr I ⟨ρ, Pf, R, ds, c, e, k⟩ => by
  obtain ⟨d, e1, e2⟩ := items_some e
  cases d with
  | lst xs =>
    cases e2
    refine (pi_list hl).run pins s σ H Rr I ⟨ρ, Pf, R, _, c, e1, fun v H' s' r => ?_⟩
    have r := r.dom
    simp only [Rep] at r
    obtain ⟨l, vs, rfl, hp, hz, h1, h2⟩ := r
    exact ⟨l, rfl, ⟨vs, SqL.of h1⟩, k _ H' s' hz (ys_list' (fun R' H2 t => SqL.of (t.h _ _ h1 trivial (.inl hp))) h2)⟩
  | tup xs =>
    cases e2
    refine (pi_tup hl).run pins s σ H Rr I ⟨ρ, Pf, R, _, c, e1, fun v H' s' r => ?_⟩
    have r := r.dom
    simp only [Rep] at r
    obtain ⟨l, vs, rfl, hz, h1, h2⟩ := r
    exact ⟨l, rfl, ⟨vs, h1⟩, k _ H' s' hz (ys_tup h1 h2)⟩
  | scr ns =>
    simp only [D.its] at e2
    split at e2
    · rename_i hz
      cases e2
      refine (pi_list hl).run pins s σ H Rr I ⟨ρ, Pf, R, _, c, e1, fun v H' s' r => ?_⟩
      simp only [Rep] at r
      obtain ⟨l, rfl, h1⟩ := r
      exact ⟨l, rfl, ⟨_, h1.seq⟩, k _ H' s' (by rw [List.length_map, sizeLine_lit]; exact hz) (ys_list' (fun R' H2 t => (t.scr h1).seq) (scr_reps ns))⟩
    · cases e2
  | non => cases e2
  | bl _ => cases e2
  | int _ => cases e2
  | str _ => cases e2
  | dct _ _ => cases e2
  | obj _ _ _ => cases e2⟩
def rangeD (lo : Int) (n : Nat) : List D := (List.range n).map fun (i : Nat) => .int (lo + (i : Int))
theorem rangeD_len (lo : Int) (n : Nat) : (rangeD lo n).length = n := by unfold rangeD; rw [List.length_map, List.length_range]
theorem ys_range {K : PySem.W.Frag} {R : Addr → Prop} {H : Hp} (lo : Int) (n : Nat) : YS K R (Itr lo n) (rangeD lo n) H := fun R' H' t => by
  have hlen : (rangeD lo n).length = n := by unfold rangeD; rw [List.length_map, List.length_range]
  refine ⟨fun i d e => ?_, fun i hi => by rw [hlen] at hi; exact hi⟩
  have hi : i < n := by
    have := (List.getElem?_eq_some_iff.mp e).1
    rw [hlen] at this; exact this
  refine ⟨hi, fun x H2 y => ?_⟩
  obtain ⟨rfl, rfl⟩ := y
  refine ⟨.refl _, ?_⟩
  unfold rangeD at e
  rw [List.getElem?_map, List.getElem?_range hi] at e
  cases e
  simp only [Rep]
def iRg1 (f : Ev) : Ei := fun ρ => (f ρ).bind fun d => match d with
  | .int j => if -(2 ^ 62) ≤ j ∧ j ≤ 16777216 then some (rangeD 0 j.toNat) else none
  | _ => none
def iRg2 (f f' : Ev) : Ei := fun ρ => (f ρ).bind fun d => (f' ρ).bind fun d' => match d, d' with
  | .int i, .int j => if (-(2 ^ 62) ≤ i ∧ i < 2 ^ 62) ∧ (-(2 ^ 62) ≤ j ∧ j < 2 ^ 62) ∧ j - i ≤ 16777216 then some (rangeD i (j - i).toNat) else none
  | _, _ => none
theorem di_range1 [Tabs] {tg : Expr} (hm : X.mg "range" = none) (ha : PE X a (tD X.K U f)) (hg : Gl X "range" := by rfl) (hs : starEach [a] X.env = [(false, eval a X.env)] := by rfl) : PI X tg (.Call (.Name "range" p) [a] [] pos) (tI X.K [] (iRg1 f)) := ⟨fun pins s σ H Rr I ⟨ρ, Pf, R, ds, c, e, k⟩ => by
  unfold iRg1 at e
  cases q : f ρ with
  | none => rw [q] at e; cases e
  | some d =>
    rw [q] at e
    simp only [Option.bind_some] at e
    split at e
    · rename_i j
      split at e
      · rename_i hj
        cases e
        refine (pi_range1 hg hm (pa_cons ha pa_nil hs) hs).run pins s σ H Rr I (one c q fun v H' s' r => ?_)
        simp only [Rep] at r
        subst r
        refine ⟨j, rfl, hj.1, Int.lt_of_le_of_lt hj.2 (by decide), k _ H' s' (by rw [rangeD_len, sizeLine_lit]; omega) (ys_range 0 _)⟩
      · cases e
    · cases e⟩
theorem di_range2 [Tabs] {tg : Expr} (hm : X.mg "range" = none) (ha : PE X a (tD X.K U f)) (hb : PE X b (tD X.K U' f')) (hg : Gl X "range" := by rfl) (hs : starEach [a, b] X.env = [(false, eval a X.env), (false, eval b X.env)] := by rfl) (hs2 : starEach [b] X.env = [(false, eval b X.env)] := by rfl) :
    PI X tg (.Call (.Name "range" p) [a, b] [] pos) (tI X.K [] (iRg2 f f')) := ⟨fun pins s σ H Rr I ⟨ρ, Pf, R, ds, c, e, k⟩ => by
  unfold iRg2 at e
  cases q : f ρ with
  | none => rw [q] at e; cases e
  | some d =>
    cases q' : f' ρ with
    | none => rw [q, q'] at e; cases e
    | some d' =>
      rw [q, q'] at e
      simp only [Option.bind_some] at e
      split at e
      · rename_i i j
        split at e
        · rename_i hj
          cases e
          refine (pi_range2 hg hm (pa_cons ha (pa_cons hb pa_nil hs2) (by rw [hs, hs2])) hs hs2).run pins s σ H Rr I (twoT c q q' fun v w H' s' r r' => ?_)
          simp only [Rep] at r r'
          subst r; subst r'
          exact ⟨i, j, rfl, ⟨hj.1.1, hj.1.2, hj.2.1.1, hj.2.1.2⟩, k _ H' s' (by rw [rangeD_len, sizeLine_lit]; omega) (ys_range _ _)⟩
        · cases e
      · cases e⟩

/-! ### targets -/
inductive Tg where
  | nm (i : Nat)
  | tp (is : List Nat)
def gNs : List Nat → TGs
  | [] => gNil
  | i :: is => gCons (gName i) (gNs is)
def Tg.g (K : PySem.W.Frag) : Tg → TG
  | .nm i => gName i
  | .tp is => gTup K is.length (gNs is)
def Tg.sl : Tg → List Nat
  | .nm i => [i]
  | .tp is => is
def setAll : List Nat → List D → En → En
  | i :: is, d :: ds, ρ => setAll is ds (ρ.set i (some d))
  | _, _, ρ => ρ
def Tg.set : Tg → D → En → Option En
  | .nm i, d, ρ => some (ρ.set i (some d))
  | .tp is, .tup ds, ρ => if ds.length = is.length then some (setAll is ds ρ) else none
  | _, _, _ => none
/-- at the slots W data stand -/
def EnvW (K : PySem.W.Frag) (R : Addr → Prop) (H : Hp) (W : List Nat) (σ : L2.St) (ρ : En) : Prop := ∀ j ∈ W, ∀ d, ρ[j]? = some (some d) → ∃ v, σ[j]? = some (some v) ∧ Rep K R H d v
theorem envW_set {K : PySem.W.Frag} {R : Addr → Prop} {H : Hp} {W : List Nat} {σ : L2.St} {ρ : En} {i : Nat} {d : D} {v : V} (hl : σ.length = ρ.length) (h : EnvW K R H W σ ρ) (r : Rep K R H d v) : EnvW K R H (i :: W) (σ.set i (some v)) (ρ.set i (some d)) := fun j hj d' e => by
  by_cases q : j = i
  · subst q
    have hj : j < ρ.length := by
      have := (List.getElem?_eq_some_iff.mp e).1
      simpa using this
    rw [List.getElem?_set_self hj] at e
    cases e
    exact ⟨v, List.getElem?_set_self (by rw [hl]; exact hj), r⟩
  · rw [List.getElem?_set_ne (Ne.symm q)] at e ⊢
    rcases List.mem_cons.mp hj with z | z
    · exact absurd z q
    · exact h j z d' e
theorem gNs_ok {K : PySem.W.Frag} {R : Addr → Prop} {H : Hp} {Q : L2.St → Hp → Prop} : ∀ (is : List Nat) {ds : List D} {vs : List V} {W : List Nat} {σ : L2.St} {ρ : En}, ds.length = is.length → Reps K R H ds vs → σ.length = ρ.length → EnvW K R H W σ ρ →
    (∀ σ', σ'.length = σ.length → (∀ j, j ∉ is → σ'[j]? = σ[j]?) → EnvW K R H (is ++ W) σ' (setAll is ds ρ) → Q σ' H) → gNs is vs σ H Q
  | [], ds, vs, W, σ, ρ, hl, r, _, h, k => by
    cases ds with
    | nil =>
      simp only [Reps] at r
      exact ⟨r, k σ rfl (fun _ _ => rfl) h⟩
    | cons _ _ => cases hl
  | i :: is, ds, vs, W, σ, ρ, hl, r, hs, h, k => by
    cases ds with
    | nil => cases hl
    | cons d ds =>
      simp only [Reps] at r
      obtain ⟨v, u, rfl, r1, r2⟩ := r
      refine ⟨v, u, rfl, ?_⟩
      show gNs is u (σ.set i (some v)) H Q
      refine gNs_ok is (W := i :: W) (ρ := ρ.set i (some d)) (by simpa using hl) r2 (by simpa using hs) (envW_set hs h r1) fun σ' q1 q2 q3 => k σ' (by simpa using q1) (fun j hj => ?_) ?_
      · rw [q2 j (fun z => hj (List.mem_cons_of_mem _ z)), List.getElem?_set_ne (fun z => hj (by rw [z]; exact List.mem_cons_self))]
      · intro j hj d' e
        refine q3 j ?_ d' e
        simp only [List.cons_append, List.mem_cons, List.mem_append] at hj ⊢
        rcases hj with z | z | z
        · exact .inr (.inl z)
        · exact .inl z
        · exact .inr (.inr z)
theorem setAll_out {j : Nat} : ∀ (is : List Nat) (ds : List D) (ρ : En), j ∉ is → (setAll is ds ρ)[j]? = ρ[j]?
  | [], ds, ρ, _ => by cases ds <;> rfl
  | i :: is, [], ρ, _ => rfl
  | i :: is, d :: ds, ρ, h => by
    show (setAll is ds (ρ.set i (some d)))[j]? = _
    rw [setAll_out is ds _ (fun z => h (List.mem_cons_of_mem _ z)), List.getElem?_set_ne (fun z => h (by rw [z]; exact List.mem_cons_self))]
theorem setAll_len : ∀ (is : List Nat) (ds : List D) (ρ : En), (setAll is ds ρ).length = ρ.length
  | [], ds, ρ => by cases ds <;> rfl
  | i :: is, [], ρ => rfl
  | i :: is, d :: ds, ρ => by
    show (setAll is ds (ρ.set i (some d))).length = _
    rw [setAll_len is ds, List.length_set]
theorem Tg.out {tg : Tg} {d : D} {ρ ρ' : En} (h : tg.set d ρ = some ρ') : ρ'.length = ρ.length ∧ ∀ j, j ∉ tg.sl → ρ'[j]? = ρ[j]? := by
  cases tg with
  | nm i =>
    cases h
    exact ⟨by simp, fun j hj => List.getElem?_set_ne (fun z => hj (by rw [z]; exact List.mem_cons_self))⟩
  | tp is =>
    cases d <;> simp only [Tg.set] at h <;> first | cases h | skip
    split at h
    · cases h
      exact ⟨setAll_len _ _ _, fun j hj => setAll_out is _ _ hj⟩
    · cases h
theorem Tg.ok {K : PySem.W.Frag} {R : Addr → Prop} {H : Hp} {Q : L2.St → Hp → Prop} {tg : Tg} {d : D} {v : V} {σ : L2.St} {ρ ρ' : En} (h : tg.set d ρ = some ρ') (r : Rep K R H d v) (hl : σ.length = ρ.length)
    (k : ∀ σ', σ'.length = σ.length → (∀ j, j ∉ tg.sl → σ'[j]? = σ[j]?) → EnvW K R H tg.sl σ' ρ' → Q σ' H) : tg.g K v σ H Q := by
  cases tg with
  | nm i =>
    cases h
    show Q (σ.set i (some v)) H
    refine k _ (by simp) (fun j hj => List.getElem?_set_ne (fun z => hj (by rw [z]; exact List.mem_cons_self))) ?_
    exact envW_set (W := []) hl (fun _ z => nomatch z) r
  | tp is =>
    cases d <;> simp only [Tg.set] at h <;> first | cases h | skip
    split at h
    · rename_i hd
      cases h
      simp only [Rep] at r
      obtain ⟨a, vs, rfl, _, h1, h2⟩ := r
      refine ⟨a, vs, rfl, h1, by rw [h2.length]; exact hd, ?_⟩
      refine gNs_ok is (W := []) hd h2 hl (fun _ z => nomatch z) fun σ' q1 q2 q3 => k σ' q1 q2 (by simpa [Tg.sl] using q3)
    · cases h

/-! ### comprehensions -/
def wipeE (ρ : En) : List Nat → En
  | [] => ρ
  | v :: vs => (wipeE ρ vs).set v none
theorem wipeE_some {ρ : En} {i : Nat} {d : D} : ∀ {vs : List Nat}, (wipeE ρ vs)[i]? = some (some d) → ρ[i]? = some (some d) ∧ i ∉ vs
  | [], h => ⟨h, by simp⟩
  | v :: vs, h => by
    unfold wipeE at h
    by_cases hi : v = i
    · subst hi
      by_cases hv : v < (wipeE ρ vs).length
      · rw [List.getElem?_set_self hv] at h; cases h
      · rw [List.getElem?_eq_none (by simpa using hv)] at h; cases h
    · rw [List.getElem?_set_ne hi] at h
      obtain ⟨h1, h2⟩ := wipeE_some h
      exact ⟨h1, by simp only [List.mem_cons, not_or]; exact ⟨fun e => hi e.symm, h2⟩⟩
theorem wipeE_len (ρ : En) : ∀ vs : List Nat, (wipeE ρ vs).length = ρ.length
  | [] => rfl
  | v :: vs => by unfold wipeE; rw [List.length_set, wipeE_len ρ vs]
theorem wipe_in {σ : L2.St} {i : Nat} : ∀ {vs : List Nat}, i ∈ vs → i < σ.length → (wipe σ vs)[i]? = some none
  | [], h, _ => nomatch h
  | v :: vs, h, hl => by
    unfold wipe
    by_cases q : v = i
    · subst q
      rw [List.getElem?_set_self (by rw [wipe_length]; exact hl)]
    · rw [List.getElem?_set_ne q]
      rcases List.mem_cons.mp h with z | z
      · exact absurd z.symm q
      · exact wipe_in z hl
theorem wipe_same {σ σ' : L2.St} {vs : List Nat} (hl : σ'.length = σ.length) (h : ∀ j, j ∉ vs → σ'[j]? = σ[j]?) : wipe σ' vs = wipe σ vs := by
  refine List.ext_getElem? fun j => ?_
  by_cases hj : j ∈ vs
  · by_cases hlt : j < σ.length
    · rw [wipe_in hj hlt, wipe_in hj (by rw [hl]; exact hlt)]
    · rw [List.getElem?_eq_none (by rw [wipe_length, hl]; omega), List.getElem?_eq_none (by rw [wipe_length]; omega)]
  · rw [wipe_out hj, wipe_out hj, h j hj]
/-- the items that a comprehension keeps -/
def lcL (tg : Tg) (t : Et) (f : Ev) (ρ : En) : List D → Option (List D)
  | [] => some []
  | d :: ds => (tg.set d ρ).bind fun ρ1 => (t ρ1).bind fun k => if k = true then (f ρ1).bind fun y => (lcL tg t f ρ ds).bind fun r => some (y :: r) else lcL tg t f ρ ds
def dLc (vs : List Nat) (g : Ei) (tg : Tg) (t : Et) (f : Ev) : Ev := fun ρ => (g ρ).bind fun ds => (lcL tg t f (wipeE ρ vs) ds).bind fun ys => some (.lst ys)
def tYs : Et := fun _ => some true
theorem dLc_some {vs : List Nat} {g : Ei} {tg : Tg} {t : Et} {f : Ev} {ρ : En} {d : D} (h : dLc vs g tg t f ρ = some d) : ∃ ds ys, g ρ = some ds ∧ lcL tg t f (wipeE ρ vs) ds = some ys ∧ d = .lst ys := by
  unfold dLc at h
  cases q : g ρ with
  | none => rw [q] at h; cases h
  | some ds =>
    rw [q] at h
    simp only [Option.bind_some] at h
    cases q2 : lcL tg t f (wipeE ρ vs) ds with
    | none => rw [q2] at h; cases h
    | some ys => rw [q2] at h; cases h; exact ⟨ds, ys, rfl, q2, rfl⟩
theorem lcL_cons {tg : Tg} {t : Et} {f : Ev} {ρ : En} {d : D} {ds r : List D} (h : lcL tg t f ρ (d :: ds) = some r) :
    ∃ ρ1 k, tg.set d ρ = some ρ1 ∧ t ρ1 = some k ∧ ((k = true ∧ ∃ y r', f ρ1 = some y ∧ lcL tg t f ρ ds = some r' ∧ r = y :: r') ∨ (k = false ∧ lcL tg t f ρ ds = some r)) := by
  simp only [lcL] at h
  cases q : tg.set d ρ with
  | none => rw [q] at h; cases h
  | some ρ1 =>
    rw [q] at h
    simp only [Option.bind_some] at h
    cases q1 : t ρ1 with
    | none => rw [q1] at h; cases h
    | some k =>
      rw [q1] at h
      refine ⟨ρ1, k, rfl, q1, ?_⟩
      cases k with
      | false => exact .inr ⟨rfl, by simpa using h⟩
      | true =>
        simp only [Option.bind_some, if_true] at h
        cases q2 : f ρ1 with
        | none => rw [q2] at h; cases h
        | some y =>
          rw [q2] at h
          simp only [Option.bind_some] at h
          cases q3 : lcL tg t f ρ ds with
          | none => rw [q3] at h; cases h
          | some r' => rw [q3] at h; cases h; exact .inl ⟨rfl, y, r', rfl, rfl, rfl⟩
theorem lcL_len {tg : Tg} {t : Et} {f : Ev} {ρ : En} : ∀ {ds r : List D}, lcL tg t f ρ ds = some r → r.length ≤ ds.length
  | [], r, h => by cases h; exact Nat.le_refl _
  | d :: ds, r, h => by
    obtain ⟨ρ1, k, _, _, ⟨_, y, r', _, q, rfl⟩ | ⟨_, q⟩⟩ := lcL_cons h
    · exact Nat.succ_le_succ (lcL_len q)
    · exact Nat.le_succ_of_le (lcL_len q)
theorem dt_yes [Tabs] : PTs X [] (tT X.K tYs) := ⟨fun pins s σ H Q I ⟨ρ, Pf, k, c, e, q⟩ => by
  cases e
  exact pts_nil.run pins s σ H Q I (q H (.refl H))⟩
theorem dt_one [Tabs] {t : Et} (h : PT X a (tT X.K t)) : PTs X [a] (tT X.K t) := pts_one h

/-- the state of a comprehension's loop -/
structure LcSt (K : PySem.W.Frag) (R : Addr → Prop) (H1 H : Hp) (L : Addr) (ys : List D) (i : Nat) (acc : List V) (A : List Addr) : Prop where
  at_ : H L = some (.lst acc)
  le : ys.length ≤ i
  same : SameT H1 H
  own : Owns K (fun a => (R a ∧ a ∉ L :: A) ∧ H a ≠ none) H ys acc A
  nd : (L :: A).Nodup
  new : ∀ a ∈ L :: A, H1 a = none
theorem lc_run [Tabs] {K : PySem.W.Frag} {vs : List Nat} {ds ys : List D} {J : It} {H1 : Hp} {tg : Tg} {t : Et} {fe : Ev} {Ue Ui : List Nat} {Pf : Nat → Addr → Prop} {R : Addr → Prop} {σ : L2.St} {ρ : En} {L : Addr} {Q : VK}
    (c : Ctx K Ui Pf R σ ρ H1) (hsl : ∀ i ∈ tg.sl, i ∈ vs) (hU : ∀ i ∈ Ue, i ∈ tg.sl ∨ i ∈ Ui) (hz : ds.length ≤ sizeLine) (hJ : YS K (fun a => R a ∧ H1 a ≠ none) J ds H1) (nL : H1 L = none) (e : lcL tg t fe (wipeE ρ vs) ds = some ys)
    (k : ∀ v H' A, SameT H1 H' → Own K (fun a => R a ∧ a ∉ A) H' (.lst ys) v A → A.Nodup → (∀ a ∈ A, H1 a = none) → Q v H') :
    ∃ W : Nat → Nat → Hp → Prop, (∃ m, W 0 m (upd H1 L (.lst []))) ∧ ∀ i m H, W i m H →
      (J.stop i H ∧ Q (.ref L) H) ∨ (J.go i H ∧ ∃ Nx : Hp → Prop, (∀ H', Nx H' → ∃ m', m' < m ∧ W (i + 1) m' H') ∧ ∀ x H', J.yld i H x H' → tg.g K x (wipe σ vs) H' fun σ2 H2 => wipe σ2 vs = wipe σ vs ∧ tT K t σ2 H2 fun b H3 =>
        if b = true then tF K Ue fe σ2 H3 fun y H4 => ∃ acc, H4 L = some (.lst acc) ∧ acc.length < sizeLine ∧ Nx (upd H4 L (.lst (acc ++ [y]))) else Nx H3) := by
  refine ⟨fun i m H => m = ds.length - i ∧ i ≤ ds.length ∧ ∃ yd r acc A, LcSt K R H1 H L yd i acc A ∧ lcL tg t fe (wipeE ρ vs) (ds.drop i) = some r ∧ ys = yd ++ r, ⟨_, rfl, Nat.zero_le _, [], ys, [], [], ⟨upd_same, Nat.le_refl _, same_new nL, by simp only [Owns]; exact ⟨trivial, trivial⟩, by simp, fun a ha => by rw [List.mem_singleton.mp ha]; exact nL⟩, by simpa using e, rfl⟩, ?_⟩
  rintro i m H ⟨rfl, hi, yd, r, acc, A, S, er, ey⟩
  have hdomL : ∀ a ∈ L :: A, H a ≠ none := fun a ha => by
    rcases List.mem_cons.mp ha with z | z
    · rw [z, S.at_]; exact fun z => nomatch z
    · exact mut_some (Owns.mut S.own a z)
  have tr : Tr (fun a => R a ∧ H1 a ≠ none) (fun a => R a ∧ a ∉ L :: A) H1 H := ⟨fun a h => ⟨h.1, fun z => h.2 (S.new a z)⟩, fun a o h n _ => S.same.k a o h n⟩
  have y := hJ _ _ tr
  by_cases hlt : i < ds.length
  · have hd : ds[i]? = some ds[i] := List.getElem?_eq_getElem hlt
    obtain ⟨hgo, hyl⟩ := y.1 i _ hd
    refine .inr ⟨hgo, fun H' => i < ds.length ∧ ∃ yd r acc A, LcSt K R H1 H' L yd (i + 1) acc A ∧ lcL tg t fe (wipeE ρ vs) (ds.drop (i + 1)) = some r ∧ ys = yd ++ r, fun H' h => ⟨ds.length - (i + 1), by omega, rfl, hlt, h.2⟩, fun x H' hy => ?_⟩
    obtain ⟨s1, rx⟩ := hyl x H' hy
    rw [List.drop_eq_getElem_cons hlt] at er
    obtain ⟨ρ1, kk, e1, e2, e3⟩ := lcL_cons er
    refine Tg.ok e1 rx (by rw [wipe_length, wipeE_len, c.len]) fun σ2 q1 q2 q3 => ⟨?_, ?_⟩
    · rw [wipe_same q1 (fun j hj => q2 j fun z => hj (hsl j z))]
      exact wipe_same (by rw [wipe_length]) (fun j hj => wipe_out hj)
    -- the context of the element
    have sH : SameT H1 H' := S.same.trans s1
    have ctx : ∀ {U : List Nat} {R' : Addr → Prop} {H2 : Hp}, SameT H' H2 → (∀ i ∈ U, i ∈ tg.sl ∨ i ∈ Ui) → (∀ a, R a → a ∉ L :: A → R' a) → (∀ a, H2 a = none → R' a) → Ctx K U (fun i a => if i ∈ tg.sl then R a ∧ a ∉ L :: A else Pf i a ∧ H1 a ≠ none) R' σ2 ρ1 H2 := fun {U R' H2} s2 hU' hR hN => by
      refine ⟨fun j d ej => ?_, fun j hj a ha => ?_, hN, by rw [q1, (Tg.out e1).1, wipe_length, wipeE_len, c.len], fun p hp => (c.tab p hp).same (sH.trans s2)⟩
      · by_cases hjs : j ∈ tg.sl
        · obtain ⟨v, g1, g2⟩ := q3 j hjs d ej
          refine ⟨v, g1, ?_⟩
          simp only [if_pos hjs]
          exact g2.same s2
        · rw [(Tg.out e1).2 j hjs] at ej
          obtain ⟨ej1, hjv⟩ := wipeE_some ej
          obtain ⟨v, g1, g2⟩ := c.env j d ej1
          refine ⟨v, ?_, ?_⟩
          · rw [q2 j hjs, wipe_out hjv]; exact g1
          · simp only [if_neg hjs]
            exact g2.dom.same (sH.trans s2)
      · by_cases hjs : j ∈ tg.sl
        · rw [if_pos hjs] at ha
          exact hR a ha.1 ha.2
        · rw [if_neg hjs] at ha
          rcases hU' j hj with z | z
          · exact absurd z hjs
          · exact hR a (c.use j z a ha.1) fun w => ha.2 (S.new a w)
    have own' : ∀ {H2 : Hp}, SameT H H2 → Owns K (fun a => (R a ∧ a ∉ L :: A) ∧ H2 a ≠ none) H2 yd acc A := fun {H2} s2 => (S.own.same s2).mono fun a h => ⟨h.1, fun z => h.2 (s2.free z)⟩
    refine ⟨ρ1, _, kk, (ctx (U := []) (R' := fun _ => True) (.refl H') (fun _ z => nomatch z) (fun _ _ _ => trivial) fun _ _ => trivial), e2, fun H3 s3 => ?_⟩
    rcases e3 with ⟨rfl, y0, r', e4, e5, rfl⟩ | ⟨rfl, e5⟩
    · refine iteT ⟨ρ1, _, fun a => R a ∧ a ∉ L :: A, y0, ctx s3 hU (fun a h h2 => ⟨h, h2⟩) (fun a h => ⟨c.new a (sH.free (s3.free h)), fun z => hdomL a z ((s1.trans s3).free h)⟩), e4, fun v H4 B s4 o4 n4 z4 => ?_⟩
      have s04 : SameT H H4 := (s1.trans s3).trans s4
      have hL4 : H4 L = some (.lst acc) := s04.k _ _ S.at_ trivial
      have accl : acc.length = yd.length := S.own.length
      have hB : ∀ a ∈ B, a ∉ L :: A := fun a ha z => hdomL a z ((s1.trans s3).free (z4 a ha))
      have hBL : L ∉ B := fun z => hB L z List.mem_cons_self
      have up : ∀ b o, b ≠ L → H4 b = some o → (upd H4 L (.lst (acc ++ [v]))) b = some o := fun b o hb h => by rw [upd_ne hb]; exact h
      refine ⟨acc, hL4, ?_, hlt, yd ++ [y0], r', acc ++ [v], A ++ B, ⟨upd_same, ?_, (S.same.trans s04).upd nL, ?_, ?_, ?_⟩, e5, ?_⟩
      · rw [accl]
        have : yd.length < ds.length := by have := S.le; omega
        omega
      · rw [List.length_append]; have := S.le; simp; omega
      · -- the new list's items
        have o1 := own' (s1.trans s3)
        have o2 := o4.dom
        refine Owns.snoc ?_ ?_
        · refine o2.tr ⟨fun a h => ?_, fun a o h _ q => ?_⟩ fun a ha o h _ => up a o (fun z => hBL (z ▸ ha)) h
          · obtain ⟨⟨⟨h1, h2⟩, h3⟩, h4⟩ := h
            refine ⟨⟨h1, fun z => ?_⟩, fun z => ?_⟩
            · rcases List.mem_cons.mp z with z | z
              · exact h2 (by rw [z]; exact List.mem_cons_self)
              · rcases List.mem_append.mp z with z | z
                · exact h2 (List.mem_cons_of_mem _ z)
                · exact h3 z
            · by_cases hb : a = L
              · exact h2 (by rw [hb]; exact List.mem_cons_self)
              · rw [upd_ne hb] at z; exact h4 z
          · refine up a o (fun z => ?_) h
            rcases q with q | q
            · exact q.1.1.2 (by rw [z]; exact List.mem_cons_self)
            · rw [z, hL4] at h; cases h; exact q trivial
        · refine o1.tr ⟨fun a h => ?_, fun a o h n q => ?_⟩ fun a ha o h n => up a o (fun z => ?_) (s4.k a o h n)
          · obtain ⟨⟨h1, h2⟩, h3⟩ := h
            have hb : a ≠ L := fun z => h2 (by rw [z]; exact List.mem_cons_self)
            refine ⟨⟨h1, fun z => ?_⟩, fun z => ?_⟩
            · rcases List.mem_cons.mp z with z | z
              · exact hb z
              · rcases List.mem_append.mp z with z | z
                · exact h2 (List.mem_cons_of_mem _ z)
                · exact h3 (z4 a z)
            · rw [upd_ne hb] at z; exact h3 (s4.free z)
          · refine up a o (fun z => ?_) (s4.k a o h n)
            rcases q with q | q
            · exact q.1.2 (by rw [z]; exact List.mem_cons_self)
            · rw [z, (s1.trans s3).k _ _ S.at_ trivial] at h; cases h; exact q trivial
          · rw [z] at ha; exact (List.nodup_cons.mp S.nd).1 ha
      · rw [show L :: (A ++ B) = (L :: A) ++ B from rfl, List.nodup_append]
        exact ⟨S.nd, n4, fun a ha b hb z => hB b hb (z ▸ ha)⟩
      · intro a ha
        rcases List.mem_cons.mp ha with z | z
        · rw [z]; exact nL
        · rcases List.mem_append.mp z with z | z
          · exact S.new a (List.mem_cons_of_mem _ z)
          · exact sH.free (s3.free (z4 a z))
      · rw [ey, List.append_assoc]; rfl
    · refine iteF ⟨hlt, yd, r, acc, A, ⟨(s1.trans s3).k _ _ S.at_ trivial, Nat.le_succ_of_le S.le, S.same.trans (s1.trans s3), own' (s1.trans s3), S.nd, S.new⟩, e5, ey⟩
  · have ei : i = ds.length := by omega
    subst ei
    refine .inl ⟨y.2 _ (Nat.le_refl _), ?_⟩
    rw [List.drop_length] at er
    cases er
    rw [List.append_nil] at ey
    subst ey
    refine k (.ref L) H (L :: A) S.same ?_ S.nd S.new
    simp only [Own]
    exact ⟨L, acc, A, rfl, rfl, Nat.le_trans S.le hz, S.at_, S.own.mono fun a h => h.1⟩

theorem df_lc [Tabs] {elt tg iter : Expr} {ifs : List Expr} {scope : Scope} {own : List (Str × Nat)} {g : Ei} {t : Et} {fe : Ev} {U U1 Ue : List Nat} (tgd : Tg) (hi : PI X tg iter (tI X.K U1 g)) (ok : BlkOk X.N X.env.scope scope own)
    (hg : ∀ (s : Shared) (H : Hp) (C : Addr) (cl : List (Str × Addr)) (fp : List Addr), PG (X.blk s H scope (compEnvC scope cl C X.env) fp) tg (tgd.g X.K)) (ht : ∀ (s : Shared) (H : Hp) (C : Addr) (cl : List (Str × Addr)) (fp : List Addr), PTs (X.blk s H scope (compEnvC scope cl C X.env) fp) ifs (tT X.K t))
    (he : ∀ (s : Shared) (H : Hp) (C : Addr) (cl : List (Str × Addr)) (fp : List Addr), PE (X.blk s H scope (compEnvC scope cl C X.env) fp) elt (tF X.K Ue fe)) (hN : X.N.Nodup) (hsl : ∀ i ∈ tgd.sl, i ∈ own.map (·.2) := by decide) (h1 : ∀ i ∈ U1, i ∈ U := by decide) (hU : ∀ i ∈ Ue, i ∈ tgd.sl ∨ i ∈ U := by decide) (hc : X.calm = true := by rfl)
    (hs : ∀ x, foldedSetIterable iter X.env x = pure x := by intro _; rfl) : PE X (.ListComp elt [⟨tg, iter, ifs, 0⟩] scope pos) (tF X.K U (dLc (own.map (·.2)) g tgd t fe)) := df_of fun ρ d h => by
  obtain ⟨ds, ys, e1, e2, rfl⟩ := dLc_some h
  refine ⟨_, pe_lc hc hN hi ok hg ht he hs, fun σ H Pf R Q c q => ⟨ρ, Pf, R, ds, c.sub h1, e1, fun J H1 s1 hz y L nL => lc_run (c.same s1) hsl hU hz y nL e2 fun v H' A s o n z => q v H' A (s1.trans s) o n fun a ha => s1.free (z a ha)⟩⟩
end
end DL

/-! Statements over slots, some of which (M) own their lists. -/
namespace DL
open PySem PySem.Spec PyProof.Rows L2

inductive Out where
  | nx (ρ : En)
  | br (ρ : En)
  | ct (ρ : En)
  | rt (d : D) (ρ : En)
abbrev Fs := En → Option Out
/-- a is owned by a slot -/
def Ow (M : List Nat) (As : Nat → List Addr) (a : Addr) : Prop := ∃ i ∈ M, a ∈ As i
structure StOk [Tabs] (K : PySem.W.Frag) (P : Addr → Prop) (M : List Nat) (σ : L2.St) (ρ : En) (H : Hp) (As : Nat → List Addr) : Prop where
  len : σ.length = ρ.length
  sh : ∀ (i : Nat) d, i ∉ M → ρ[i]? = some (some d) → ∃ v, σ[i]? = some (some v) ∧ Rep K (fun a => P a ∧ ¬ Ow M As a) H d v
  ow : ∀ (i : Nat), i ∈ M → ∀ d, ρ[i]? = some (some d) → ∃ v, σ[i]? = some (some v) ∧ Own K (fun a => P a ∧ ¬ Ow M As a) H d v (As i)
  em : ∀ i ∈ M, dV i ρ = none → As i = []
  nd : ∀ i ∈ M, (As i).Nodup
  dj : ∀ i ∈ M, ∀ j ∈ M, i ≠ j → ∀ a ∈ As i, a ∉ As j
  new : ∀ a, H a = none → P a
  inb : ∀ i ∈ M, i < ρ.length
  pw : ∀ i ∈ M, ∀ a ∈ As i, P a
  tab : ∀ p ∈ Tabs.T, TabOk H p
structure Step (M : List Nat) (H : Hp) (As : Nat → List Addr) (H' : Hp) (As' : Nat → List Addr) : Prop where
  fr : ∀ a o, H a = some o → NT o → ¬ Ow M As a → H' a = some o
  gr : ∀ a, Ow M As' a → Ow M As a ∨ H a = none
  dm : ∀ a, H a ≠ none → H' a ≠ none
  tb : ∀ b q, H b = some (.tbl q) → ∃ q', H' b = some (.tbl q') ∧ (TriplesOk q.toList → TriplesOk q'.toList)
theorem Step.refl {M : List Nat} {H : Hp} {As : Nat → List Addr} : Step M H As H As := ⟨fun _ _ h _ _ => h, fun _ h => .inl h, fun _ h => h, fun _ q h => ⟨q, h, id⟩⟩
theorem Step.same {M : List Nat} {H H' : Hp} {As : Nat → List Addr} (s : SameT H H') : Step M H As H' As := ⟨fun a o h n _ => s.k a o h n, fun _ h => .inl h, fun a h z => h (s.free z), s.tb⟩
theorem Step.trans {M : List Nat} {H H1 H2 : Hp} {As As1 As2 : Nat → List Addr} (x : Step M H As H1 As1) (y : Step M H1 As1 H2 As2) : Step M H As H2 As2 where
  fr := fun a o h t n => y.fr a o (x.fr a o h t n) t fun z => (x.gr a z).elim n fun w => by rw [h] at w; cases w
  tb := fun b q h => by
    obtain ⟨q1, h1, t1⟩ := x.tb b q h
    obtain ⟨q2, h2, t2⟩ := y.tb b q1 h1
    exact ⟨q2, h2, fun z => t2 (t1 z)⟩
  gr := fun a h => (y.gr a h).elim (x.gr a) fun w => by
    by_cases q : H a = none
    · exact .inr q
    · exact absurd w (x.dm a q)
  dm := fun a h => y.dm a (x.dm a h)
theorem dV_none {i : Nat} {ρ : En} : dV i ρ = none ↔ ∀ d, ρ[i]? ≠ some (some d) := by
  unfold dV
  cases q : ρ[i]? with
  | none => simp
  | some o => cases o with
    | none => simp
    | some d => simp

section
variable {K : PySem.W.Frag} {P P' : Addr → Prop} {M : List Nat} {σ σ' : L2.St} {ρ ρ' : En} {H H' H2 : Hp} {As : Nat → List Addr} {i : Nat} {d : D} {v : V}
theorem StOk.mut [Tabs] (s : StOk K P M σ ρ H As) {a : Addr} (h : Ow M As a) : Mut (H a) := by
  obtain ⟨i, hi, ha⟩ := h
  cases q : dV i ρ with
  | none => rw [s.em i hi q] at ha; cases ha
  | some d =>
    obtain ⟨v, _, o⟩ := s.ow i hi d (dV_at q)
    exact o.mut a ha
theorem StOk.tr [Tabs] (s : StOk K P M σ ρ H As) : Tr (fun a => P a ∧ ¬ Ow M As a) (fun a => P a ∧ ¬ Ow M As a) H H := .refl _ _
theorem StOk.same [Tabs] (s : StOk K P M σ ρ H As) (k : SameT H H') : StOk K P M σ ρ H' As :=
  ⟨s.len, fun i d hi e => let ⟨v, h1, h2⟩ := s.sh i d hi e; ⟨v, h1, h2.same k⟩, fun i hi d e => let ⟨v, h1, h2⟩ := s.ow i hi d e; ⟨v, h1, h2.same k⟩, s.em, s.nd, s.dj, fun a e => s.new a (k.free e), s.inb, s.pw, fun p hp => (s.tab p hp).same k⟩
/-- an expression runs here -/
theorem StOk.ctx [Tabs] {U : List Nat} (s : StOk K P M σ ρ H As) (hU : ∀ i ∈ U, i ∉ M) : Ctx K U (fun i a => i ∈ M ∨ (P a ∧ ¬ Ow M As a)) (fun a => P a ∧ ¬ Ow M As a) σ ρ H := by
  refine ⟨fun i d e => ?_, fun i hi a h => h.resolve_left (hU i hi), fun a e => ⟨s.new a e, fun z => mut_some (s.mut z) e⟩, s.len, s.tab⟩
  by_cases hi : i ∈ M
  · obtain ⟨v, h1, h2⟩ := s.ow i hi d e
    exact ⟨v, h1, h2.rep (fun a h => .inr h) fun a _ => .inl hi⟩
  · obtain ⟨v, h1, h2⟩ := s.sh i d hi e
    exact ⟨v, h1, h2.mono fun a h => .inr h⟩
theorem StOk.any [Tabs] (s : StOk K P M σ ρ H As) : Ctx K [] (fun i a => i ∈ M ∨ (P a ∧ ¬ Ow M As a)) (fun a => P a ∧ ¬ Ow M As a) σ ρ H := s.ctx fun _ z => nomatch z
theorem set_cases {α : Type} {xs : List (Option α)} {i j : Nat} {x d : α} (e : (xs.set i (some x))[j]? = some (some d)) : (j = i ∧ d = x ∧ i < xs.length) ∨ (j ≠ i ∧ xs[j]? = some (some d)) := by
  by_cases q : j = i
  · subst q
    have hj : j < xs.length := by
      have := (List.getElem?_eq_some_iff.mp e).1
      simpa using this
    rw [List.getElem?_set_self hj] at e
    cases e
    exact .inl ⟨rfl, rfl, hj⟩
  · rw [List.getElem?_set_ne (Ne.symm q)] at e
    exact .inr ⟨q, e⟩
/-- a shared slot is stored -/
theorem StOk.set [Tabs] (s : StOk K P M σ ρ H As) (hi : i ∉ M) (r : Rep K (fun a => P a ∧ ¬ Ow M As a) H d v) : StOk K P M (σ.set i (some v)) (ρ.set i (some d)) H As := by
  refine ⟨by simp [s.len], fun j d' hj e => ?_, fun j hj d' e => ?_, fun j hj e => s.em j hj ?_, s.nd, s.dj, s.new, fun j hj => by simpa using s.inb j hj, s.pw, s.tab⟩
  · rcases set_cases e with ⟨rfl, rfl, hl⟩ | ⟨q, e⟩
    · exact ⟨v, List.getElem?_set_self (by rw [s.len]; exact hl), r⟩
    · obtain ⟨w, h1, h2⟩ := s.sh j d' hj e
      exact ⟨w, by rw [List.getElem?_set_ne (Ne.symm q)]; exact h1, h2⟩
  · have q : j ≠ i := fun z => hi (z ▸ hj)
    rw [List.getElem?_set_ne (Ne.symm q)] at e
    obtain ⟨w, h1, h2⟩ := s.ow j hj d' e
    exact ⟨w, by rw [List.getElem?_set_ne (Ne.symm q)]; exact h1, h2⟩
  · have q : j ≠ i := fun z => hi (z ▸ hj)
    unfold dV at e ⊢
    rw [List.getElem?_set_ne (Ne.symm q)] at e
    exact e
def asSet (As : Nat → List Addr) (i : Nat) (A : List Addr) : Nat → List Addr := fun j => if j = i then A else As j
theorem ow_set {A : List Addr} {a : Addr} (h : Ow M (asSet As i A) a) : a ∈ A ∨ Ow M As a := by
  obtain ⟨j, hj, ha⟩ := h
  unfold asSet at ha
  by_cases q : j = i
  · rw [if_pos q] at ha; exact .inl ha
  · rw [if_neg q] at ha; exact .inr ⟨j, hj, ha⟩
theorem not_ow_set {A : List Addr} {a : Addr} (h : ¬ Ow M As a) (k : a ∉ A) : ¬ Ow M (asSet As i A) a := fun z => (ow_set z).elim k h
/-- a slot that owns its lists has changed -/
theorem StOk.putT [Tabs] {A : List Addr} (s : StOk K P M σ ρ H As) (hi : i ∈ M) (fr : ∀ a o, H a = some o → NT o → a ∉ As i → H2 a = some o) (tb : ∀ b q, H b = some (.tbl q) → ∃ q', H2 b = some (.tbl q') ∧ (TriplesOk q.toList → TriplesOk q'.toList)) (dm : ∀ a, H a ≠ none → H2 a ≠ none) (o : Own K (fun a => P a ∧ ¬ Ow M (asSet As i A) a) H2 d v A) (nd : A.Nodup) (gr : ∀ a ∈ A, a ∈ As i ∨ H a = none) :
    StOk K P M (σ.set i (some v)) (ρ.set i (some d)) H2 (asSet As i A) ∧ Step M H As H2 (asSet As i A) := by
  have offA : ∀ a, ¬ Ow M As a → H a ≠ none → a ∉ A := fun a n hd z => (gr a z).elim (fun w => n ⟨i, hi, w⟩) hd
  have trS : Tr (fun a => (P a ∧ ¬ Ow M As a) ∧ H a ≠ none) (fun a => P a ∧ ¬ Ow M (asSet As i A) a) H H2 := by
    refine ⟨fun a h => ⟨h.1.1, not_ow_set h.1.2 (offA a h.1.2 h.2)⟩, fun a o e t q => fr a o e t fun z => ?_⟩
    have om : Ow M As a := ⟨i, hi, z⟩
    rcases q with q | q
    · exact q.1.2 om
    · have := s.mut om
      rw [e] at this
      exact q this
  constructor
  · refine ⟨by simp [s.len], fun j d' hj e => ?_, fun j hj d' e => ?_, fun j hj e => ?_, fun j hj => ?_, fun j hj k hk hjk a ha => ?_, fun a e => s.new a (by
      by_cases q : H a = none
      · exact q
      · exact absurd e (dm a q)), fun j hj => by simpa using s.inb j hj, fun j hj a ha => by
      unfold asSet at ha
      by_cases q : j = i
      · rw [if_pos q] at ha
        exact (gr a ha).elim (s.pw i hi a) (s.new a)
      · rw [if_neg q] at ha
        exact s.pw j hj a ha, fun p hp => by
      obtain ⟨q, e, t⟩ := s.tab p hp
      obtain ⟨q', e', t'⟩ := tb p q e
      exact ⟨q', e', t' t⟩⟩
    · rcases set_cases e with ⟨rfl, _, _⟩ | ⟨q, e⟩
      · exact absurd hi hj
      · obtain ⟨w, h1, h2⟩ := s.sh j d' hj e
        exact ⟨w, by rw [List.getElem?_set_ne (Ne.symm q)]; exact h1, h2.dom.tr trS⟩
    · rcases set_cases e with ⟨rfl, rfl, hl⟩ | ⟨q, e⟩
      · refine ⟨v, List.getElem?_set_self (by rw [s.len]; exact hl), ?_⟩
        unfold asSet
        rw [if_pos rfl]
        exact o
      · obtain ⟨w, h1, h2⟩ := s.ow j hj d' e
        refine ⟨w, by rw [List.getElem?_set_ne (Ne.symm q)]; exact h1, ?_⟩
        have : asSet As i A j = As j := by unfold asSet; rw [if_neg q]
        rw [this]
        exact h2.dom.tr trS fun a ha o e t => fr a o e t (s.dj j hj i hi q a ha)
    · by_cases q : j = i
      · subst q
        -- the slot holds a datum, so it is no empty one; or it lies outside
        unfold asSet
        rw [if_pos rfl]
        unfold dV at e
        rw [List.getElem?_set_self (s.inb j hj)] at e
        cases e
      · have : asSet As i A j = As j := by unfold asSet; rw [if_neg q]
        rw [this]
        refine s.em j hj ?_
        unfold dV at e ⊢
        rw [List.getElem?_set_ne (Ne.symm q)] at e
        exact e
    · unfold asSet
      by_cases q : j = i
      · rw [if_pos q]; exact nd
      · rw [if_neg q]; exact s.nd j hj
    · have one : ∀ j ∈ M, j ≠ i → ∀ a ∈ As j, a ∉ A := fun j hj q a ha z => by
        rcases gr a z with w | w
        · exact s.dj j hj i hi q a ha w
        · exact mut_some (s.mut ⟨j, hj, ha⟩) w
      unfold asSet at ha ⊢
      by_cases q : j = i
      · rw [if_pos q] at ha
        have qk : k ≠ i := fun z => hjk (q.trans z.symm)
        rw [if_neg qk]
        exact fun z => one k hk qk a z ha
      · rw [if_neg q] at ha
        by_cases qk : k = i
        · rw [if_pos qk]; exact one j hj q a ha
        · rw [if_neg qk]; exact s.dj j hj k hk hjk a ha
  · refine ⟨fun a o e t n => fr a o e t fun z => n ⟨i, hi, z⟩, fun a h => ?_, dm, tb⟩
    rcases ow_set h with z | z
    · exact (gr a z).imp_left fun w => ⟨i, hi, w⟩
    · exact .inl z
theorem StOk.put [Tabs] {A : List Addr} (s : StOk K P M σ ρ H As) (hi : i ∈ M) (fr : ∀ a o, H a = some o → a ∉ As i → H2 a = some o) (dm : ∀ a, H a ≠ none → H2 a ≠ none) (o : Own K (fun a => P a ∧ ¬ Ow M (asSet As i A) a) H2 d v A) (nd : A.Nodup) (gr : ∀ a ∈ A, a ∈ As i ∨ H a = none) :
    StOk K P M (σ.set i (some v)) (ρ.set i (some d)) H2 (asSet As i A) ∧ Step M H As H2 (asSet As i A) :=
  s.putT hi (fun a o e _ n => fr a o e n) (fun b q e => ⟨q, fr b _ e fun z => by
    have := s.mut (a := b) ⟨i, hi, z⟩
    rw [e] at this
    exact this, id⟩) dm o nd gr

/-! ### the reading of a statement -/
/-- behind a statement -/
def Post [Tabs] (K : PySem.W.Frag) (P : Addr → Prop) (M L : List Nat) (E : Ends) (σ : L2.St) (H : Hp) (As : Nat → List Addr) : Out → Prop
  | .nx ρ' => ∀ σ' H' As', StOk K P M σ' ρ' H' As' → Step M H As H' As' → (∀ i ∈ L, σ'[i]? = σ[i]?) → E.nx σ' H'
  | .br ρ' => ∀ σ' H' As', StOk K P M σ' ρ' H' As' → Step M H As H' As' → (∀ i ∈ L, σ'[i]? = σ[i]?) → E.bk σ' H'
  | .ct ρ' => ∀ σ' H' As', StOk K P M σ' ρ' H' As' → Step M H As H' As' → (∀ i ∈ L, σ'[i]? = σ[i]?) → E.ct σ' H'
  | .rt d ρ' => ∀ v σ' H' As' B, StOk K (fun a => P a ∧ a ∉ B) M σ' ρ' H' As' → Own K (fun a => P a ∧ a ∉ B ∧ ¬ Ow M As' a) H' d v B → B.Nodup → (∀ a ∈ B, ¬ Ow M As' a) → Step M H As H' As' → (∀ a ∈ B, Ow M As a ∨ H a = none) → (∀ i ∈ L, σ'[i]? = σ[i]?) → E.rt v H'
def tS [Tabs] (K : PySem.W.Frag) (M L : List Nat) (F : Fs) : TS := fun E σ H => ∃ ρ P As o, StOk K P M σ ρ H As ∧ F ρ = some o ∧ Post K P M L E σ H As o
theorem Post.step [Tabs] {L : List Nat} {E : Ends} {As' : Nat → List Addr} {o : Out} (p : Post K P M L E σ H As o) (st : Step M H As H' As') (fx : ∀ i ∈ L, σ'[i]? = σ[i]?) : Post K P M L E σ' H' As' o := by
  cases o with
  | nx ρ' => exact fun σ2 H2 As2 s t f => p σ2 H2 As2 s (st.trans t) fun i hi => (f i hi).trans (fx i hi)
  | br ρ' => exact fun σ2 H2 As2 s t f => p σ2 H2 As2 s (st.trans t) fun i hi => (f i hi).trans (fx i hi)
  | ct ρ' => exact fun σ2 H2 As2 s t f => p σ2 H2 As2 s (st.trans t) fun i hi => (f i hi).trans (fx i hi)
  | rt d ρ' => exact fun v σ2 H2 As2 B s o n z t w f => p v σ2 H2 As2 B s o n z (st.trans t) (fun a ha => (w a ha).elim (st.gr a) fun q => by
      by_cases q0 : H a = none
      · exact .inr q0
      · exact absurd q (st.dm a q0)) fun i hi => (f i hi).trans (fx i hi)
/-- other ends -/
theorem Post.ends [Tabs] {L : List Nat} {E E' : Ends} {o : Out} (p : Post K P M L E σ H As o) (h1 : ∀ σ H, E.nx σ H → E'.nx σ H) (h2 : ∀ v H, E.rt v H → E'.rt v H) (h3 : ∀ σ H, E.bk σ H → E'.bk σ H) (h4 : ∀ σ H, E.ct σ H → E'.ct σ H) : Post K P M L E' σ H As o := by
  cases o with
  | nx ρ' => exact fun σ2 H2 As2 s t f => h1 _ _ (p σ2 H2 As2 s t f)
  | br ρ' => exact fun σ2 H2 As2 s t f => h3 _ _ (p σ2 H2 As2 s t f)
  | ct ρ' => exact fun σ2 H2 As2 s t f => h4 _ _ (p σ2 H2 As2 s t f)
  | rt d ρ' => exact fun v σ2 H2 As2 B s o n z t w f => h2 _ _ (p v σ2 H2 As2 B s o n z t w f)
end

section
variable {X : Cx} {e a b c : Expr} {U U' : List Nat} {f f' : Ev} {M L : List Nat} {F G : Fs} {st : Stmt} {rest : List Stmt} {pos : Pos} {i : Nat} {x : Str}
theorem ds_of [Tabs] (h : ∀ ρ o, F ρ = some o → ∃ t, PS X st t ∧ ∀ E σ H P As, StOk X.K P M σ ρ H As → Post X.K P M L E σ H As o → t E σ H) : PS X st (tS X.K M L F) :=
  ⟨fun pins s σ H E I ⟨ρ, P, As, o, c, e, k⟩ => let ⟨t, ht, hk⟩ := h ρ o e; ht.run pins s σ H E I (hk E σ H P As c k)⟩
theorem dss_of [Tabs] {sts : List Stmt} (h : ∀ ρ o, F ρ = some o → ∃ t, PSs X sts t ∧ ∀ E σ H P As, StOk X.K P M σ ρ H As → Post X.K P M L E σ H As o → t E σ H) : PSs X sts (tS X.K M L F) :=
  ⟨fun pins s σ H E I ⟨ρ, P, As, o, c, e, k⟩ => let ⟨t, ht, hk⟩ := h ρ o e; ht.run pins s σ H E I (hk E σ H P As c k)⟩
def sNil : Fs := fun ρ => some (.nx ρ)
def sSeq (F G : Fs) : Fs := fun ρ => (F ρ).bind fun o => match o with | .nx ρ' => G ρ' | o => some o
theorem dss_nil [Tabs] : PSs X [] (tS X.K M L sNil) := dss_of fun ρ o h => ⟨_, pss_nil, fun E σ H P As s p => by
  cases h
  exact p σ H As s .refl fun _ _ => rfl⟩
theorem dss_one [Tabs] (h : PS X st (tS X.K M L F)) : PSs X [st] (tS X.K M L F) := pss_one h
theorem dss_cons [Tabs] (h1 : PS X st (tS X.K M L F)) (h2 : PSs X rest (tS X.K M L G)) : PSs X (st :: rest) (tS X.K M L (sSeq F G)) := dss_of fun ρ o h => ⟨_, pss_cons h1 h2, fun E σ H P As s p => by
  unfold sSeq at h
  cases q : F ρ with
  | none => rw [q] at h; cases h
  | some o1 =>
    rw [q] at h
    simp only [Option.bind_some] at h
    cases o1 with
    | nx ρ1 => exact ⟨ρ, P, As, _, s, q, fun σ' H' As' s' t f => ⟨ρ1, P, As', o, s', h, p.step t f⟩⟩
    | br ρ1 => cases h; exact ⟨ρ, P, As, _, s, q, p⟩
    | ct ρ1 => cases h; exact ⟨ρ, P, As, _, s, q, p⟩
    | rt d ρ1 => cases h; exact ⟨ρ, P, As, _, s, q, p⟩⟩
/-- x = e, a slot that is shared -/
def sSet (i : Nat) (f : Ev) : Fs := fun ρ => (f ρ).bind fun d => some (.nx (ρ.set i (some d)))
theorem sSet_some {ρ : En} {o : Out} (h : sSet i f ρ = some o) : ∃ d, f ρ = some d ∧ o = .nx (ρ.set i (some d)) := by
  unfold sSet at h
  cases q : f ρ with
  | none => rw [q] at h; cases h
  | some d => rw [q] at h; cases h; exact ⟨d, rfl, rfl⟩
theorem fix_set {σ : L2.St} {v : Option V} (hL : i ∉ L) : ∀ j ∈ L, (σ.set i v)[j]? = σ[j]? := fun j hj => List.getElem?_set_ne (fun (z : i = j) => hL (by rw [z]; exact hj))
theorem set_run [Tabs] {E : Ends} {σ : L2.St} {H H' : Hp} {P : Addr → Prop} {As : Nat → List Addr} {ρ : En} {d : D} {v : V} (s : StOk X.K P M σ ρ H As) (p : Post X.K P M L E σ H As (.nx (ρ.set i (some d)))) (hi : i ∉ M) (hL : i ∉ L) (k : SameT H H') (r : Rep X.K (fun a => P a ∧ ¬ Ow M As a) H' d v) : gName i v σ H' E.nx :=
  p _ H' As ((s.same k).set hi r) (.same k) (fix_set hL)
theorem ds_set [Tabs] {pos' : Pos} (he : PE X e (tD X.K U f)) (hN : X.N.Nodup) (hi : X.N[i]? = some x := by rfl) (hx : Loc X.env.scope x := by first | exact Or.inl rfl | exact Or.inr rfl) (hM : i ∉ M := by decide) (hU : ∀ j ∈ U, j ∉ M := by decide) (hL : i ∉ L := by decide) (hs : swapsWith e (some (.Name x pos')) pos.line X.env = pure false := by rfl)
    (hf : X.fn x = true ∨ X.env.scope.names.lookup x = some .local := by first | exact .inl rfl | exact .inr rfl | assumption) : PS X (.Assign [.Name x pos'] e pos) (tS X.K M L (sSet i f)) := ds_of fun ρ o h => by
  obtain ⟨d, e1, rfl⟩ := sSet_some h
  exact ⟨_, ps_set hN hi hx he hs hf, fun E σ H P As s p => ⟨ρ, _, _, d, s.ctx hU, e1, fun v H' k r => set_run s p hM hL k r⟩⟩
/-- .. a comprehension on one line -/
theorem ds_setLc [Tabs] {elt tg iter : Expr} {ifs : List Expr} {scope : Scope} {py pc : Pos} {own : List (Str × Nat)} {g : Ei} {t : Et} {fe : Ev} {U1 Ue : List Nat} (U : List Nat) (tgd : Tg) (hi : PI X tg iter (tI X.K U1 g)) (ok : BlkOk X.N X.env.scope scope own)
    (hg : ∀ (s : Shared) (H : Hp) (C : Addr) (cl : List (Str × Addr)) (fp : List Addr), PG (X.blk s H scope (compEnvC scope cl C X.env) fp) tg (tgd.g X.K)) (ht : ∀ (s : Shared) (H : Hp) (C : Addr) (cl : List (Str × Addr)) (fp : List Addr), PTs (X.blk s H scope (compEnvC scope cl C X.env) fp) ifs (tT X.K t))
    (he : ∀ (s : Shared) (H : Hp) (C : Addr) (cl : List (Str × Addr)) (fp : List Addr), PE (X.blk s H scope (compEnvC scope cl C X.env) fp) elt (tF X.K Ue fe)) (hN : X.N.Nodup) (hsw : swapsWith (.ListComp elt [⟨tg, iter, ifs, 0⟩] scope pc) (some (.Name x py)) pos.line X.env = pure true)
    (hix : X.N[i]? = some x := by rfl) (hyl : X.env.scope.names.lookup x = some .local := by rfl) (hsl : ∀ i ∈ tgd.sl, i ∈ own.map (·.2) := by decide) (h1 : ∀ i ∈ U1, i ∈ U := by decide) (hU : ∀ i ∈ Ue, i ∈ tgd.sl ∨ i ∈ U := by decide)
    (hM : i ∉ M := by decide) (hUM : ∀ j ∈ U, j ∉ M := by decide) (hL : i ∉ L := by decide) (hc : X.calm = true := by rfl)
    (hs : ∀ x, foldedSetIterable iter X.env x = pure x := by intro _; rfl) : PS X (.Assign [.Name x py] (.ListComp elt [⟨tg, iter, ifs, 0⟩] scope pc) pos) (tS X.K M L (sSet i (dLc (own.map (·.2)) g tgd t fe))) := ds_of fun ρ o h => by
  obtain ⟨d, e1, rfl⟩ := sSet_some h
  obtain ⟨ds, ys, e2, e3, rfl⟩ := dLc_some e1
  refine ⟨_, ps_setLc hc hN hix hyl hsw hi ok hg ht he hs, fun E σ H P As s p => ?_⟩
  exact ⟨ρ, _, _, ds, (s.ctx hUM).sub h1, e2, fun J H1 s1 hz y L nL => lc_run ((s.ctx hUM).same s1) hsl hU hz y nL e3 fun v H' A k o n z => set_run s p hM hL (s1.trans k) (o.rep (fun a h => h.1) fun a ha => ((s.ctx hUM).same s1).new a (z a ha))⟩
/-- x = e, a slot that owns its lists -/
theorem own_run [Tabs] {E : Ends} {σ : L2.St} {H H' : Hp} {P : Addr → Prop} {As : Nat → List Addr} {ρ : En} {d : D} {v : V} {A : List Addr} (s : StOk X.K P M σ ρ H As) (p : Post X.K P M L E σ H As (.nx (ρ.set i (some d)))) (hi : i ∈ M) (hL : i ∉ L) (k : SameT H H')
    (o : Own X.K (fun a => (P a ∧ ¬ Ow M As a) ∧ a ∉ A) H' d v A) (n : A.Nodup) (z : ∀ a ∈ A, H a = none) : gName i v σ H' E.nx := by
  obtain ⟨s', t⟩ := s.putT hi (fun a o h n _ => k.k a o h n) k.tb (fun a h w => h (k.free w)) (o.mono fun a h => ⟨h.1.1, not_ow_set h.1.2 h.2⟩) n fun a ha => .inr (z a ha)
  exact p _ H' _ s' t (fix_set hL)
theorem ds_own [Tabs] {pos' : Pos} (he : PE X e (tF X.K U f)) (hN : X.N.Nodup) (hi : X.N[i]? = some x := by rfl) (hx : Loc X.env.scope x := by first | exact Or.inl rfl | exact Or.inr rfl) (hM : i ∈ M := by decide) (hU : ∀ j ∈ U, j ∉ M := by decide) (hL : i ∉ L := by decide) (hs : swapsWith e (some (.Name x pos')) pos.line X.env = pure false := by rfl)
    (hf : X.fn x = true ∨ X.env.scope.names.lookup x = some .local := by first | exact .inl rfl | exact .inr rfl | assumption) : PS X (.Assign [.Name x pos'] e pos) (tS X.K M L (sSet i f)) := ds_of fun ρ o h => by
  obtain ⟨d, e1, rfl⟩ := sSet_some h
  exact ⟨_, ps_set hN hi hx he hs hf, fun E σ H P As s p => ⟨ρ, _, _, d, s.ctx hU, e1, fun v H' A k o n z => own_run s p hM hL k o n z⟩⟩
theorem ds_ownLc [Tabs] {elt tg iter : Expr} {ifs : List Expr} {scope : Scope} {py pc : Pos} {own : List (Str × Nat)} {g : Ei} {t : Et} {fe : Ev} {U1 Ue : List Nat} (U : List Nat) (tgd : Tg) (hi : PI X tg iter (tI X.K U1 g)) (ok : BlkOk X.N X.env.scope scope own)
    (hg : ∀ (s : Shared) (H : Hp) (C : Addr) (cl : List (Str × Addr)) (fp : List Addr), PG (X.blk s H scope (compEnvC scope cl C X.env) fp) tg (tgd.g X.K)) (ht : ∀ (s : Shared) (H : Hp) (C : Addr) (cl : List (Str × Addr)) (fp : List Addr), PTs (X.blk s H scope (compEnvC scope cl C X.env) fp) ifs (tT X.K t))
    (he : ∀ (s : Shared) (H : Hp) (C : Addr) (cl : List (Str × Addr)) (fp : List Addr), PE (X.blk s H scope (compEnvC scope cl C X.env) fp) elt (tF X.K Ue fe)) (hN : X.N.Nodup) (hsw : swapsWith (.ListComp elt [⟨tg, iter, ifs, 0⟩] scope pc) (some (.Name x py)) pos.line X.env = pure true)
    (hix : X.N[i]? = some x := by rfl) (hyl : X.env.scope.names.lookup x = some .local := by rfl) (hsl : ∀ i ∈ tgd.sl, i ∈ own.map (·.2) := by decide) (h1 : ∀ i ∈ U1, i ∈ U := by decide) (hU : ∀ i ∈ Ue, i ∈ tgd.sl ∨ i ∈ U := by decide)
    (hM : i ∈ M := by decide) (hUM : ∀ j ∈ U, j ∉ M := by decide) (hL : i ∉ L := by decide) (hc : X.calm = true := by rfl)
    (hs : ∀ x, foldedSetIterable iter X.env x = pure x := by intro _; rfl) : PS X (.Assign [.Name x py] (.ListComp elt [⟨tg, iter, ifs, 0⟩] scope pc) pos) (tS X.K M L (sSet i (dLc (own.map (·.2)) g tgd t fe))) := ds_of fun ρ o h => by
  obtain ⟨d, e1, rfl⟩ := sSet_some h
  obtain ⟨ds, ys, e2, e3, rfl⟩ := dLc_some e1
  refine ⟨_, ps_setLc hc hN hix hyl hsw hi ok hg ht he hs, fun E σ H P As s p => ?_⟩
  exact ⟨ρ, _, _, ds, (s.ctx hUM).sub h1, e2, fun J H1 s1 hz y L nL => lc_run ((s.ctx hUM).same s1) hsl hU hz y nL e3 fun v H' A k o n z => own_run s p hM hL (s1.trans k) o n fun a ha => s1.free (z a ha)⟩
/-- e alone -/
def sDo (f : Ev) : Fs := fun ρ => (f ρ).bind fun _ => some (.nx ρ)
theorem ds_do [Tabs] (he : PE X e (tD X.K U f)) (hs : swapsWith e none pos.line X.env = pure false := by rfl) : PS X (.Expr e pos) (tS X.K M L (sDo f)) := ds_of fun ρ o h => by
  unfold sDo at h
  cases q : f ρ with
  | none => rw [q] at h; cases h
  | some d =>
    rw [q] at h
    cases h
    exact ⟨_, ps_expr he hs, fun E σ H P As s p => one (s.any) q fun v H' k r => p σ H' As (s.same k) (.same k) fun _ _ => rfl⟩
theorem ds_pass [Tabs] : PS X (.Pass pos) (tS X.K M L sNil) := ds_of fun ρ o h => ⟨_, ps_pass, fun E σ H P As s p => by cases h; exact p σ H As s .refl fun _ _ => rfl⟩
theorem ds_break [Tabs] : PS X (.Break pos) (tS X.K M L fun ρ => some (.br ρ)) := ds_of fun ρ o h => ⟨_, ps_break, fun E σ H P As s p => by cases h; exact p σ H As s .refl fun _ _ => rfl⟩
theorem ds_cont [Tabs] : PS X (.Continue pos) (tS X.K M L fun ρ => some (.ct ρ)) := ds_of fun ρ o h => ⟨_, ps_continue, fun E σ H P As s p => by cases h; exact p σ H As s .refl fun _ _ => rfl⟩
/-- return e, new lists -/
def sRet (f : Ev) : Fs := fun ρ => (f ρ).bind fun d => some (.rt d ρ)
theorem StOk.less [Tabs] {K : PySem.W.Frag} {P : Addr → Prop} {M : List Nat} {σ : L2.St} {ρ : En} {H H' : Hp} {As : Nat → List Addr} {B : List Addr} (s : StOk K P M σ ρ H As) (k : SameT H H') (z : ∀ a ∈ B, H a = none) (w : ∀ a ∈ B, H' a ≠ none) : StOk K (fun a => P a ∧ a ∉ B) M σ ρ H' As := by
  have t : Tr (fun a => (P a ∧ ¬ Ow M As a) ∧ H a ≠ none) (fun a => (P a ∧ a ∉ B) ∧ ¬ Ow M As a) H H' := ⟨fun a h => ⟨⟨h.1.1, fun q => h.2 (z a q)⟩, h.1.2⟩, fun a o h n _ => k.k a o h n⟩
  exact ⟨s.len, fun i d hi e => let ⟨v, h1, h2⟩ := s.sh i d hi e; ⟨v, h1, h2.dom.tr t⟩, fun i hi d e => let ⟨v, h1, h2⟩ := s.ow i hi d e; ⟨v, h1, h2.dom.tr t fun a _ o h n => k.k a o h n⟩, s.em, s.nd, s.dj, fun a e => ⟨s.new a (k.free e), fun q => w a q e⟩, s.inb, fun i hi a ha => ⟨s.pw i hi a ha, fun q => mut_some (s.mut ⟨i, hi, ha⟩) (z a q)⟩, fun p hp => (s.tab p hp).same k⟩
theorem ds_ret [Tabs] (he : PE X e (tF X.K U f)) (hU : ∀ j ∈ U, j ∉ M := by decide) : PS X (.Return (some e) pos) (tS X.K M L (sRet f)) := ds_of fun ρ o h => by
  unfold sRet at h
  cases q : f ρ with
  | none => rw [q] at h; cases h
  | some d =>
    rw [q] at h
    cases h
    exact ⟨_, ps_ret he, fun E σ H P As s p => ⟨ρ, _, _, d, s.ctx hU, q, fun v H' B k o n z => p v σ H' As B (s.less k z fun a ha => mut_some (o.mut a ha)) (o.mono fun a h => ⟨h.1.1, h.2, h.1.2⟩) n (fun a ha w => mut_some (s.mut w) (z a ha)) (.same k) (fun a ha => .inr (z a ha)) fun _ _ => rfl⟩⟩
/-- return x, x owns its lists -/
def sRetO (i : Nat) : Fs := fun ρ => (dV i ρ).bind fun d => some (.rt d (ρ.set i none))
theorem dV_set_none {i j : Nat} {ρ : En} : dV j (ρ.set i none) = if j = i then none else dV j ρ := by
  unfold dV
  by_cases q : j = i
  · subst q
    rw [if_pos rfl]
    by_cases hl : j < ρ.length
    · rw [List.getElem?_set_self hl]; rfl
    · rw [List.getElem?_eq_none (by simpa using hl)]; rfl
  · rw [if_neg q, List.getElem?_set_ne (Ne.symm q)]
theorem set_none {ρ : En} {i j : Nat} {d : D} (e : (ρ.set i none)[j]? = some (some d)) : j ≠ i ∧ ρ[j]? = some (some d) := by
  by_cases q : j = i
  · subst q
    by_cases hl : j < ρ.length
    · rw [List.getElem?_set_self hl] at e; cases e
    · rw [List.getElem?_eq_none (by simpa using hl)] at e; cases e
  · rw [List.getElem?_set_ne (Ne.symm q)] at e
    exact ⟨q, e⟩
/-- a slot's data are forgotten -/
theorem StOk.forget [Tabs] {K : PySem.W.Frag} {P : Addr → Prop} {M : List Nat} {σ : L2.St} {ρ : En} {H : Hp} {As : Nat → List Addr} (s : StOk K P M σ ρ H As) (i : Nat) : StOk K P M σ (ρ.set i none) H (asSet As i []) ∧ Step M H As H (asSet As i []) := by
  have sub : ∀ a, Ow M (asSet As i []) a → Ow M As a := fun a h => (ow_set h).elim (fun z => nomatch z) id
  have m : ∀ a, P a ∧ ¬ Ow M As a → P a ∧ ¬ Ow M (asSet As i []) a := fun a h => ⟨h.1, fun z => h.2 (sub a z)⟩
  refine ⟨⟨by simp [s.len], fun j d hj e => ?_, fun j hj d e => ?_, fun j hj e => ?_, fun j hj => ?_, fun j hj k hk hjk a ha z => ?_, s.new, fun j hj => by simpa using s.inb j hj, fun j hj a ha => by
      unfold asSet at ha
      by_cases q : j = i
      · rw [if_pos q] at ha; cases ha
      · rw [if_neg q] at ha; exact s.pw j hj a ha, s.tab⟩, ⟨fun a o e _ _ => e, fun a h => .inl (sub a h), fun _ h => h, fun _ q h => ⟨q, h, id⟩⟩⟩
  · obtain ⟨v, h1, h2⟩ := s.sh j d hj (set_none e).2
    exact ⟨v, h1, h2.mono m⟩
  · obtain ⟨q, e⟩ := set_none e
    obtain ⟨v, h1, h2⟩ := s.ow j hj d e
    refine ⟨v, h1, ?_⟩
    have : asSet As i [] j = As j := by unfold asSet; rw [if_neg q]
    rw [this]
    exact h2.mono m
  · unfold asSet
    by_cases q : j = i
    · rw [if_pos q]
    · rw [if_neg q]
      rw [dV_set_none, if_neg q] at e
      exact s.em j hj e
  · unfold asSet
    by_cases q : j = i
    · rw [if_pos q]; exact List.nodup_nil
    · rw [if_neg q]; exact s.nd j hj
  · unfold asSet at ha z
    by_cases q : j = i
    · rw [if_pos q] at ha; cases ha
    · rw [if_neg q] at ha
      by_cases q2 : k = i
      · rw [if_pos q2] at z; cases z
      · rw [if_neg q2] at z
        exact s.dj j hj k hk hjk a ha z
theorem ds_retO [Tabs] {pos' : Pos} (hi : X.N[i]? = some x := by rfl) (hv : Vis X.env.scope x := by first | exact Or.inl rfl | exact Or.inr (Or.inl rfl) | exact Or.inr (Or.inr rfl)) (hM : i ∈ M := by decide) (hd : (x == ("__debug__" : Str)) = false := by decide)
    (hcd : (x == ("__classdict__" : Str)) = false := by decide) : PS X (.Return (some (.Name x pos')) pos) (tS X.K M L (sRetO i)) := ds_of fun ρ o h => by
  unfold sRetO at h
  cases q : dV i ρ with
  | none => rw [q] at h; cases h
  | some d =>
    rw [q] at h
    cases h
    exact ⟨_, ps_ret (pv i hi hv hd hcd), fun E σ H P As s p => by
      obtain ⟨v, h1, h2⟩ := s.ow i hM d (dV_at q)
      obtain ⟨s', t⟩ := s.forget i
      have off : ∀ a ∈ As i, ¬ Ow M (asSet As i []) a := fun a ha ⟨j, hj, z⟩ => by
        unfold asSet at z
        by_cases q : j = i
        · rw [if_pos q] at z; cases z
        · rw [if_neg q] at z
          exact s.dj j hj i hM q a z ha
      have m : ∀ a, P a ∧ ¬ Ow M As a → (P a ∧ a ∉ As i) ∧ ¬ Ow M (asSet As i []) a := fun a h => ⟨⟨h.1, fun z => h.2 ⟨i, hM, z⟩⟩, fun z => h.2 ((ow_set z).elim (fun z => nomatch z) id)⟩
      refine ⟨v, h1, p v σ H (asSet As i []) (As i) ⟨s'.len, fun j d hj e => ?_, fun j hj d e => ?_, s'.em, s'.nd, s'.dj, fun a e => ⟨s.new a e, fun z => mut_some (s.mut ⟨i, hM, z⟩) e⟩, s'.inb, fun j hj a ha => ⟨s'.pw j hj a ha, fun z => off a z ⟨j, hj, ha⟩⟩, s'.tab⟩ (h2.mono fun a h => ⟨h.1, (m a h).1.2, (m a h).2⟩) (s.nd i hM) off t (fun a ha => .inl ⟨i, hM, ha⟩) fun _ _ => rfl⟩
      · obtain ⟨w, g1, g2⟩ := s.sh j d hj (set_none e).2
        exact ⟨w, g1, g2.mono m⟩
      · obtain ⟨q, e⟩ := set_none e
        obtain ⟨w, g1, g2⟩ := s.ow j hj d e
        have : asSet As i [] j = As j := by unfold asSet; rw [if_neg q]
        refine ⟨w, g1, ?_⟩
        rw [this]
        exact g2.mono m⟩
theorem ds_retN [Tabs] : PS X (.Return none pos) (tS X.K M L (sRet (dC .non))) := ds_of fun ρ o h => ⟨_, ps_retN, fun E σ H P As s p => by
  cases h
  exact p .non σ H As [] (s.less (.refl H) (fun _ z => nomatch z) fun _ z => nomatch z) (by simp only [Own]; exact ⟨trivial, trivial⟩) List.nodup_nil (fun _ z => nomatch z) .refl (fun _ z => nomatch z) fun _ _ => rfl⟩
def sIf (t : Et) (F G : Fs) : Fs := fun ρ => (t ρ).bind fun k => if k = true then F ρ else G ρ
theorem ds_if [Tabs] {c : Expr} {as bs : List Stmt} {t : Et} (hc : PT X c (tT X.K t)) (ha : PSs X as (tS X.K M L F)) (hb : PSs X bs (tS X.K M L G)) : PS X (.If c as bs pos) (tS X.K M L (sIf t F G)) := ds_of fun ρ o h => by
  unfold sIf at h
  cases q : t ρ with
  | none => rw [q] at h; cases h
  | some k =>
    rw [q] at h
    refine ⟨_, ps_if hc ha hb, fun E σ H P As s p => tT_k s.any q fun H' z => ?_⟩
    cases k with
    | true => exact iteT ⟨ρ, P, As, o, s.same z, h, p.step (.same z) fun _ _ => rfl⟩
    | false => exact iteF ⟨ρ, P, As, o, s.same z, h, p.step (.same z) fun _ _ => rfl⟩
end
end DL

/-! Statements: several targets, lists and dicts that grow, loops; a def's body. -/
namespace DL
open PySem PySem.Spec PyProof.Rows L2
section
variable {X : Cx} {e a b c : Expr} {U U' : List Nat} {f f' : Ev} {fs : Es} {M L : List Nat} {F G : Fs} {st : Stmt} {rest : List Stmt} {pos : Pos} {i : Nat} {x : Str}

theorem up_tb {H H' : Hp} {l : Addr} {xs : List V} {o : HO} (k : SameT H H') (h : H l = some (.lst xs)) : ∀ b q, H b = some (.tbl q) → ∃ q', upd H' l o b = some (.tbl q') ∧ (TriplesOk q.toList → TriplesOk q'.toList) := fun b q e => by
  obtain ⟨q', e', t⟩ := k.tb b q e
  exact ⟨q', by rw [upd_ne (fun z => by rw [z, h] at e; cases e)]; exact e', t⟩
/-! ### several targets -/
theorem StOk.tgt [Tabs] {K : PySem.W.Frag} {P : Addr → Prop} {σ σ' : L2.St} {ρ ρ' : En} {H : Hp} {As : Nat → List Addr} {tg : Tg} {d : D} (s : StOk K P M σ ρ H As) (h : tg.set d ρ = some ρ') (hM : ∀ i ∈ tg.sl, i ∉ M) (h1 : σ'.length = σ.length) (h2 : ∀ j, j ∉ tg.sl → σ'[j]? = σ[j]?) (h3 : EnvW K (fun a => P a ∧ ¬ Ow M As a) H tg.sl σ' ρ') : StOk K P M σ' ρ' H As := by
  obtain ⟨g1, g2⟩ := Tg.out h
  refine ⟨by rw [h1, g1, s.len], fun j d hj e => ?_, fun j hj d e => ?_, fun j hj e => s.em j hj ?_, s.nd, s.dj, s.new, fun j hj => by rw [g1]; exact s.inb j hj, s.pw, s.tab⟩
  · by_cases q : j ∈ tg.sl
    · exact h3 j q d e
    · rw [g2 j q] at e
      rw [h2 j q]
      exact s.sh j d hj e
  · have q : j ∉ tg.sl := fun z => hM j z hj
    rw [g2 j q] at e
    rw [h2 j q]
    exact s.ow j hj d e
  · have q : j ∉ tg.sl := fun z => hM j z hj
    unfold dV at e ⊢
    rw [g2 j q] at e
    exact e
def sTgt (tg : Tg) (f : Ev) : Fs := fun ρ => (f ρ).bind fun d => (tg.set d ρ).bind fun ρ' => some (.nx ρ')
theorem sTgt_some {tg : Tg} {ρ : En} {o : Out} (h : sTgt tg f ρ = some o) : ∃ d ρ', f ρ = some d ∧ tg.set d ρ = some ρ' ∧ o = .nx ρ' := by
  unfold sTgt at h
  cases q : f ρ with
  | none => rw [q] at h; cases h
  | some d =>
    rw [q] at h
    simp only [Option.bind_some] at h
    cases q2 : tg.set d ρ with
    | none => rw [q2] at h; cases h
    | some ρ' => rw [q2] at h; cases h; exact ⟨d, ρ', rfl, q2, rfl⟩
theorem ds_tgt [Tabs] {tg : Expr} (tgd : Tg) (he : PE X e (tD X.K U f)) (hg : PG X tg (tgd.g X.K)) (hM : ∀ i ∈ tgd.sl, i ∉ M := by decide) (hU : ∀ j ∈ U, j ∉ M := by decide) (hL : ∀ i ∈ tgd.sl, i ∉ L := by decide) (hs : swapsWithSole [tg] e pos.line X.env = pure false := by rfl) (hw : swappedStores [tg] e X.env = pure none := by rfl)
    (h1 : (assignEach [tg] X.env).map (·.2) = [assign tg X.env] := by rfl) : PS X (.Assign [tg] e pos) (tS X.K M L (sTgt tgd f)) := ds_of fun ρ o h => by
  obtain ⟨d, ρ', e1, e2, rfl⟩ := sTgt_some h
  refine ⟨_, ps_asg he hg hs hw h1, fun E σ H P As s p => ⟨ρ, _, _, d, s.ctx hU, e1, fun v H' k r => ?_⟩⟩
  refine Tg.ok e2 r s.len fun σ' q1 q2 q3 => p σ' H' As ((s.same k).tgt e2 hM q1 q2 q3) (.same k) fun i hi => q2 i fun z => hL i z hi
def sPar (i j : Nat) (fs : Es) : Fs := fun ρ => (fs ρ).bind fun ds => match ds with | [x, y] => some (.nx ((ρ.set i (some x)).set j (some y))) | _ => none
theorem ds_par [Tabs] {j : Nat} {y : Str} {px py pt : Pos} {kt k2 : Nat} {pt2 : Pos} (ha : PA X [a, b] (tA X.K U fs)) (hN : X.N.Nodup) (hi : X.N[i]? = some x := by rfl) (hj : X.N[j]? = some y := by rfl) (hij : i ≠ j := by decide) (hx : X.env.scope.names.lookup x = some .local := by rfl) (hy : X.env.scope.names.lookup y = some .local := by rfl)
    (hM : i ∉ M := by decide) (hMj : j ∉ M := by decide) (hU : ∀ j ∈ U, j ∉ M := by decide) (hL : i ∉ L := by decide) (hLj : j ∉ L := by decide) (hc : X.calm = true := by rfl)
    (hw : swappedStores [.Tuple [.Name x px, .Name y py] kt pt] (.Tuple [a, b] k2 pt2) X.env = pure (some [x, y]) := by rfl)
    (hs : swapsWithSole [.Tuple [.Name x px, .Name y py] kt pt] (.Tuple [a, b] k2 pt2) pos.line X.env = pure false := by rfl) :
    PS X (.Assign [.Tuple [.Name x px, .Name y py] kt pt] (.Tuple [a, b] k2 pt2) pos) (tS X.K M L (sPar i j fs)) := ds_of fun ρ o h => by
  unfold sPar at h
  cases q : fs ρ with
  | none => rw [q] at h; cases h
  | some ds =>
    rw [q] at h
    simp only [Option.bind_some] at h
    split at h
    · rename_i d d'
      cases h
      refine ⟨_, ps_par hc hN hi hj hij hx hy ha hw hs, fun E σ H P As s p => ⟨ρ, _, _, _, s.ctx hU, q, fun vs H' k r => ?_⟩⟩
      obtain ⟨v, w, rfl, r1, r2⟩ := reps2 r
      exact ⟨v, w, rfl, p _ H' As (((s.same k).set hM r1).set hMj r2) (.same k) fun n hn => (fix_set hLj n hn).trans (fix_set hL n hn)⟩
    · cases h

/-! ### a list that grows -/
theorem set_self {α : Type} {xs : List α} {i : Nat} {x : α} (h : xs[i]? = some x) : xs.set i x = xs := by
  refine List.ext_getElem? fun j => ?_
  by_cases q : j = i
  · subst q
    have hl := (List.getElem?_eq_some_iff.mp h).1
    rw [List.getElem?_set_self hl, h]
  · rw [List.getElem?_set_ne (Ne.symm q)]
def sApp (i : Nat) (f : Ev) : Fs := fun ρ => (dV i ρ).bind fun d => match d with
  | .lst ds => (f ρ).bind fun y => if ds.length < 16777216 then some (.nx (ρ.set i (some (.lst (ds ++ [y]))))) else none
  | _ => none
theorem sApp_some {ρ : En} {o : Out} (h : sApp i f ρ = some o) : ∃ ds y, dV i ρ = some (.lst ds) ∧ f ρ = some y ∧ ds.length < 16777216 ∧ o = .nx (ρ.set i (some (.lst (ds ++ [y])))) := by
  unfold sApp at h
  cases q : dV i ρ with
  | none => rw [q] at h; cases h
  | some d =>
    rw [q] at h
    simp only [Option.bind_some] at h
    split at h
    · rename_i ds
      cases q2 : f ρ with
      | none => rw [q2] at h; cases h
      | some y =>
        rw [q2] at h
        simp only [Option.bind_some] at h
        split at h
        · cases h; exact ⟨ds, y, rfl, rfl, by assumption, rfl⟩
        · cases h
    · cases h
theorem ds_app [Tabs] {cpos apos xpos : Pos} (he : PE X e (tF X.K U f)) (hi : X.N[i]? = some x := by rfl) (hv : Vis X.env.scope x := by first | exact Or.inl rfl | exact Or.inr (Or.inl rfl) | exact Or.inr (Or.inr rfl)) (hM : i ∈ M := by decide) (hU : ∀ j ∈ U, j ∉ M := by decide) (hd : (x == ("__debug__" : Str)) = false := by decide)
    (hcd : (x == ("__classdict__" : Str)) = false := by decide) (hp : ∀ t, PA X [e] t → PE X (.Call (.Attribute (.Name x xpos) "append" apos) [e] [] cpos) (tBM X.K "list" rAppend (tVar i) t)) (hse : starEach [e] X.env = (false, eval e X.env) :: starEach [] X.env := by rfl) (hs : swapsWith (.Call (.Attribute (.Name x xpos) "append" apos) [e] [] cpos) none pos.line X.env = pure false := by rfl) :
    PS X (.Expr (.Call (.Attribute (.Name x xpos) "append" apos) [e] [] cpos) pos) (tS X.K M L (sApp i f)) := ds_of fun ρ o h => by
  obtain ⟨ds, y, e1, e2, hl, rfl⟩ := sApp_some h
  refine ⟨_, ps_expr (hp _ (pa_cons he pa_nil hse)) hs, fun E σ H P As s p => ?_⟩
  obtain ⟨v, g1, g2⟩ := s.ow i hM _ (dV_at e1)
  have g0 := g2
  simp only [Own] at g2
  obtain ⟨l, vs, B, rfl, eA, hlen, hH, hB⟩ := g2
  refine ⟨.ref l, g1, .inl ⟨rfl, vs, SqL.of hH⟩, ρ, _, _, y, s.ctx hU, e2, fun w H' A k o n z => ?_⟩
  have hH' : H' l = some (.lst vs) := k.k _ _ hH trivial
  refine ⟨l, vs, w, rfl, rfl, hH', by rw [hB.length, sizeLine_lit]; exact hl, ?_⟩
  have hlA : l ∉ A := fun q => by rw [z l q] at hH; cases hH
  have hAs : ∀ a ∈ As i, H a ≠ none := fun a ha => mut_some (s.mut ⟨i, hM, ha⟩)
  have off : ∀ a, (P a ∧ ¬ Ow M As a) → a ∉ A → ¬ Ow M (asSet As i (l :: (B ++ A))) a := fun a h1 h2 => not_ow_set h1.2 fun q => by
    rcases List.mem_cons.mp q with q | q
    · exact h1.2 ⟨i, hM, by rw [eA, q]; exact List.mem_cons_self⟩
    · rcases List.mem_append.mp q with q | q
      · exact h1.2 ⟨i, hM, by rw [eA]; exact List.mem_cons_of_mem _ q⟩
      · exact h2 q
  have up : ∀ a o, a ≠ l → H' a = some o → (upd H' l (.lst (vs ++ [w]))) a = some o := fun a o h1 h2 => by rw [upd_ne h1]; exact h2
  have hlB : l ∉ B := by
    have := s.nd i hM
    rw [eA] at this
    exact (List.nodup_cons.mp this).1
  have offl : ∀ a, (P a ∧ ¬ Ow M As a) → a ≠ l := fun a h1 q => h1.2 ⟨i, hM, by rw [eA, q]; exact List.mem_cons_self⟩
  have new : Own X.K (fun a => P a ∧ ¬ Ow M (asSet As i (l :: (B ++ A))) a) (upd H' l (.lst (vs ++ [w]))) (.lst (ds ++ [y])) (.ref l) (l :: (B ++ A)) := by
    simp only [Own]
    refine ⟨l, vs ++ [w], B ++ A, rfl, rfl, by rw [List.length_append, sizeLine_lit]; simp; omega, upd_same, Owns.snoc ?_ ?_⟩
    · refine o.tr ⟨fun a h => ⟨h.1.1, off a h.1 h.2⟩, fun a o h _ q => up a o (fun w => ?_) h⟩ fun a ha o h _ => up a o (fun q => hlA (q ▸ ha)) h
      rcases q with q | q
      · exact offl a q.1 w
      · rw [w, hH'] at h; cases h; exact q trivial
    · refine hB.dom.tr ⟨fun a h => ⟨h.1.1, off a h.1 fun q => h.2 (z a q)⟩, fun a o h n q => up a o (fun w => ?_) (k.k _ _ h n)⟩ fun a ha o h n => up a o (fun q => hlB (q ▸ ha)) (k.k _ _ h n)
      rcases q with q | q
      · exact offl a q.1 w
      · rw [w, hH] at h; cases h; exact q trivial
  obtain ⟨s', t⟩ := s.putT (H2 := upd H' l (.lst (vs ++ [w]))) (d := .lst (ds ++ [y])) (v := .ref l) hM (fun a o h n q => up a o (fun w => q (by rw [eA, w]; exact List.mem_cons_self)) (k.k _ _ h n)) (up_tb k hH) (fun a h q => by
    by_cases w : a = l
    · rw [w, upd_same] at q; cases q
    · rw [upd_ne w] at q; exact h (k.free q)) new (by
      rw [show l :: (B ++ A) = (l :: B) ++ A from rfl, List.nodup_append, ← eA]
      exact ⟨s.nd i hM, n, fun a ha b hb q => hAs a ha (z a (q ▸ hb))⟩) fun a ha => by
      rcases List.mem_cons.mp ha with q | q
      · exact .inl (by rw [eA, q]; exact List.mem_cons_self)
      · rcases List.mem_append.mp q with q | q
        · exact .inl (by rw [eA]; exact List.mem_cons_of_mem _ q)
        · exact .inr (z a q)
  rw [set_self g1] at s'
  exact p σ _ _ s' t fun _ _ => rfl
/-- xs.extend(ys): the new items own nothing -/
def sExt (i : Nat) (f : Ev) : Fs := fun ρ => (dV i ρ).bind fun d => match d with
  | .lst ds => (f ρ).bind fun y => match y with
    | .lst es => if ds.length + es.length ≤ 16777216 ∧ es.all D.flat = true then some (.nx (ρ.set i (some (.lst (ds ++ es))))) else none
    | _ => none
  | _ => none
theorem sExt_some {ρ : En} {o : Out} (h : sExt i f ρ = some o) : ∃ ds es, dV i ρ = some (.lst ds) ∧ f ρ = some (.lst es) ∧ ds.length + es.length ≤ 16777216 ∧ es.all D.flat = true ∧ o = .nx (ρ.set i (some (.lst (ds ++ es)))) := by
  unfold sExt at h
  cases q : dV i ρ with
  | none => rw [q] at h; cases h
  | some d =>
    rw [q] at h
    simp only [Option.bind_some] at h
    split at h
    · rename_i ds
      cases q2 : f ρ with
      | none => rw [q2] at h; cases h
      | some y =>
        rw [q2] at h
        simp only [Option.bind_some] at h
        split at h
        · split at h
          · rename_i hh
            cases h; exact ⟨ds, _, rfl, rfl, hh.1, hh.2, rfl⟩
          · cases h
        · cases h
    · cases h
theorem Owns.app {K : PySem.W.Frag} {P : Addr → Prop} {H : Hp} {es : List D} {ws : List V} {C : List Addr} (k : Owns K P H es ws C) : ∀ {ds : List D} {vs : List V} {A : List Addr}, Owns K P H ds vs A → Owns K P H (ds ++ es) (vs ++ ws) (A ++ C)
  | [], vs, A, h => by
    simp only [Owns] at h
    obtain ⟨rfl, rfl⟩ := h
    exact k
  | d :: ds, vs, A, h => by
    simp only [Owns] at h
    obtain ⟨v, r, B, C', rfl, rfl, h1, h2⟩ := h
    show Owns K P H (d :: (ds ++ es)) (v :: (r ++ ws)) _
    simp only [Owns]
    exact ⟨v, r ++ ws, B, C' ++ C, rfl, by simp, h1, Owns.app k h2⟩
theorem ds_ext [Tabs] {cpos apos xpos : Pos} (he : PE X e (tD X.K U f)) (hi : X.N[i]? = some x := by rfl) (hv : Vis X.env.scope x := by first | exact Or.inl rfl | exact Or.inr (Or.inl rfl) | exact Or.inr (Or.inr rfl)) (hM : i ∈ M := by decide) (hU : ∀ j ∈ U, j ∉ M := by decide)
    (hp : ∀ t, PA X [e] t → PE X (.Call (.Attribute (.Name x xpos) "extend" apos) [e] [] cpos) (tBM X.K "list" rExtend (tVar i) t)) (hse : starEach [e] X.env = (false, eval e X.env) :: starEach [] X.env := by rfl) (hs : swapsWith (.Call (.Attribute (.Name x xpos) "extend" apos) [e] [] cpos) none pos.line X.env = pure false := by rfl) :
    PS X (.Expr (.Call (.Attribute (.Name x xpos) "extend" apos) [e] [] cpos) pos) (tS X.K M L (sExt i f)) := ds_of fun ρ o h => by
  obtain ⟨ds, es, e1, e2, hl, hf, rfl⟩ := sExt_some h
  refine ⟨_, ps_expr (hp _ (pa_cons he pa_nil hse)) hs, fun E σ H P As s p => ?_⟩
  obtain ⟨v, g1, g2⟩ := s.ow i hM _ (dV_at e1)
  simp only [Own] at g2
  obtain ⟨l, vs, B, rfl, eA, hlen, hH, hB⟩ := g2
  refine ⟨.ref l, g1, .inl ⟨rfl, vs, SqL.of hH⟩, ρ, _, _, .lst es, s.ctx hU, e2, fun w H' k r => ?_⟩
  have r := r.dom
  simp only [Rep] at r
  obtain ⟨b, ws, rfl, hPb, hz, hb, hws⟩ := r
  have hH' : H' l = some (.lst vs) := k.k _ _ hH trivial
  refine ⟨l, b, vs, ws, rfl, rfl, hH', hb, by rw [hB.length, hws.length, sizeLine_lit]; exact hl, ?_⟩
  have up : ∀ a o, a ≠ l → H' a = some o → (upd H' l (.lst (vs ++ ws))) a = some o := fun a o h1 h2 => by rw [upd_ne h1]; exact h2
  have hlB : l ∉ B := by
    have := s.nd i hM
    rw [eA] at this
    exact (List.nodup_cons.mp this).1
  have offl : ∀ a, (P a ∧ ¬ Ow M As a) → a ≠ l := fun a h1 q => h1.2 ⟨i, hM, by rw [eA, q]; exact List.mem_cons_self⟩
  have off : ∀ a, (P a ∧ ¬ Ow M As a) → ¬ Ow M (asSet As i (l :: B)) a := fun a h1 => not_ow_set h1.2 fun q => h1.2 ⟨i, hM, by rw [eA]; exact q⟩
  have new : Own X.K (fun a => P a ∧ ¬ Ow M (asSet As i (l :: B)) a) (upd H' l (.lst (vs ++ ws))) (.lst (ds ++ es)) (.ref l) (l :: B) := by
    simp only [Own]
    refine ⟨l, vs ++ ws, B, rfl, rfl, by rw [List.length_append, sizeLine_lit]; exact hl, upd_same, ?_⟩
    have := Owns.app (C := []) (ws := ws) (es := es) (K := X.K) (P := fun a => P a ∧ ¬ Ow M (asSet As i (l :: B)) a) (H := upd H' l (.lst (vs ++ ws))) (ds := ds) (vs := vs) (A := B) ?_ ?_
    · rw [List.append_nil] at this; exact this
    · refine (hws.owns hf).tr ⟨fun a h => ⟨h.1.1, off a h.1⟩, fun a o h _ q => up a o (fun w => ?_) h⟩ fun a ha => nomatch ha
      rcases q with q | q
      · exact offl a q.1 w
      · rw [w, hH'] at h; cases h; exact q trivial
    · refine hB.tr ⟨fun a h => ⟨h.1, off a h⟩, fun a o h n q => up a o (fun w => ?_) (k.k _ _ h n)⟩ fun a ha o h n => up a o (fun q => hlB (q ▸ ha)) (k.k _ _ h n)
      rcases q with q | q
      · exact offl a q w
      · rw [w, hH] at h; cases h; exact q trivial
  obtain ⟨s', t⟩ := s.putT (H2 := upd H' l (.lst (vs ++ ws))) (d := .lst (ds ++ es)) (v := .ref l) hM (fun a o h n q => up a o (fun w => q (by rw [eA, w]; exact List.mem_cons_self)) (k.k _ _ h n)) (up_tb k hH) (fun a h q => by
    by_cases w : a = l
    · rw [w, upd_same] at q; cases q
    · rw [upd_ne w] at q; exact h (k.free q)) new (by rw [← eA]; exact s.nd i hM) fun a ha => .inl (by rw [eA]; exact ha)
  rw [set_self g1] at s'
  exact p σ _ _ s' t fun _ _ => rfl

/-! ### forgetting -/
def fgt (is : List Nat) (ρ : En) : En := is.foldl (fun ρ i => ρ.set i none) ρ
theorem StOk.fgt [Tabs] {K : PySem.W.Frag} {P : Addr → Prop} {σ : L2.St} {H : Hp} : ∀ (is : List Nat) {ρ : En} {As : Nat → List Addr}, StOk K P M σ ρ H As → ∃ As', StOk K P M σ (fgt is ρ) H As' ∧ Step M H As H As'
  | [], ρ, As, s => ⟨As, s, .refl⟩
  | i :: is, ρ, As, s => by
    obtain ⟨s1, t1⟩ := s.forget i
    obtain ⟨As', s2, t2⟩ := StOk.fgt is s1
    exact ⟨As', s2, t1.trans t2⟩

/-! ### for -/
def forL (fg : List Nat) (tg : Tg) (B : Fs) : List D → En → Option Out
  | [], ρ => some (.nx (fgt fg ρ))
  | d :: ds, ρ => (tg.set d (fgt fg ρ)).bind fun ρ1 => (B ρ1).bind fun o => match o with
    | .nx ρ2 => forL fg tg B ds ρ2
    | .ct ρ2 => forL fg tg B ds ρ2
    | .br ρ2 => some (.nx (fgt fg ρ2))
    | .rt d ρ2 => some (.rt d ρ2)
theorem forL_cons {fg : List Nat} {tg : Tg} {B : Fs} {d : D} {ds : List D} {ρ : En} {o : Out} (h : forL fg tg B (d :: ds) ρ = some o) : ∃ ρ1 o1, tg.set d (fgt fg ρ) = some ρ1 ∧ B ρ1 = some o1 ∧
    (match o1 with
    | .nx ρ2 => forL fg tg B ds ρ2 = some o
    | .ct ρ2 => forL fg tg B ds ρ2 = some o
    | .br ρ2 => o = .nx (fgt fg ρ2)
    | .rt d ρ2 => o = .rt d ρ2) := by
  simp only [forL] at h
  cases q : tg.set d (fgt fg ρ) with
  | none => rw [q] at h; cases h
  | some ρ1 =>
    rw [q] at h
    simp only [Option.bind_some] at h
    cases q1 : B ρ1 with
    | none => rw [q1] at h; cases h
    | some o1 =>
      rw [q1] at h
      refine ⟨ρ1, o1, rfl, q1, ?_⟩
      cases o1 with
      | nx ρ2 => exact h
      | ct ρ2 => exact h
      | br ρ2 => cases h; rfl
      | rt d ρ2 => cases h; rfl
def sFor (fg : List Nat) (g : Ei) (tg : Tg) (B : Fs) : Fs := fun ρ => (g ρ).bind fun ds => forL fg tg B ds ρ
theorem ds_for [Tabs] {tg iter : Expr} {body : List Stmt} {g : Ei} {B : Fs} (fg : List Nat) (tgd : Tg) (hi : PI X tg iter (tI X.K U g)) (hg : PG X tg (tgd.g X.K)) (hb : PSs X body (tS X.K M L B)) (hp : PassesOwn (model X.prog X.w) X.A X.env X.xe := by exact PassesOwn.never)
    (hM : ∀ i ∈ tgd.sl, i ∉ M := by decide) (hU : ∀ j ∈ U, j ∉ M := by decide) (hL : ∀ i ∈ tgd.sl, i ∉ L := by decide) (hc : X.calm = true := by rfl) (hs : ∀ x, foldedSetIterable iter X.env x = pure x := by intro _; rfl) : PS X (.For tg iter body [] pos) (tS X.K M L (sFor fg g tgd B)) := ds_of fun ρ o h => by
  unfold sFor at h
  cases q : g ρ with
  | none => rw [q] at h; cases h
  | some ds =>
    rw [q] at h
    simp only [Option.bind_some] at h
    refine ⟨_, ps_for hp hc hi hg hb hs, fun E σ H P As s p => ⟨ρ, _, _, ds, s.ctx hU, q, fun J H1 k1 hz y => ?_⟩⟩
    refine ⟨fun n m σ2 H2 => m = ds.length - n ∧ n ≤ ds.length ∧ ∃ ρ2 As2, StOk X.K P M σ2 ρ2 H2 As2 ∧ Step M H1 As H2 As2 ∧ (∀ i ∈ L, σ2[i]? = σ[i]?) ∧ forL fg tgd B (ds.drop n) ρ2 = some o, ⟨_, rfl, Nat.zero_le _, ρ, As, s.same k1, .refl, fun _ _ => rfl, by simpa using h⟩, ?_⟩
    rintro n m σ2 H2 ⟨rfl, hn, ρ2, As2, s2, t2, f2, e2⟩
    have tr : Tr (fun a => (P a ∧ ¬ Ow M As a) ∧ H1 a ≠ none) (fun a => P a ∧ ¬ Ow M As2 a) H1 H2 := by
      refine ⟨fun a h => ⟨h.1.1, fun z => (t2.gr a z).elim h.1.2 h.2⟩, fun a o e n q => t2.fr a o e n fun z => ?_⟩
      rcases q with q | q
      · exact q.1.2 z
      · have := (s.same k1).mut z
        rw [e] at this
        exact q this
    have y2 := y _ _ tr
    have tA : Step M H As H2 As2 := (Step.same k1).trans t2
    by_cases hlt : n < ds.length
    · obtain ⟨hgo, hyl⟩ := y2.1 n _ (List.getElem?_eq_getElem hlt)
      rw [List.drop_eq_getElem_cons hlt] at e2
      obtain ⟨ρ3, o3, g1, g2, g3⟩ := forL_cons e2
      refine .inr ⟨hgo, fun σ' H' => n < ds.length ∧ ∃ ρ2 As2, StOk X.K P M σ' ρ2 H' As2 ∧ Step M H1 As H' As2 ∧ (∀ i ∈ L, σ'[i]? = σ[i]?) ∧ forL fg tgd B (ds.drop (n + 1)) ρ2 = some o, fun σ' H' h => ⟨ds.length - (n + 1), by omega, rfl, hlt, h.2⟩, fun v H3 hy => ?_⟩
      obtain ⟨k3, r3⟩ := hyl v H3 hy
      obtain ⟨As3, s3, t3⟩ := s2.fgt fg
      have r4 : Rep X.K (fun a => P a ∧ ¬ Ow M As3 a) H3 ds[n] v := by
        refine r3.dom.tr ⟨fun a h => ⟨h.1.1, fun z => (t3.gr a z).elim h.1.2 ?_⟩, fun a o h _ _ => h⟩
        exact fun w => by
          have z3 : Mut (H2 a) := s3.mut z
          rw [w] at z3
          exact z3
      refine Tg.ok g1 r4 s3.len fun σ4 q1 q2 q3 => ?_
      have s4 := (s3.same k3).tgt g1 hM q1 q2 q3
      have t4 : Step M H2 As2 H3 As3 := t3.trans (.same k3)
      have f4 : ∀ i ∈ L, σ4[i]? = σ[i]? := fun i hi => (q2 i fun z => hL i z hi).trans (f2 i hi)
      refine ⟨ρ3, P, As3, o3, s4, g2, ?_⟩
      cases o3 with
      | nx ρ5 => exact fun σ5 H5 As5 s5 t5 f5 => ⟨hlt, ρ5, As5, s5, (t2.trans t4).trans t5, fun i hi => (f5 i hi).trans (f4 i hi), g3⟩
      | ct ρ5 => exact fun σ5 H5 As5 s5 t5 f5 => ⟨hlt, ρ5, As5, s5, (t2.trans t4).trans t5, fun i hi => (f5 i hi).trans (f4 i hi), g3⟩
      | br ρ5 =>
        have g3 : o = .nx (DL.fgt fg ρ5) := g3
        subst g3
        exact fun σ5 H5 As5 s5 t5 f5 => by
          obtain ⟨As6, s6, t6⟩ := s5.fgt fg
          exact p σ5 H5 As6 s6 (((tA.trans t4).trans t5).trans t6) fun i hi => (f5 i hi).trans (f4 i hi)
      | rt d ρ5 =>
        have g3 : o = .rt d ρ5 := g3
        subst g3
        exact (p.step (tA.trans t4) f4 : Post X.K P M L E σ4 H3 As3 (.rt d ρ5))
    · have en : n = ds.length := by omega
      subst en
      refine .inl ⟨y2.2 _ (Nat.le_refl _), ?_⟩
      rw [List.drop_length] at e2
      cases e2
      obtain ⟨As3, s3, t3⟩ := s2.fgt fg
      exact p σ2 H2 As3 s3 (tA.trans t3) f2

/-! ### while -/
def whN (fg : List Nat) (t : Et) (B : Fs) : Nat → En → Option Out
  | 0, _ => none
  | n + 1, ρ => (t (fgt fg ρ)).bind fun k => if k = true then (B (fgt fg ρ)).bind fun o => match o with
      | .nx ρ2 => whN fg t B n ρ2
      | .ct ρ2 => whN fg t B n ρ2
      | .br ρ2 => some (.nx (fgt fg ρ2))
      | .rt d ρ2 => some (.rt d ρ2)
    else some (.nx (fgt fg ρ))
def sWh (n : Nat) (fg : List Nat) (t : Et) (B : Fs) : Fs := whN fg t B n
theorem ds_wh [Tabs] {c : Expr} {body : List Stmt} {t : Et} {B : Fs} (n : Nat) (fg : List Nat) (ht : PT X c (tT X.K t)) (hb : PSs X body (tS X.K M L B)) (hp : PassesOwn (model X.prog X.w) X.A X.env X.xe := by exact PassesOwn.never) : PS X (.While c body [] pos) (tS X.K M L (sWh n fg t B)) := ds_of fun ρ o h => by
  refine ⟨_, ps_while hp ht hb, fun E σ H P As s p => ?_⟩
  refine ⟨fun m σ2 H2 => ∃ ρ2 As2, StOk X.K P M σ2 ρ2 H2 As2 ∧ Step M H As H2 As2 ∧ (∀ i ∈ L, σ2[i]? = σ[i]?) ∧ whN fg t B m ρ2 = some o, ⟨n, ρ, As, s, .refl, fun _ _ => rfl, h⟩, ?_⟩
  rintro m σ2 H2 ⟨ρ2, As2, s2, t2, f2, e2⟩
  cases m with
  | zero => simp only [whN] at e2; cases e2
  | succ m =>
    simp only [whN] at e2
    obtain ⟨As3, s3, t3⟩ := s2.fgt fg
    cases q : t (fgt fg ρ2) with
    | none => rw [q] at e2; cases e2
    | some k =>
      rw [q] at e2
      refine tT_k s3.any q fun H' z => ?_
      have tt : Step M H As H' As3 := (t2.trans t3).trans (.same z)
      cases k with
      | false =>
        refine iteF ?_
        cases e2
        exact p σ2 H' As3 (s3.same z) tt f2
      | true =>
        simp only [Option.bind_some, if_true] at e2
        refine iteT ⟨fun σ' H' => ∃ ρ2 As2, StOk X.K P M σ' ρ2 H' As2 ∧ Step M H As H' As2 ∧ (∀ i ∈ L, σ'[i]? = σ[i]?) ∧ whN fg t B m ρ2 = some o, fun σ' H' h => ⟨m, Nat.lt_succ_self m, h⟩, ?_⟩
        cases q2 : B (fgt fg ρ2) with
        | none => rw [q2] at e2; cases e2
        | some o3 =>
          rw [q2] at e2
          simp only [Option.bind_some] at e2
          refine ⟨DL.fgt fg ρ2, P, As3, o3, s3.same z, q2, ?_⟩
          cases o3 with
          | nx ρ5 => exact fun σ5 H5 As5 s5 t5 f5 => ⟨ρ5, As5, s5, tt.trans t5, fun i hi => (f5 i hi).trans (f2 i hi), e2⟩
          | ct ρ5 => exact fun σ5 H5 As5 s5 t5 f5 => ⟨ρ5, As5, s5, tt.trans t5, fun i hi => (f5 i hi).trans (f2 i hi), e2⟩
          | br ρ5 =>
            cases e2
            exact fun σ5 H5 As5 s5 t5 f5 => by
              obtain ⟨As6, s6, t6⟩ := s5.fgt fg
              exact p σ5 H5 As6 s6 ((tt.trans t5).trans t6) fun i hi => (f5 i hi).trans (f2 i hi)
          | rt d ρ5 =>
            cases e2
            exact (p.step tt f2 : Post X.K P M L E σ2 H' As3 (.rt d ρ5))

/-! ### forgetting ahead of a block -/
theorem dss_fgt [Tabs] {sts : List Stmt} (is : List Nat) (h : PSs X sts (tS X.K M L F)) : PSs X sts (tS X.K M L fun ρ => F (fgt is ρ)) := dss_of fun ρ o e => ⟨_, h, fun E σ H P As s p => by
  obtain ⟨As', s', t⟩ := s.fgt is
  exact ⟨fgt is ρ, P, As', o, s', e, p.step t fun _ _ => rfl⟩⟩
end

/-! ### a def -/
def callF (n m : Nat) (F : Fs) (ds : List D) : Option D := if ds.length = n then match F (ds.map some ++ List.replicate m none) with
    | some (.rt d _) => some d
    | some (.nx _) => some .non
    | _ => none
  else none
theorem callF_len {n m : Nat} {F : Fs} : ∀ ds d, callF n m F ds = some d → ds.length = n := fun ds d h => by
  unfold callF at h
  by_cases q : ds.length = n
  · exact q
  · rw [if_neg q] at h; cases h
theorem start_ok [Tabs] {K : PySem.W.Frag} {P : Addr → Prop} {H : Hp} {ds : List D} {vs : List V} {N : List Str} {M : List Nat} (r : Reps K P H ds vs) (new : ∀ a, H a = none → P a) (tab : ∀ p ∈ Tabs.T, TabOk H p) (hN : ds.length ≤ N.length) (hM : ∀ i ∈ M, ds.length ≤ i ∧ i < N.length) : StOk K P M (L2.start N vs) (ds.map some ++ List.replicate (N.length - ds.length) none) H (fun _ => []) := by
  have no : ∀ a, ¬ Ow M (fun _ => ([] : List Addr)) a := fun a ⟨_, _, z⟩ => nomatch z
  have rl := r.length
  have out : ∀ (i : Nat) (d : D), (ds.map some ++ List.replicate (N.length - ds.length) none)[i]? = some (some d) → i < ds.length ∧ ds[i]? = some d := fun i d e => by
    by_cases q : i < ds.length
    · rw [List.getElem?_append_left (by simpa using q), List.getElem?_map] at e
      cases q2 : ds[i]? with
      | none => rw [q2] at e; cases e
      | some d' => rw [q2] at e; cases e; exact ⟨q, rfl⟩
    · rw [List.getElem?_append_right (by simpa using q), List.getElem?_replicate] at e
      split at e <;> cases e
  refine ⟨by unfold L2.start; simp [rl], fun i d _ e => ?_, fun i hi d e => ?_, fun _ _ _ => rfl, fun _ _ => List.nodup_nil, fun _ _ _ _ _ a ha => (nomatch ha), new, fun i hi => by have := hM i hi; simp; omega, fun _ _ a ha => (nomatch ha), tab⟩
  · obtain ⟨hi, e⟩ := out i d e
    obtain ⟨v, h1, h2⟩ := r.get e
    refine ⟨v, ?_, h2.mono fun a h => ⟨h, no a⟩⟩
    unfold L2.start
    rw [List.getElem?_append_left (by simp; omega), List.getElem?_map, h1]
    rfl
  · obtain ⟨h1, _⟩ := out i d e
    have := (hM i hi).1
    omega
section
variable {P : Program} {w : World} {K : PySem.W.Frag} {mg : Str → Option Value} {base : Heap}
/-- THE RULE for a def that changes nothing of its caller's -/
theorem fn_ok [Tabs] {x qual : Str} {st : Stmt} {f : Addr} {fd : FuncData} {N ps : List Str} {k n m : Nat} {M : List Nat} {F : Fs} (Fu : Fun K x qual st f fd) (S : FnScope N ps (defScope st))
    (hb : ∀ (cdv : Value) (A : Around) (outer : List Env) (s : Shared) (H : Hp) (E : XK), Room k (A.deeper (envOfC qual (defScope st) s.heap.objs.size f cdv)) → PSs (cxOf CX0 P w K mg base N qual (defScope st) f cdv A outer s H E).nox (defBody st) (tS K M [] F))
    (hn : ps.length = n := by rfl) (hm : N.length - n = m := by rfl) (hNl : n ≤ N.length := by decide) (hM : ∀ i ∈ M, n ≤ i ∧ i < N.length := by decide) : FnOk P w K mg base CX0 (k + 1) f fd ps (spP K n (callF n m F)) := by
  subst hn
  refine Fu.ok S spP_len fun cdv A outer s H vs Q E hr h => ⟨_, hb cdv A outer s H E hr, ?_⟩
  obtain ⟨P0, ds, d, hl, r, new, e, tab, q⟩ := h
  unfold callF at e
  rw [if_pos hl] at e
  cases z : F (ds.map some ++ List.replicate m none) with
  | none => rw [z] at e; cases e
  | some o =>
    rw [z] at e
    have s0 : StOk K P0 M (L2.start N vs) (ds.map some ++ List.replicate (N.length - ds.length) none) H (fun _ => []) := start_ok r new tab (by rw [hl]; exact hNl) fun i hi => by rw [hl]; exact hM i hi
    have no : ∀ a, ¬ Ow M (fun _ => ([] : List Addr)) a := fun a ⟨_, _, z⟩ => nomatch z
    have same : ∀ {H' As'}, Step M H (fun _ => []) H' As' → SameT H H' := fun t => ⟨fun b o h n => t.fr b o h n (no b), t.tb⟩
    refine ⟨_, P0, _, o, s0, by rw [hl, hm]; exact z, ?_⟩
    cases o with
    | rt d' ρ' =>
      cases e
      exact fun v σ' H' As' B s' o' n1 n2 t n3 _ => q v H' B (same t) (o'.mono fun a h => ⟨h.1, h.2.1⟩) n1 fun a ha => (n3 a ha).elim (fun w => (no a w).elim) id
    | nx ρ' =>
      cases e
      exact fun σ' H' As' s' t _ => q .non H' [] (same t) (by simp only [Own]; exact ⟨trivial, trivial⟩) List.nodup_nil fun _ z => nomatch z
    | br ρ' => cases e
    | ct ρ' => cases e
end
end DL

/-! Defs in bundles, built-ins that stand, freezing, dicts, repeated lists. -/
namespace DL
open PySem PySem.Spec PyProof.Rows L2

theorem _root_.L2.Room.hu1 {k : Nat} {A : Around} (r : Room k A) : A.units + 1 < cLine := by have := r.un; omega
theorem _root_.L2.Room.hu64 {k : Nat} {A : Around} (r : Room k A) : A.units + 64 < cLine := by have := r.un; omega
theorem _root_.L2.Room.hu100 {k : Nat} {A : Around} (r : Room k A) : A.units + 100 < cLine := by have := r.un; omega
theorem _root_.L2.Room.hu65 {k : Nat} {A : Around} (r : Room k A) : A.units + 65 < cLine := by have := r.un; omega
/-- the built-ins are not named anew -/
structure BI (mg : Str → Option Value) : Prop where
  len_ : mg "len" = none
  range_ : mg "range" = none
  max_ : mg "max" = none
  min_ : mg "min" = none
  int_ : mg "int" = none
  tuple_ : mg "tuple" = none
  list_ : mg "list" = none
  sorted_ : mg "sorted" = none
  sum_ : mg "sum" = none
  any_ : mg "any" = none
  all_ : mg "all" = none
  abs_ : mg "abs" = none
  set_ : mg "set" = none
  dict_ : mg "dict" = none
  enumerate_ : mg "enumerate" = none
  zip_ : mg "zip" = none
  str_ : mg "str" = none
  isinstance_ : mg "isinstance" = none
  iter_ : mg "iter" = none
/-- a def of the text that changes nothing of its caller's, as its callers want it -/
def Df [Tabs] (P : Program) (w : World) (K : PySem.W.Frag) (mg : Str → Option Value) (base : Heap) (k : Nat) (x : Str) (n : Nat) (g : List D → Option D) : Prop :=
  ∃ f fd ps, FnOk P w K mg base CX0 k f fd ps (spP K n g) ∧ (∀ ds d, g ds = some d → ds.length = n) ∧ mg x = some (.ref f) ∧ PySem.W.keepIn K (.ref f) = true ∧ L2.Binds K fd ps []
section
variable {X : Cx} {e a b c : Expr} {es : List Expr} {U U' U'' : List Nat} {f f' f'' : Ev} {fs : Es} {pos p : Pos} {x : Str} {M L : List Nat} {F : Fs} {i : Nat}
theorem df_callD [Tabs] {k n : Nat} {g : List D → Option D} (h : Df X.prog X.w X.K X.mg X.base k x n g) (hr : Room k X.A) (ha : PA X (e :: es) (tA X.K U fs)) (hg : Gl X x := by rfl) (hdb : (x == ("__debug__" : Str)) = false := by decide)
    (he : starEach (e :: es) X.env = (false, eval e X.env) :: starEach es X.env := by rfl) (hpl : (backTo pos (starEach es X.env)).any (·.1) = false := by rfl) : PE X (.Call (.Name x p) (e :: es) [] pos) (tF X.K U (dN g fs)) := by
  obtain ⟨f, fd, ps, F, hn, hm, hk, hb⟩ := h
  exact df_call F hn hr hm hk hb ha hg hdb he hpl

/-! ### new lists of things without lists: nothing flows -/
def D.newP : D → Bool
  | .lst ds => D.pures ds
  | d => d.pure
def dNewP (f : Ev) : Ev := fun ρ => (f ρ).bind fun d => if d.newP then some d else none
mutual
theorem Own.pure' {K : PySem.W.Frag} {P P' : Addr → Prop} {H : Hp} : ∀ {d : D} {v : V} {A : List Addr}, d.pure = true → Own K P H d v A → Own K P' H d v A
  | .non, _, _, _, h => by simpa only [Own] using h
  | .bl _, _, _, _, h => by simpa only [Own] using h
  | .int _, _, _, _, h => by simpa only [Own] using h
  | .str _, _, _, _, h => by simpa only [Own] using h
  | .tup ds, v, A, p, h => by
    simp only [Own] at h ⊢
    exact ⟨h.1, h.2.pure p⟩
  | .scr ns, v, A, p, h => by
    simp only [Own] at h ⊢
    exact ⟨h.1, h.2.pure p⟩
  | .lst _, _, _, p, _ => by simp only [D.pure] at p; cases p
  | .dct _ _, _, _, p, _ => by simp only [D.pure] at p; cases p
  | .obj _ _ _, _, _, p, _ => by simp only [D.pure] at p; cases p
theorem Owns.pure' {K : PySem.W.Frag} {P P' : Addr → Prop} {H : Hp} : ∀ {ds : List D} {vs : List V} {A : List Addr}, D.pures ds = true → Owns K P H ds vs A → Owns K P' H ds vs A
  | [], _, _, _, h => by simpa only [Owns] using h
  | d :: ds, vs, A, p, h => by
    simp only [Owns] at h ⊢
    simp only [D.pures, Bool.and_eq_true] at p
    obtain ⟨v, r, B, C, e, eA, h1, h2⟩ := h
    exact ⟨v, r, B, C, e, eA, Own.pure' p.1 h1, Owns.pure' p.2 h2⟩
end
theorem Own.newP {K : PySem.W.Frag} {P P' : Addr → Prop} {H : Hp} {d : D} {v : V} {A : List Addr} (p : d.newP = true) (h : Own K P H d v A) : Own K P' H d v A := by
  cases d with
  | lst ds =>
    simp only [Own] at h ⊢
    obtain ⟨a, vs, B, e, eA, hl, hs, hr⟩ := h
    exact ⟨a, vs, B, e, eA, hl, hs, hr.pure' p⟩
  | non => exact h.pure' p
  | bl _ => exact h.pure' p
  | int _ => exact h.pure' p
  | str _ => exact h.pure' p
  | tup _ => exact h.pure' p
  | dct _ _ => exact h.pure' p
  | obj _ _ _ => exact h.pure' p
  | scr _ => exact h.pure' p
theorem df_pure [Tabs] (h : PE X e (tF X.K U f)) : PE X e (tF X.K [] (dNewP f)) := pe_imp h fun σ H Q ⟨ρ, Pf, R, d, c, e, k⟩ => by
  unfold dNewP at e
  cases q : f ρ with
  | none => rw [q] at e; cases e
  | some d' =>
    rw [q] at e
    simp only [Option.bind_some] at e
    by_cases hf : d'.newP = true
    · rw [if_pos hf] at e
      cases e
      exact ⟨ρ, Pf, fun _ => True, _, c.top, q, fun v H' A s r n z => k v H' A s (r.newP hf) n z⟩
    · rw [if_neg hf] at e; cases e

/-! ### freezing: for the rest of a block a slot's lists are shared -/
def Out.en : Out → En
  | .nx ρ => ρ
  | .br ρ => ρ
  | .ct ρ => ρ
  | .rt _ ρ => ρ
def Out.fz (i : Nat) : Out → Out
  | .nx ρ => .nx (ρ.set i none)
  | .br ρ => .br (ρ.set i none)
  | .ct ρ => .ct (ρ.set i none)
  | .rt d ρ => .rt d (ρ.set i none)
def sFz (i : Nat) (F : Fs) : Fs := fun ρ => (F ρ).bind fun o => if i < o.en.length then some (o.fz i) else none
theorem StOk.freeze [Tabs] {K : PySem.W.Frag} {P : Addr → Prop} {M' : List Nat} {σ : L2.St} {ρ : En} {H : Hp} {As : Nat → List Addr} (s : StOk K P M σ ρ H As) (hM : ∀ j, j ∈ M' ↔ j ∈ M ∧ j ≠ i) : StOk K P M' σ ρ H As := by
  have sub : ∀ a, Ow M' As a → Ow M As a := fun a ⟨j, hj, h⟩ => ⟨j, ((hM j).mp hj).1, h⟩
  have m : ∀ a, P a ∧ ¬ Ow M As a → P a ∧ ¬ Ow M' As a := fun a h => ⟨h.1, fun z => h.2 (sub a z)⟩
  refine ⟨s.len, fun j d hj e => ?_, fun j hj d e => ?_, fun j hj e => s.em j ((hM j).mp hj).1 e, fun j hj => s.nd j ((hM j).mp hj).1, fun j hj k hk hjk => s.dj j ((hM j).mp hj).1 k ((hM k).mp hk).1 hjk, s.new, fun j hj => s.inb j ((hM j).mp hj).1, fun j hj => s.pw j ((hM j).mp hj).1, s.tab⟩
  · by_cases q : j ∈ M
    · have ji : j = i := by
        by_cases w : j = i
        · exact w
        · exact absurd ((hM j).mpr ⟨q, w⟩) hj
      subst ji
      obtain ⟨v, h1, h2⟩ := s.ow j q d e
      refine ⟨v, h1, h2.rep m fun a ha => ⟨s.pw j q a ha, fun ⟨k, hk, hak⟩ => ?_⟩⟩
      have hk' := (hM k).mp hk
      exact s.dj j q k hk'.1 (fun w => hk'.2 w.symm) a ha hak
    · obtain ⟨v, h1, h2⟩ := s.sh j d q e
      exact ⟨v, h1, h2.mono m⟩
  · obtain ⟨v, h1, h2⟩ := s.ow j ((hM j).mp hj).1 d e
    exact ⟨v, h1, h2.mono m⟩
theorem StOk.thaw [Tabs] {K : PySem.W.Frag} {P : Addr → Prop} {M' : List Nat} {σ : L2.St} {ρ : En} {H : Hp} {As : Nat → List Addr} (s : StOk K P M' σ ρ H As) (hM : ∀ j, j ∈ M' ↔ j ∈ M ∧ j ≠ i) (hi : i < ρ.length) : StOk K P M σ (ρ.set i none) H (asSet As i []) ∧ ∀ a, Ow M (asSet As i []) a → Ow M' As a := by
  have sub : ∀ a, Ow M (asSet As i []) a → Ow M' As a := fun a ⟨j, hj, h⟩ => by
    unfold asSet at h
    by_cases q : j = i
    · rw [if_pos q] at h; cases h
    · rw [if_neg q] at h; exact ⟨j, (hM j).mpr ⟨hj, q⟩, h⟩
  have m : ∀ a, P a ∧ ¬ Ow M' As a → P a ∧ ¬ Ow M (asSet As i []) a := fun a h => ⟨h.1, fun z => h.2 (sub a z)⟩
  have one : ∀ j, j ≠ i → asSet As i [] j = As j := fun j q => by unfold asSet; rw [if_neg q]
  have at_ : asSet As i [] i = [] := by unfold asSet; rw [if_pos rfl]
  refine ⟨⟨by simp [s.len], fun j d hj e => ?_, fun j hj d e => ?_, fun j hj e => ?_, fun j hj => ?_, fun j hj k hk hjk a ha z => ?_, s.new, fun j hj => ?_, fun j hj a ha => ?_, s.tab⟩, sub⟩
  · obtain ⟨q, e⟩ := set_none e
    obtain ⟨v, h1, h2⟩ := s.sh j d (fun w => hj ((hM j).mp w).1) e
    exact ⟨v, h1, h2.mono m⟩
  · obtain ⟨q, e⟩ := set_none e
    obtain ⟨v, h1, h2⟩ := s.ow j ((hM j).mpr ⟨hj, q⟩) d e
    exact ⟨v, h1, by rw [one j q]; exact h2.mono m⟩
  · by_cases q : j = i
    · rw [q, at_]
    · rw [one j q]
      rw [dV_set_none, if_neg q] at e
      exact s.em j ((hM j).mpr ⟨hj, q⟩) e
  · by_cases q : j = i
    · rw [q, at_]; exact List.nodup_nil
    · rw [one j q]; exact s.nd j ((hM j).mpr ⟨hj, q⟩)
  · by_cases q : j = i
    · rw [q, at_] at ha; cases ha
    · by_cases q2 : k = i
      · rw [q2, at_] at z; cases z
      · rw [one j q] at ha
        rw [one k q2] at z
        exact s.dj j ((hM j).mpr ⟨hj, q⟩) k ((hM k).mpr ⟨hk, q2⟩) hjk a ha z
  · by_cases q : j = i
    · rw [q]; simpa using hi
    · simpa using s.inb j ((hM j).mpr ⟨hj, q⟩)
  · by_cases q : j = i
    · rw [q, at_] at ha; cases ha
    · rw [one j q] at ha; exact s.pw j ((hM j).mpr ⟨hj, q⟩) a ha
theorem Step.thaw {M' : List Nat} {H H' : Hp} {As As' : Nat → List Addr} (t : Step M' H As H' As') (hM : ∀ j, j ∈ M' ↔ j ∈ M ∧ j ≠ i) (sub : ∀ a, Ow M (asSet As' i []) a → Ow M' As' a) : Step M H As H' (asSet As' i []) :=
  ⟨fun a o e q n => t.fr a o e q fun ⟨j, hj, h⟩ => n ⟨j, ((hM j).mp hj).1, h⟩, fun a h => (t.gr a (sub a h)).imp_left fun ⟨j, hj, h⟩ => ⟨j, ((hM j).mp hj).1, h⟩, t.dm, t.tb⟩
theorem dss_fz [Tabs] {sts : List Stmt} (i : Nat) (M' : List Nat) (h : PSs X sts (tS X.K M' L F)) (hM' : M' = M.filter (fun j => decide (j ≠ i)) := by rfl) (hi : i ∈ M := by decide) :
    PSs X sts (tS X.K M L (sFz i F)) := dss_of fun ρ o e => by
  have hM : ∀ j, j ∈ M' ↔ j ∈ M ∧ j ≠ i := fun j => by rw [hM', List.mem_filter, decide_eq_true_iff]
  refine ⟨_, h, fun E σ H P As s p => ?_⟩
  unfold sFz at e
  cases q : F ρ with
  | none => rw [q] at e; cases e
  | some o' =>
    rw [q] at e
    simp only [Option.bind_some] at e
    by_cases len : i < o'.en.length
    case neg => rw [if_neg len] at e; cases e
    rw [if_pos len] at e
    cases e
    refine ⟨ρ, P, As, o', s.freeze hM, q, ?_⟩
    cases o' with
    | nx ρ' =>
      intro σ' H' As' s' t f
      obtain ⟨s2, sub⟩ := s'.thaw hM len
      exact p σ' H' _ s2 (t.thaw hM sub) f
    | br ρ' =>
      intro σ' H' As' s' t f
      obtain ⟨s2, sub⟩ := s'.thaw hM len
      exact p σ' H' _ s2 (t.thaw hM sub) f
    | ct ρ' =>
      intro σ' H' As' s' t f
      obtain ⟨s2, sub⟩ := s'.thaw hM len
      exact p σ' H' _ s2 (t.thaw hM sub) f
    | rt d ρ' =>
      intro v σ' H' As' B s' o n n2 t w f
      obtain ⟨s2, sub⟩ := s'.thaw hM len
      exact p v σ' H' _ B s2 (o.mono fun a h => ⟨h.1, h.2.1, fun z => h.2.2 (sub a z)⟩) n (fun a ha z => n2 a ha (sub a z)) (t.thaw hM sub) (fun a ha => (w a ha).imp_left fun ⟨j, hj, h⟩ => ⟨j, ((hM j).mp hj).1, h⟩) f
end
end DL

/-! Dicts with int and text keys: get, item stored; a list repeated. -/
namespace DL
open PySem PySem.Spec PyProof.Rows L2
section
variable {X : Cx} {e a b c : Expr} {es : List Expr} {U U' U'' : List Nat} {f f' f'' : Ev} {fs : Es} {pos p : Pos} {x : Str} {M L : List Nat} {F : Fs} {i : Nat}

def dGet2 (f f' f'' : Ev) : Ev := fun ρ => (f ρ).bind fun d => match d with
  | .dct ks ds => (f' ρ).bind fun k => k.key.bind fun q => (f'' ρ).bind fun z => some ((dLook ks ds q).getD z)
  | _ => none
theorem get2_some {ρ : En} {d : D} (h : dGet2 f f' f'' ρ = some d) : ∃ ks ds k q z, f ρ = some (.dct ks ds) ∧ f' ρ = some k ∧ k.key = some q ∧ f'' ρ = some z ∧ d = (dLook ks ds q).getD z := by
  unfold dGet2 at h
  cases q : f ρ with
  | none => rw [q] at h; cases h
  | some d0 =>
    rw [q] at h
    simp only [Option.bind_some] at h
    split at h
    · rename_i ks ds
      cases q1 : f' ρ with
      | none => rw [q1] at h; cases h
      | some k =>
        rw [q1] at h
        simp only [Option.bind_some] at h
        cases q2 : k.key with
        | none => rw [q2] at h; cases h
        | some kk =>
          rw [q2] at h
          simp only [Option.bind_some] at h
          cases q3 : f'' ρ with
          | none => rw [q3] at h; cases h
          | some z => rw [q3] at h; cases h; exact ⟨ks, ds, k, kk, z, rfl, rfl, q2, rfl, rfl⟩
    · cases h
theorem de_get2 [Tabs] {apos cpos : Pos} (hu : X.A.units + 1 < cLine) (hd : PE X a (tD X.K U f)) (hk : PE X b (tD X.K U' f')) (hz : PE X c (tD X.K U'' f'')) (m : M2 X a "get" apos b c cpos := by exact ⟨rfl, rfl, rfl, rfl⟩) : PE X (.Call (.Attribute a "get" apos) [b, c] [] cpos) (tD X.K (U ++ U'') (dGet2 f f' f'')) := de_of fun ρ d h => by
  obtain ⟨ks, ds, k, q, z, e1, e2, e3, e4, rfl⟩ := get2_some h
  refine ⟨_, pe_dget2 hu hd hk hz m, fun σ H Pf R Q cc kk => ?_⟩
  refine ⟨ρ, Pf, R, _, cc.l, e1, fun v H1 s1 r1 => ?_⟩
  simp only [Rep] at r1
  obtain ⟨l, vs, rfl, hp, hl, hn, hH, hr⟩ := r1
  refine ⟨l, rfl, .inl ⟨_, .inl hH⟩, one (Ctx.same cc s1) e2 fun y H2 s2 r2 => ?_⟩
  refine ⟨ρ, Pf, R, z, ((cc.same s1).same s2).r, e4, fun w H3 s3 r3 => ?_⟩
  have g := DGet.k (k := q) ((s2.trans s3).k _ _ hH trivial)
  rw [valV_zip] at g
  rw [key_rep e3 r2]
  cases w1 : dLook ks ds q with
  | none =>
    rw [dLook_none hr w1] at g
    refine ⟨none, g, ?_⟩
    rw [w1] at kk
    exact kk w H3 ((s1.trans s2).trans s3) r3
  | some d1 =>
    obtain ⟨v1, g1, g2⟩ := dLook_rep hr w1
    rw [g1] at g
    refine ⟨some v1, g, ?_⟩
    rw [w1] at kk
    exact kk v1 H3 ((s1.trans s2).trans s3) (g2.same (s2.trans s3))

/-! ### d[k] = v, d a slot that owns its lists -/
def dRepl {α : Type} : List Key → List α → Key → α → List α
  | k :: ks, d :: ds, q, x => if k = q then x :: ds else d :: dRepl ks ds q x
  | _, _, _, _ => []
instance kDec (q : Key) (ks : List Key) : Decidable (q ∈ ks) := decidable_of_iff ((ks.any fun k => decide (k = q)) = true) (by simp)
def dPutK (ks : List Key) (q : Key) : List Key := if q ∈ ks then ks else ks ++ [q]
def dPutX {α : Type} (ks : List Key) (ds : List α) (q : Key) (x : α) : List α := if q ∈ ks then dRepl ks ds q x else ds ++ [x]
theorem dRepl_len {α : Type} : ∀ (ks : List Key) (ds : List α) (q : Key) (x : α), ks.length = ds.length → (dRepl ks ds q x).length = ds.length
  | [], [], _, _, _ => rfl
  | k :: ks, d :: ds, q, x, h => by
    simp only [dRepl]
    split
    · rfl
    · rw [List.length_cons, List.length_cons, dRepl_len ks ds q x (by simpa using h)]
theorem map_repl : ∀ (ks : List Key) (vs : List V) (q : Key) (x : V), ks.length = vs.length → ks.Nodup → (ks.zip vs).map (fun kv => if kv.1 = q then (kv.1, x) else kv) = ks.zip (dRepl ks vs q x)
  | [], [], _, _, _, _ => rfl
  | k :: ks, v :: vs, q, x, h, n => by
    obtain ⟨n1, n2⟩ := List.nodup_cons.mp n
    rw [List.zip_cons_cons, List.map_cons]
    simp only [dRepl]
    by_cases e : k = q
    · rw [if_pos e, if_pos e, List.zip_cons_cons]
      congr 1
      refine (List.map_congr_left fun kv hk => ?_).trans (List.map_id _)
      have : kv.1 ≠ q := fun w => n1 (by rw [e, ← w]; exact (List.of_mem_zip hk).1)
      rw [if_neg this]; rfl
    · rw [if_neg e, if_neg e, List.zip_cons_cons, map_repl ks vs q x (by simpa using h) n2]
theorem zip_any : ∀ (ks : List Key) (vs : List V) (q : Key), ks.length = vs.length → ((ks.zip vs).any fun kv => decide (kv.1 = q)) = decide (q ∈ ks)
  | [], [], _, _ => by simp
  | k :: ks, v :: vs, q, h => by
    rw [List.zip_cons_cons, List.any_cons, zip_any ks vs q (by simpa using h)]
    by_cases e : k = q
    · subst e; simp
    · rw [decide_eq_false e, Bool.false_or]
      by_cases w : q ∈ ks
      · rw [decide_eq_true w, decide_eq_true (List.mem_cons_of_mem _ w)]
      · rw [decide_eq_false w, decide_eq_false]
        exact fun z => (List.mem_cons.mp z).elim (fun z => e z.symm) w
theorem putK_zip (ks : List Key) (vs : List V) (q : Key) (x : V) (h : ks.length = vs.length) (n : ks.Nodup) : putK (ks.zip vs) q x = (dPutK ks q).zip (dPutX ks vs q x) := by
  unfold putK dPutK dPutX
  rw [zip_any ks vs q h]
  by_cases w : q ∈ ks
  · rw [if_pos (decide_eq_true w), if_pos w, if_pos w]
    exact map_repl ks vs q x h n
  · rw [if_neg (by rw [decide_eq_false w]; exact Bool.false_ne_true), if_neg w, if_neg w]
    rw [List.zip_append h]
    rfl
theorem dPutK_nd {ks : List Key} {q : Key} (n : ks.Nodup) : (dPutK ks q).Nodup := by
  unfold dPutK
  split
  · exact n
  · rename_i w
    rw [List.nodup_append]
    exact ⟨n, by simp, fun a ha b hb z => w (by rw [List.mem_singleton.mp hb] at z; rw [← z]; exact ha)⟩
theorem dPut_len {α : Type} {ks : List Key} {ds : List α} {q : Key} {x : α} (h : ks.length = ds.length) : (dPutK ks q).length = (dPutX ks ds q x).length := by
  unfold dPutK dPutX
  split
  · rw [dRepl_len _ _ _ _ h]; exact h
  · rw [List.length_append, List.length_append, h]; rfl
theorem Owns.repl {K : PySem.W.Frag} {P : Addr → Prop} {H : Hp} {y : D} {w : V} {C : List Addr} (k : Own K P H y w C) : ∀ {ks : List Key} {q : Key} {ds : List D} {vs : List V} {A : List Addr}, q ∈ ks → ks.length = ds.length → Owns K P H ds vs A → ∃ A', Owns K P H (dRepl ks ds q y) (dRepl ks vs q w) A' ∧ (∀ a ∈ A', a ∈ A ∨ a ∈ C) ∧ (A.Nodup → C.Nodup → (∀ a ∈ A, a ∉ C) → A'.Nodup)
  | [], q, ds, vs, A, hq, _, _ => nomatch hq
  | k0 :: ks, q, [], vs, A, _, hl, _ => nomatch hl
  | k0 :: ks, q, d :: ds, vs, A, hq, hl, h => by
    simp only [Owns] at h
    obtain ⟨v, r, B, C', rfl, rfl, h1, h2⟩ := h
    simp only [dRepl]
    by_cases e : k0 = q
    · rw [if_pos e, if_pos e]
      refine ⟨C ++ C', by simp only [Owns]; exact ⟨w, r, C, C', rfl, rfl, k, h2⟩, fun a ha => ?_, fun n1 n2 n3 => ?_⟩
      · rcases List.mem_append.mp ha with z | z
        · exact .inr z
        · exact .inl (List.mem_append_right _ z)
      · rw [List.nodup_append] at n1 ⊢
        exact ⟨n2, n1.2.1, fun a ha b hb z => n3 b (List.mem_append_right _ hb) (z ▸ ha)⟩
    · rw [if_neg e, if_neg e]
      have hq' : q ∈ ks := (List.mem_cons.mp hq).resolve_left fun z => e z.symm
      obtain ⟨A', g1, g2, g3⟩ := Owns.repl k hq' (by simpa using hl) h2
      refine ⟨B ++ A', by simp only [Owns]; exact ⟨v, _, B, A', rfl, rfl, h1, g1⟩, fun a ha => ?_, fun n1 n2 n3 => ?_⟩
      · rcases List.mem_append.mp ha with z | z
        · exact .inl (List.mem_append_left _ z)
        · exact (g2 a z).imp_left fun w => List.mem_append_right _ w
      · rw [List.nodup_append] at n1 ⊢
        refine ⟨n1.1, g3 n1.2.1 n2 (fun a ha => n3 a (List.mem_append_right _ ha)), fun a ha b hb z => ?_⟩
        rcases g2 b hb with w | w
        · exact n1.2.2 a ha b w z
        · exact n3 a (List.mem_append_left _ ha) (z ▸ w)
theorem Owns.putX {K : PySem.W.Frag} {P : Addr → Prop} {H : Hp} {y : D} {w : V} {C : List Addr} {ks : List Key} {q : Key} {ds : List D} {vs : List V} {A : List Addr} (k : Own K P H y w C) (hl : ks.length = ds.length) (h : Owns K P H ds vs A) : ∃ A', Owns K P H (dPutX ks ds q y) (dPutX ks vs q w) A' ∧ (∀ a ∈ A', a ∈ A ∨ a ∈ C) ∧ (A.Nodup → C.Nodup → (∀ a ∈ A, a ∉ C) → A'.Nodup) := by
  unfold dPutX
  by_cases hq : q ∈ ks
  · rw [if_pos hq, if_pos hq]
    exact Owns.repl k hq hl h
  · rw [if_neg hq, if_neg hq]
    refine ⟨A ++ C, Owns.snoc k h, fun a ha => (List.mem_append.mp ha).imp_right id, fun n1 n2 n3 => ?_⟩
    rw [List.nodup_append]
    exact ⟨n1, n2, fun a ha b hb z => n3 a ha (z ▸ hb)⟩
def sPut (i : Nat) (fk fv : Ev) : Fs := fun ρ => (dV i ρ).bind fun d => match d with
  | .dct ks ds => (fv ρ).bind fun y => (fk ρ).bind fun k => k.key.bind fun q => if ks.length < 16777216 then some (.nx (ρ.set i (some (.dct (dPutK ks q) (dPutX ks ds q y))))) else none
  | _ => none
theorem sPut_some {fk fv : Ev} {ρ : En} {o : Out} (h : sPut i fk fv ρ = some o) : ∃ ks ds y k q, dV i ρ = some (.dct ks ds) ∧ fv ρ = some y ∧ fk ρ = some k ∧ k.key = some q ∧ ks.length < 16777216 ∧ o = .nx (ρ.set i (some (.dct (dPutK ks q) (dPutX ks ds q y)))) := by
  unfold sPut at h
  cases q : dV i ρ with
  | none => rw [q] at h; cases h
  | some d =>
    rw [q] at h
    simp only [Option.bind_some] at h
    split at h
    · rename_i ks ds
      cases q1 : fv ρ with
      | none => rw [q1] at h; cases h
      | some y =>
        rw [q1] at h
        simp only [Option.bind_some] at h
        cases q2 : fk ρ with
        | none => rw [q2] at h; cases h
        | some k =>
          rw [q2] at h
          simp only [Option.bind_some] at h
          cases q3 : k.key with
          | none => rw [q3] at h; cases h
          | some kk =>
            rw [q3] at h
            simp only [Option.bind_some] at h
            split at h
            · cases h; exact ⟨ks, ds, y, k, kk, rfl, rfl, rfl, q3, by assumption, rfl⟩
            · cases h
    · cases h
theorem ds_put [Tabs] {fk fv : Ev} {pos' xpos : Pos} (hu : X.A.units + 1 < cLine) (hk : PE X b (tD X.K U' fk)) (hv : PE X a (tF X.K U fv)) (hi : X.N[i]? = some x := by rfl) (hx : Vis X.env.scope x := by first | exact Or.inl rfl | exact Or.inr (Or.inl rfl) | exact Or.inr (Or.inr rfl)) (hM : i ∈ M := by decide) (hU : ∀ j ∈ U, j ∉ M := by decide)
    (hd : (x == ("__debug__" : Str)) = false := by decide) (hcd : (x == ("__classdict__" : Str)) = false := by decide) (hs : swapsWith a (some (.Subscript (.Name x xpos) b pos')) pos.line X.env = pure false := by rfl) :
    PS X (.Assign [.Subscript (.Name x xpos) b pos'] a pos) (tS X.K M L (sPut i fk fv)) := ds_of fun ρ o h => by
  obtain ⟨ks, ds, y, k, q, e1, e2, e3, e4, hl, rfl⟩ := sPut_some h
  refine ⟨_, ps_dput hu (pv i hi hx hd hcd) hk hv hs, fun E σ H P As s p => ?_⟩
  refine ⟨ρ, _, _, y, s.ctx hU, e2, fun w H1 A k1 o n z => ?_⟩
  obtain ⟨v, g1, g2⟩ := s.ow i hM _ (dV_at e1)
  simp only [Own] at g2
  obtain ⟨l, vs, B, rfl, eA, hlen, ⟨hkl, hkn⟩, hH, hB⟩ := g2
  refine ⟨.ref l, g1, one (Ctx.same (s.any) k1) e3 fun kv H' k2 rk => ?_⟩
  have kk := k1.trans k2
  have hH' : H' l = some (.dK (ks.zip vs)) := kk.k _ _ hH trivial
  have hvl : ks.length = vs.length := by rw [hB.length]; exact hkl
  refine ⟨l, upd H' l (.dK ((dPutK ks q).zip (dPutX ks vs q w))), rfl, ?_, ?_⟩
  · rw [key_rep e4 rk, ← putK_zip ks vs q w hvl hkn]
    exact DPut.k hH' (by rw [List.length_zip, ← hvl, Nat.min_self, sizeLine_lit]; exact hl)
  have hlA : l ∉ A := fun q => by rw [z l q] at hH; cases hH
  have hAs : ∀ a ∈ As i, H a ≠ none := fun a ha => mut_some (s.mut ⟨i, hM, ha⟩)
  have up : ∀ a o, a ≠ l → H' a = some o → (upd H' l (.dK ((dPutK ks q).zip (dPutX ks vs q w)))) a = some o := fun a o h1 h2 => by rw [upd_ne h1]; exact h2
  have ndAs := s.nd i hM
  rw [eA] at ndAs
  obtain ⟨hlB, hBn⟩ := List.nodup_cons.mp ndAs
  -- the items, moved to the heap behind the store
  have offl : ∀ a, (P a ∧ ¬ Ow M As a) → a ≠ l := fun a h1 q => h1.2 ⟨i, hM, by rw [eA, q]; exact List.mem_cons_self⟩
  have hBA : ∀ a ∈ B, a ∉ A := fun a ha w => hAs a (by rw [eA]; exact List.mem_cons_of_mem _ ha) (z a w)
  have o1 : Own X.K (fun a => (P a ∧ ¬ Ow M As a) ∧ a ∉ A) (upd H' l (.dK ((dPutK ks q).zip (dPutX ks vs q w)))) y w A := by
    refine o.tr ⟨fun a h => h, fun a o h n q => up a o (fun w => ?_) (k2.k _ _ h n)⟩ fun a ha o h n => up a o (fun q => hlA (q ▸ ha)) (k2.k _ _ h n)
    rcases q with q | q
    · exact offl a q.1 w
    · rw [w, k1.k _ _ hH trivial] at h; cases h; exact q trivial
  have o2 : Owns X.K (fun a => (P a ∧ ¬ Ow M As a) ∧ a ∉ A) (upd H' l (.dK ((dPutK ks q).zip (dPutX ks vs q w)))) ds vs B := by
    refine hB.dom.tr ⟨fun a h => ⟨h.1, fun q => h.2 (z a q)⟩, fun a o h n q => up a o (fun w => ?_) (kk.k _ _ h n)⟩ fun a ha o h n => up a o (fun q => hlB (q ▸ ha)) (kk.k _ _ h n)
    rcases q with q | q
    · exact offl a q.1 w
    · rw [w, hH] at h; cases h; exact q trivial
  obtain ⟨A', g1', g2', g3'⟩ := Owns.putX (q := q) o1 hkl o2
  have off : ∀ a, ((P a ∧ ¬ Ow M As a) ∧ a ∉ A) → P a ∧ ¬ Ow M (asSet As i (l :: A')) a := fun a h => ⟨h.1.1, not_ow_set h.1.2 fun w => by
    rcases List.mem_cons.mp w with w | w
    · exact offl a h.1 w
    · rcases g2' a w with w | w
      · exact h.1.2 ⟨i, hM, by rw [eA]; exact List.mem_cons_of_mem _ w⟩
      · exact h.2 w⟩
  have new : Own X.K (fun a => P a ∧ ¬ Ow M (asSet As i (l :: A')) a) (upd H' l (.dK ((dPutK ks q).zip (dPutX ks vs q w)))) (.dct (dPutK ks q) (dPutX ks ds q y)) (.ref l) (l :: A') := by
    simp only [Own]
    refine ⟨l, _, A', rfl, rfl, ?_, ⟨dPut_len hkl, dPutK_nd hkn⟩, upd_same, g1'.mono off⟩
    unfold dPutK
    rw [sizeLine_lit]
    split
    · omega
    · rw [List.length_append]; simp; omega
  obtain ⟨s', t⟩ := s.putT (H2 := upd H' l (.dK ((dPutK ks q).zip (dPutX ks vs q w)))) (d := .dct (dPutK ks q) (dPutX ks ds q y)) (v := .ref l) hM (fun a o h n q => up a o (fun w => q (by rw [eA, w]; exact List.mem_cons_self)) (kk.k _ _ h n)) (fun b q e => by
      obtain ⟨q', e', t⟩ := kk.tb b q e
      exact ⟨q', by rw [upd_ne (fun z => by rw [z, hH] at e; cases e)]; exact e', t⟩) (fun a h q => by
    by_cases w : a = l
    · rw [w, upd_same] at q; cases q
    · rw [upd_ne w] at q; exact h (kk.free q)) new (List.nodup_cons.mpr ⟨fun w => (g2' l w).elim hlB hlA, g3' hBn n hBA⟩) fun a ha => by
      rcases List.mem_cons.mp ha with q | q
      · exact .inl (by rw [eA, q]; exact List.mem_cons_self)
      · rcases g2' a q with q | q
        · exact .inl (by rw [eA]; exact List.mem_cons_of_mem _ q)
        · exact .inr (z a q)
  rw [set_self g1] at s'
  exact p σ _ _ s' t fun _ _ => rfl

/-! ### a list of things that own nothing, repeated -/
def D.repF : D → D → Option D
  | .lst ds, .int k => if -(2 ^ 63) ≤ k ∧ k < 2 ^ 63 ∧ ds.length * k.toNat ≤ 16777216 ∧ ds.all D.flat = true then some (.lst (List.replicate k.toNat ds).flatten) else none
  | _, _ => none
theorem Reps.rep {K : PySem.W.Frag} {P : Addr → Prop} {H : Hp} {ds : List D} {vs : List V} (r : Reps K P H ds vs) : ∀ n : Nat, Reps K P H (List.replicate n ds).flatten (List.replicate n vs).flatten
  | 0 => by simp only [List.replicate_zero, List.flatten_nil]; exact .nil
  | n + 1 => by
    simp only [List.replicate_succ, List.flatten_cons]
    exact r.app (Reps.rep r n)
theorem rep_all {α : Type} (p : α → Bool) {ds : List α} (h : ds.all p = true) : ∀ n : Nat, ((List.replicate n ds).flatten).all p = true
  | 0 => rfl
  | n + 1 => by
    simp only [List.replicate_succ, List.flatten_cons, List.all_append, h, rep_all p h n]
    rfl
theorem rep_len {α : Type} (ds : List α) : ∀ n : Nat, ((List.replicate n ds).flatten).length = ds.length * n
  | 0 => by simp
  | n + 1 => by
    simp only [List.replicate_succ, List.flatten_cons, List.length_append, rep_len ds n, Nat.mul_succ]
    omega
theorem df_rep [Tabs] (ha : PE X a (tD X.K U f)) (hb : PE X b (tD X.K U' f')) : PE X (.BinOp a .Mult b pos) (tF X.K U (d2 D.repF f f')) := df_of fun ρ d h => by
  obtain ⟨x, y, e1, e2, e3⟩ := d2_some h
  cases x <;> cases y <;> simp only [D.repF] at e3 <;> first | cases e3 | skip
  rename_i ds k
  split at e3
  · rename_i hh
    cases e3
    refine ⟨_, pe_op op_rep ha hb, fun σ H Pf R Q c q => ⟨ρ, Pf, R, _, c, e1, fun v H1 s1 r1 => one (Ctx.same c s1) e2 fun w H2 s2 r2 => ?_⟩⟩
    simp only [Rep] at r1 r2
    obtain ⟨l, vs, rfl, hp, hl, hH, hr⟩ := r1
    subst r2
    refine ⟨l, k, vs, rfl, rfl, s2.k _ _ hH trivial, hh.1, hh.2.1, by rw [hr.length, sizeLine_lit]; exact hh.2.2.1, fun p np => ?_⟩
    refine q _ _ [p] ((s1.trans s2).trans (same_new np)) (own_new np (by rw [rep_len, sizeLine_lit]; exact hh.2.2.1) (rep_all _ hh.2.2.2 _) ((hr.same s2).rep _)) (by simp) fun a ha => ?_
    rw [List.mem_singleton.mp ha]; exact (s1.trans s2).free np
  · cases e3
end
end DL

/-! sorted: lists of ints, of texts, of tuples that begin with ints or with texts, by rank. -/
namespace DL
open PySem PySem.Spec PyProof.Rows L2

/-! ### a stable sort -/
section
variable {α β : Type}
def ins (lt : α → α → Bool) (x : α) : List α → List α
  | [] => [x]
  | y :: ys => if lt y x = true then y :: ins lt x ys else x :: y :: ys
def isort (lt : α → α → Bool) : List α → List α
  | [] => []
  | x :: xs => ins lt x (isort lt xs)
theorem ins_perm (lt : α → α → Bool) (x : α) : ∀ l, (ins lt x l).Perm (x :: l)
  | [] => List.Perm.refl _
  | y :: ys => by
    simp only [ins]
    split
    · exact ((ins_perm lt x ys).cons y).trans (List.Perm.swap x y ys)
    · exact List.Perm.refl _
theorem isort_perm (lt : α → α → Bool) : ∀ l, (isort lt l).Perm l
  | [] => List.Perm.refl _
  | x :: xs => (ins_perm lt x _).trans ((isort_perm lt xs).cons x)
theorem ins_sorted {lt : α → α → Bool} (O : SrtO.Swo lt) (x : α) : ∀ l, SrtO.Srtd lt l → SrtO.Srtd lt (ins lt x l)
  | [], _ => List.pairwise_singleton _ _
  | y :: ys, h => by
    have h' := List.pairwise_cons.mp h
    simp only [ins]
    split
    · rename_i hy
      refine List.pairwise_cons.mpr ⟨fun z hz => ?_, ins_sorted O x ys h'.2⟩
      rcases List.mem_cons.mp ((ins_perm lt x ys).mem_iff.mp hz) with e | e
      · rw [e]; exact O.asym y x hy
      · exact h'.1 z e
    · rename_i hy
      have hy : lt y x = false := by simpa using hy
      refine List.pairwise_cons.mpr ⟨fun z hz => ?_, h⟩
      rcases List.mem_cons.mp hz with e | e
      · rw [e]; exact hy
      · exact O.tr x y z hy (h'.1 z e)
theorem isort_sorted {lt : α → α → Bool} (O : SrtO.Swo lt) : ∀ l, SrtO.Srtd lt (isort lt l)
  | [] => List.Pairwise.nil
  | x :: xs => ins_sorted O x _ (isort_sorted O xs)
theorem ins_cls {lt : α → α → Bool} (O : SrtO.Swo lt) (x z : α) : ∀ l, (ins lt x l).filter (SrtO.eqv lt z) = (x :: l).filter (SrtO.eqv lt z)
  | [] => rfl
  | y :: ys => by
    simp only [ins]
    split
    · rename_i hy
      rw [List.filter_cons, ins_cls O x z ys, List.filter_cons, List.filter_cons, List.filter_cons]
      by_cases q1 : SrtO.eqv lt z x = true
      · by_cases q2 : SrtO.eqv lt z y = true
        · have e1 := SrtO.eqv_iff.mp q1
          have e2 := SrtO.eqv_iff.mp q2
          have := O.tr x z y e1.1 e2.2
          rw [hy] at this; cases this
        · rw [if_neg q2, if_neg q2]
      · by_cases q2 : SrtO.eqv lt z y = true
        · rw [if_neg q1, if_neg q1]
        · rw [if_neg q2, if_neg q2]
    · rfl
theorem isort_stb {lt : α → α → Bool} (O : SrtO.Swo lt) : ∀ l, SrtO.Stb lt (isort lt l) l
  | [] => SrtO.Stb.refl _
  | x :: xs => ⟨isort_perm lt _, fun z => by
      show (ins lt x (isort lt xs)).filter _ = _
      rw [ins_cls O x z, List.filter_cons, List.filter_cons, (isort_stb O xs).cls z]⟩
theorem ins_congr {lt lt' : α → α → Bool} {x : α} : ∀ {l : List α}, (∀ y ∈ l, lt y x = lt' y x) → ins lt x l = ins lt' x l
  | [], _ => rfl
  | y :: ys, h => by
    simp only [ins]
    rw [h y List.mem_cons_self, ins_congr fun z hz => h z (List.mem_cons_of_mem _ hz)]
theorem isort_congr {lt lt' : α → α → Bool} : ∀ {l : List α}, (∀ x ∈ l, ∀ y ∈ l, lt x y = lt' x y) → isort lt l = isort lt' l
  | [], _ => rfl
  | x :: xs, h => by
    have ih : isort lt xs = isort lt' xs := isort_congr fun a ha b hb => h a (List.mem_cons_of_mem _ ha) b (List.mem_cons_of_mem _ hb)
    show ins lt x (isort lt xs) = ins lt' x (isort lt' xs)
    rw [ih]
    exact ins_congr fun y hy => h y (List.mem_cons_of_mem _ ((isort_perm lt' xs).mem_iff.mp hy)) x List.mem_cons_self
theorem ins_map (f : α → β) (lt : β → β → Bool) (x : α) : ∀ l : List α, ins lt (f x) (l.map f) = (ins (fun a b => lt (f a) (f b)) x l).map f
  | [] => rfl
  | y :: ys => by
    simp only [List.map_cons, ins]
    split
    · rw [ins_map f lt x ys, List.map_cons]
    · rfl
theorem isort_map (f : α → β) (lt : β → β → Bool) : ∀ l : List α, isort lt (l.map f) = (isort (fun a b => lt (f a) (f b)) l).map f
  | [] => rfl
  | x :: xs => by
    show ins lt (f x) (isort lt (xs.map f)) = (ins _ x (isort _ xs)).map f
    rw [isort_map f lt xs, ins_map]
theorem isort_all (p : α → Bool) (lt : α → α → Bool) (l : List α) (h : l.all p = true) : (isort lt l).all p = true := by
  rw [List.all_eq_true] at h ⊢
  exact fun x hx => h x ((isort_perm lt l).mem_iff.mp hx)
theorem isort_len (lt : α → α → Bool) (l : List α) : (isort lt l).length = l.length := (isort_perm lt l).length_eq
theorem swo_rank (r : α → Nat) : SrtO.Swo fun x y => decide (r x < r y) :=
  ⟨fun x y h => by have := of_decide_eq_true h; exact decide_eq_false (by omega), fun x y z h1 h2 => by have := of_decide_eq_false h1; have := of_decide_eq_false h2; exact decide_eq_false (by omega)⟩
end

/-! ### comparing data -/
mutual
def D.plain : D → Bool
  | .non => true
  | .bl _ => true
  | .int _ => true
  | .str _ => true
  | .tup ds => D.plains ds
  | _ => false
def D.plains : List D → Bool
  | [] => true
  | d :: ds => d.plain && D.plains ds
end
mutual
theorem py_inj : ∀ {d d' : D}, d.plain = true → d'.plain = true → d.py = d'.py → d = d'
  | .non, d', _, h', e => by cases d' <;> simp only [D.plain] at h' <;> simp only [D.py] at e <;> first | rfl | cases e | cases h'
  | .bl _, d', _, h', e => by cases d' <;> simp only [D.plain] at h' <;> simp only [D.py] at e <;> first | (cases e; rfl) | cases e | cases h'
  | .int _, d', _, h', e => by cases d' <;> simp only [D.plain] at h' <;> simp only [D.py] at e <;> first | (cases e; rfl) | cases e | cases h'
  | .str _, d', _, h', e => by cases d' <;> simp only [D.plain] at h' <;> simp only [D.py] at e <;> first | (cases e; rfl) | cases e | cases h'
  | .tup ds, d', h, h', e => by
    cases d' with
    | tup es =>
      simp only [D.py] at e
      simp only [D.plain] at h h'
      injection e with e
      rw [pys_inj h h' e]
    | non => simp only [D.py] at e; cases e
    | bl _ => simp only [D.py] at e; cases e
    | int _ => simp only [D.py] at e; cases e
    | str _ => simp only [D.py] at e; cases e
    | lst _ => simp only [D.plain] at h'; cases h'
    | dct _ _ => simp only [D.plain] at h'; cases h'
    | obj _ _ _ => simp only [D.plain] at h'; cases h'
    | scr _ => simp only [D.plain] at h'; cases h'
  | .lst _, _, h, _, _ => by simp only [D.plain] at h; cases h
  | .dct _ _, _, h, _, _ => by simp only [D.plain] at h; cases h
  | .obj _ _ _, _, h, _, _ => by simp only [D.plain] at h; cases h
  | .scr _, _, h, _, _ => by simp only [D.plain] at h; cases h
theorem pys_inj : ∀ {ds es : List D}, D.plains ds = true → D.plains es = true → D.pys ds = D.pys es → ds = es
  | [], [], _, _, _ => rfl
  | [], _ :: _, _, _, e => by simp only [D.pys] at e; cases e
  | _ :: _, [], _, _, e => by simp only [D.pys] at e; cases e
  | d :: ds, d' :: es, h, h', e => by
    simp only [D.plains, Bool.and_eq_true] at h h'
    simp only [D.pys] at e
    injection e with e1 e2
    rw [py_inj h.1 h'.1 e1, pys_inj h.2 h'.2 e2]
end
theorem plain_flat {d : D} (h : d.plain = true) : d.flat = true := by
  cases d <;> simp only [D.plain] at h <;> first | rfl | cases h
/-- < of scalars -/
def D.lt1 : D → D → Option Bool
  | .int i, .int j => some (decide (i < j))
  | .str x, .str y => some (decide (x.cps.toList < y.cps.toList))
  | _, _ => none
def D.ltT : List D → List D → Option Bool
  | [], [] => some false
  | [], _ :: _ => some true
  | _ :: _, [] => some false
  | x :: xs, y :: ys => if PyData.eqv x.py y.py = true then D.ltT xs ys else D.lt1 x y
def D.ltI : D → D → Option Bool
  | .tup xs, .tup ys => D.ltT xs ys
  | x, y => D.lt1 x y
/-- the sort's kind: 0 ints, 1 texts, 2 tuples that begin with ints, 3 with texts -/
def D.kd : D → Option Nat
  | .int _ => some 0
  | .str _ => some 1
  | .tup (.int _ :: _) => some 2
  | .tup (.str _ :: _) => some 3
  | _ => none
theorem kd_cases {d : D} {k : Nat} (h : d.kd = some k) : (k = 0 ∧ ∃ i, d = .int i) ∨ (k = 1 ∧ ∃ x, d = .str x) ∨ (k = 2 ∧ ∃ i r, d = .tup (.int i :: r)) ∨ (k = 3 ∧ ∃ x r, d = .tup (.str x :: r)) := by
  unfold D.kd at h
  split at h
  · cases h; exact .inl ⟨rfl, _, rfl⟩
  · cases h; exact .inr (.inl ⟨rfl, _, rfl⟩)
  · cases h; exact .inr (.inr (.inl ⟨rfl, _, _, rfl⟩))
  · cases h; exact .inr (.inr (.inr ⟨rfl, _, _, rfl⟩))
  · cases h
def D.rank (ds : List D) (d : D) : Nat := (ds.filter fun e => D.ltI e d == some true).length
def D.sortable (ds : List D) : Bool := ds.all (fun d => d.plain && d.shaped) && (ds.all fun d => ds.all fun e => d.kd.isSome && (d.kd == e.kd) && (D.ltI d e == some (decide (D.rank ds d < D.rank ds e))))
def D.sorted : List D → Option D
  | [.lst ds] => if D.sortable ds then some (.lst (isort (fun x y => decide (D.rank ds x < D.rank ds y)) ds)) else none
  | [.tup ds] => none
  | _ => none
section
variable {X : Cx} {pins : List (Addr × Obj)} {σ : L2.St} {H : Hp} {s : Shared} {K : PySem.W.Frag} {P : Addr → Prop}
theorem rep_uniq (I : Inv X pins σ H s) {P' : Addr → Prop} {d d' : D} {x x' : V} {u : Value} (p : d.plain = true) (p' : d'.plain = true) (q : d.shaped = true) (q' : d'.shaped = true) (r : Rep X.K P H d x) (r' : Rep X.K P' H d' x') (h : RelV x u) (h' : RelV x' u) : d = d' := by
  obtain ⟨as, a⟩ := Dp.reads I d.py x u (r.dpS q) h
  obtain ⟨bs, b⟩ := Dp.reads I d'.py x' u (r'.dpS q') h'
  exact py_inj p p' (Reads.unique a _ _ b).1
theorem reps_mem {ds : List D} {vs : List V} (r : Reps K P H ds vs) : ∀ {us : List Value}, Vals vs us → ∀ u ∈ us, ∃ d ∈ ds, ∃ x, Rep K P H d x ∧ RelV x u := by
  induction ds generalizing vs with
  | nil => intro us v u hu; simp only [Reps] at r; subst r; cases v; cases hu
  | cons d ds ih =>
    intro us v u hu
    simp only [Reps] at r
    obtain ⟨x, xs, rfl, r1, r2⟩ := r
    cases v with
    | cons q1 q2 =>
      rcases List.mem_cons.mp hu with e | e
      · subst e; exact ⟨d, List.mem_cons_self, x, r1, q1⟩
      · obtain ⟨d', h1, h2⟩ := ih r2 q2 u e
        exact ⟨d', List.mem_cons_of_mem _ h1, h2⟩
/-- two tuples' items compare as told -/
theorem katLex_ok (I : Inv X pins σ H s) {h' : Heap} (hk : ∀ b o, s.heap.get? b = some o → h'.get? b = some o) {A : Around} (hu : A.units + 64 < cLine) {b fin : Bool} : ∀ {ds es : List D} {xs ys : List V} {us ws : List Value} {i : Nat} {k : Bool}, Reps X.K P H ds xs → Reps X.K P H es ys → Vals xs us → Vals ys ws →
    (∀ d ∈ ds, d.py.canLay0 = true ∧ d.py.depth ≤ 64) → (∀ d ∈ es, d.py.canLay0 = true ∧ d.py.depth ≤ 64) → D.ltT ds es = some k → fin = decide (us.length < ws.length) →
    PySem.W.KatLex X.prog X.w A b fin (fun r s' => s' = { s with heap := h' } ∧ r = k) (us.zip ws) i { s with heap := h' }
  | [], [], xs, ys, us, ws, i, k, r1, r2, v1, v2, _, _, e, ef => by
    simp only [Reps] at r1 r2
    subst r1; subst r2
    cases v1; cases v2
    cases e
    exact PySem.W.kat_nil ⟨rfl, by rw [ef]; rfl⟩
  | [], d' :: es, xs, ys, us, ws, i, k, r1, r2, v1, v2, _, _, e, ef => by
    simp only [Reps] at r1 r2
    subst r1
    obtain ⟨y, ys', rfl, _, _⟩ := r2
    cases v1
    cases v2
    cases e
    exact PySem.W.kat_nil ⟨rfl, by rw [ef]; simp⟩
  | d :: ds, [], xs, ys, us, ws, i, k, r1, r2, v1, v2, _, _, e, ef => by
    simp only [Reps] at r1 r2
    subst r2
    obtain ⟨x, xs', rfl, _, _⟩ := r1
    cases v2
    cases v1
    cases e
    exact PySem.W.kat_nil ⟨rfl, by rw [ef]; simp⟩
  | d :: ds, d' :: es, xs, ys, us, ws, i, k, r1, r2, v1, v2, c1, c2, e, ef => by
    simp only [Reps] at r1 r2
    obtain ⟨x, xs', rfl, rx, rxs⟩ := r1
    obtain ⟨y, ys', rfl, ry, rys⟩ := r2
    cases v1 with
    | cons vx vxs =>
      cases v2 with
      | cons vy vys =>
        rename_i u us' w ws'
        obtain ⟨cd, dd⟩ := c1 d List.mem_cons_self
        obtain ⟨cd', dd'⟩ := c2 d' List.mem_cons_self
        obtain ⟨as, a1⟩ := Dp.reads I d.py x u (rx.dp cd) vx
        obtain ⟨bs, a2⟩ := Dp.reads I d'.py y w (ry.dp cd') vy
        rw [List.zip_cons_cons]
        refine PySem.W.kat_cons (SeqAt.eqBoolOverData X.prog X.w A _ { s with heap := h' } u w d.py d'.py as bs _ (Reads.keeps hk a1) (Reads.keeps hk a2) cd cd' (by have := Nat.min_le_left d.py.depth d'.py.depth; omega) ?_)
        simp only [D.ltT] at e
        by_cases q : PyData.eqv d.py d'.py = true
        · rw [if_pos q] at e
          rw [q]
          refine PySem.W.kat_yes (katLex_ok I hk hu rxs rys vxs vys (fun z hz => c1 z (List.mem_cons_of_mem _ hz)) (fun z hz => c2 z (List.mem_cons_of_mem _ hz)) e ?_)
          rw [ef]; simp
        · rw [if_neg q] at e
          rw [show PyData.eqv d.py d'.py = false by simpa using q]
          refine PySem.W.kat_no ?_
          cases d <;> cases d' <;> simp only [D.lt1] at e <;> first | cases e | skip
          · simp only [Rep] at rx ry
            subst rx; subst ry
            obtain ⟨t, rfl⟩ := vx
            obtain ⟨t', rfl⟩ := vy
            exact oneLt_any_int ⟨rfl, rfl⟩
          · simp only [Rep] at rx ry
            subst rx; subst ry
            obtain ⟨t, rfl⟩ := vx
            obtain ⟨t', rfl⟩ := vy
            exact oneLt_any_str ⟨rfl, rfl⟩
theorem pys_lay : ∀ {ds : List D}, PyData.canLayAll0 (D.pys ds) = true → PyData.depthAll (D.pys ds) ≤ 64 → ∀ d ∈ ds, d.py.canLay0 = true ∧ d.py.depth ≤ 64
  | [], _, _, d, h => nomatch h
  | e :: es, h1, h2, d, h => by
    simp only [D.pys, PyData.canLayAll0, Bool.and_eq_true] at h1
    simp only [D.pys, PyData.depthAll] at h2
    rcases List.mem_cons.mp h with z | z
    · rw [z]; exact ⟨h1.1, by omega⟩
    · exact pys_lay h1.2 (by omega) d z

theorem ltI_ok (I : Inv X pins σ H s) {h' : Heap} (hk : ∀ b o, s.heap.get? b = some o → h'.get? b = some o) {A : Around} (hu : A.units + 64 < cLine) {d e : D} {x y : V} {u w : Value} {k n : Nat} {b : Bool} (rd : Rep X.K P H d x) (re : Rep X.K P H e y) (vd : RelV x u) (ve : RelV y w)
    (sd : d.shaped = true) (se : e.shaped = true) (kd : d.kd = some k) (ke : e.kd = some k) (h : D.ltI d e = some b) :
    wpAny (model X.prog X.w) A (keyLt' (if k < 2 then oneType' else tuples' true) u w) (fun r s' => s' = { s with heap := h' } ∧ r = b) (fun _ _ => False) { s with heap := h' } := by
  have tups : ∀ {ds es : List D}, d = .tup ds → e = .tup es → ¬ k < 2 → wpAny (model X.prog X.w) A (keyLt' (if k < 2 then oneType' else tuples' true) u w) (fun r s' => s' = { s with heap := h' } ∧ r = b) (fun _ _ => False) { s with heap := h' } := by
    intro ds es ed ee k2
    subst ed; subst ee
    rw [if_neg k2]
    have ld := pys_lay (ds := ds) (by have := SeqAt.canLay_of_shaped sd; simpa only [D.py, PyData.canLay0] using this) (by have := SeqAt.depth_of_shaped sd; simp only [D.py, PyData.depth] at this; omega)
    have le := pys_lay (ds := es) (by have := SeqAt.canLay_of_shaped se; simpa only [D.py, PyData.canLay0] using this) (by have := SeqAt.depth_of_shaped se; simp only [D.py, PyData.depth] at this; omega)
    simp only [Rep] at rd re
    obtain ⟨a, xs, rfl, _, h1, h2⟩ := rd
    obtain ⟨c, ys, rfl, _, h3, h4⟩ := re
    cases vd
    cases ve
    obtain ⟨its, v1, ⟨o1, ho1, _, n1, hd1⟩, _⟩ := I.tuple h1
    obtain ⟨its2, v2, ⟨o2, ho2, _, n2, hd2⟩, _⟩ := I.tuple h3
    refine PySem.W.kat_lt (s := { s with heap := h' }) (hk _ _ ho1) hd1 (hk _ _ ho2) hd2 ?_
    simp only [List.size_toArray]
    exact katLex_ok I hk hu h2 h4 v1 v2 ld le h rfl
  rcases kd_cases kd with ⟨rfl, i, ed⟩ | ⟨rfl, i, ed⟩ | ⟨rfl, i, r, ed⟩ | ⟨rfl, i, r, ed⟩
  · rcases kd_cases ke with ⟨_, j, ee⟩ | ⟨z, _⟩ | ⟨z, _⟩ | ⟨z, _⟩
    · subst ed; subst ee
      cases h
      simp only [Rep] at rd re
      subst rd; subst re
      obtain ⟨t, rfl⟩ := vd
      obtain ⟨t', rfl⟩ := ve
      rw [if_pos (by decide), keyLt'_oneType]
      exact oneLt_any_int ⟨rfl, rfl⟩
    · cases z
    · cases z
    · cases z
  · rcases kd_cases ke with ⟨z, _⟩ | ⟨_, j, ee⟩ | ⟨z, _⟩ | ⟨z, _⟩
    · cases z
    · subst ed; subst ee
      cases h
      simp only [Rep] at rd re
      subst rd; subst re
      obtain ⟨t, rfl⟩ := vd
      obtain ⟨t', rfl⟩ := ve
      rw [if_pos (by decide), keyLt'_oneType]
      exact oneLt_any_str ⟨rfl, rfl⟩
    · cases z
    · cases z
  · rcases kd_cases ke with ⟨z, _⟩ | ⟨z, _⟩ | ⟨_, j, r', ee⟩ | ⟨z, _⟩
    · cases z
    · cases z
    · exact tups ed ee (by decide)
    · cases z
  · rcases kd_cases ke with ⟨z, _⟩ | ⟨z, _⟩ | ⟨z, _⟩ | ⟨_, j, r', ee⟩
    · cases z
    · cases z
    · cases z
    · exact tups ed ee (by decide)
theorem kind_ok (I : Inv X pins σ H s) {h' : Heap} (hk : ∀ b o, s.heap.get? b = some o → h'.get? b = some o) {A : Around} {E : Value → Shared → Prop} {Q : SortKind → Shared → Prop} {k : Nat} : ∀ {ds : List D} {xs : List V} {us : List Value}, 2 ≤ us.length → Reps X.K P H ds xs → Vals xs us → (∀ d ∈ ds, d.kd = some k) →
    Q (if k < 2 then oneType' else tuples' true) { s with heap := h' } → wpAny (model X.prog X.w) A (keyKind' us.toArray) Q E { s with heap := h' } := by
  intro ds xs us h2 r v hkd q
  have mem : ∀ u ∈ us, ∃ d ∈ ds, ∃ x, Rep X.K P H d x ∧ RelV x u := reps_mem r v
  by_cases k2 : k < 2
  · rw [if_pos k2] at q
    by_cases k0 : k = 0
    · refine PySem.W.kas_kind (s := { s with heap := h' }) (T := .type "int") h2 (fun u hu => ?_) (by decide) (by rfl) q
      obtain ⟨d, hd, x, h3, h4⟩ := mem u hu
      rcases kd_cases (hkd d hd) with ⟨_, i, ed⟩ | ⟨z, _⟩ | ⟨z, _⟩ | ⟨z, _⟩
      · subst ed
        simp only [Rep] at h3
        subst h3
        obtain ⟨t, rfl⟩ := h4
        exact PySem.W.Looks.of_pure rfl
      · omega
      · omega
      · omega
    · have k1 : k = 1 := by omega
      refine PySem.W.kas_kind (s := { s with heap := h' }) (T := .type "str") h2 (fun u hu => ?_) (by decide) (by rfl) q
      obtain ⟨d, hd, x, h3, h4⟩ := mem u hu
      rcases kd_cases (hkd d hd) with ⟨z, _⟩ | ⟨_, i, ed⟩ | ⟨z, _⟩ | ⟨z, _⟩
      · omega
      · subst ed
        simp only [Rep] at h3
        subst h3
        obtain ⟨t, rfl⟩ := h4
        exact PySem.W.Looks.of_pure rfl
      · omega
      · omega
  · rw [if_neg k2] at q
    have all : ∀ {ds : List D} {xs : List V} {us : List Value}, Reps X.K P H ds xs → Vals xs us → (∀ d ∈ ds, d.kd = some k) → ∃ fs, fs.length = us.length ∧ TupsOf h' (fun _ => decide (k = 3)) us fs := by
      intro ds
      induction ds with
      | nil => intro xs us r v _; simp only [Reps] at r; subst r; cases v; exact ⟨[], rfl, .nil⟩
      | cons d ds ih =>
        intro xs us r v hkd
        simp only [Reps] at r
        obtain ⟨x, xs', rfl, r1, r2⟩ := r
        cases v with
        | cons v1 v2 =>
          obtain ⟨fs, hf, t⟩ := ih r2 v2 fun e he => hkd e (List.mem_cons_of_mem _ he)
          rcases kd_cases (hkd d List.mem_cons_self) with ⟨z, _⟩ | ⟨z, _⟩ | ⟨kz, i, r, ed⟩ | ⟨kz, i, r, ed⟩
          · omega
          · omega
          · subst ed
            subst kz
            simp only [Rep] at r1
            obtain ⟨a, ys, rfl, _, h1, h3⟩ := r1
            cases v1
            obtain ⟨its, vv, ⟨o, ho, hc, n, hd⟩, _⟩ := I.tuple h1
            simp only [Reps, Rep] at h3
            obtain ⟨_, ys', rfl, rfl, _⟩ := h3
            cases vv with
            | cons w1 w2 =>
              obtain ⟨t1, rfl⟩ := w1
              exact ⟨_ :: fs, by simp [hf], .cons ⟨a, o, _, n, rfl, hk _ _ ho, hc, hd, by simp, fun _ => ⟨i, t1, rfl⟩, fun z => absurd (of_decide_eq_true z) (by decide)⟩ t⟩
          · subst ed
            subst kz
            simp only [Rep] at r1
            obtain ⟨a, ys, rfl, _, h1, h3⟩ := r1
            cases v1
            obtain ⟨its, vv, ⟨o, ho, hc, n, hd⟩, _⟩ := I.tuple h1
            simp only [Reps, Rep] at h3
            obtain ⟨_, ys', rfl, rfl, _⟩ := h3
            cases vv with
            | cons w1 w2 =>
              obtain ⟨t1, rfl⟩ := w1
              exact ⟨_ :: fs, by simp [hf], .cons ⟨a, o, _, n, rfl, hk _ _ ho, hc, hd, by simp, fun z => absurd (of_decide_eq_false z) (by decide), fun _ => ⟨i, t1, rfl⟩⟩ t⟩
    obtain ⟨fs, hf, t⟩ := all r v hkd
    exact tup_kind (s := { s with heap := h' }) (by omega) t q
end
section
variable {X : Cx}
theorem vals_abs : ∀ {out : List Value}, (∀ u ∈ out, ∃ x, RelV x u) → Vals (out.map fun u => (absV u).getD .non) out
  | [], _ => .nil
  | u :: us, h => by
    obtain ⟨x, hx⟩ := h u List.mem_cons_self
    refine .cons ?_ (vals_abs fun w hw => h w (List.mem_cons_of_mem _ hw))
    show RelV ((absV u).getD .non) u
    rw [hx.abs]
    exact hx
theorem reps_of {K : PySem.W.Frag} {P : Addr → Prop} {H : Hp} {f : Value → D} : ∀ {out : List Value}, (∀ u ∈ out, ∃ x, RelV x u ∧ Rep K P H (f u) x) → Reps K P H (out.map f) (out.map fun u => (absV u).getD .non)
  | [], _ => .nil
  | u :: us, h => by
    obtain ⟨x, hx, r⟩ := h u List.mem_cons_self
    refine .cons ?_ (reps_of fun w hw => h w (List.mem_cons_of_mem _ hw))
    show Rep K P H (f u) ((absV u).getD .non)
    rw [hx.abs]
    exact r
instance : Nonempty D := ⟨.non⟩
/-- what sorted does, as a rule over data -/
def rSortedD (K : PySem.W.Frag) : List V → Hp → VK → Prop := fun vs H Q => ∃ (a : Addr) (P : Addr → Prop) (ds : List D) (xs : List V), vs = [.ref a] ∧ SqL K H a xs ∧ Reps K P H ds xs ∧ D.sortable ds = true ∧
  ∀ zs p, H p = none → Reps K P H (isort (fun x y => decide (D.rank ds x < D.rank ds y)) ds) zs → Q (.ref p) (upd H p (.lst zs))
theorem cr_sortedD (hu : X.A.units + 100 < cLine) : CallR X (.builtin "sorted") (rSortedD X.K) := by
  intro pins s σ H vs us Q I r h
  obtain ⟨a, P, ds, xs, rfl, hs, rr, ok, q⟩ := h
  obtain ⟨its, rv, hl, hz⟩ := I.list hs
  rw [Vals.ref1 r]
  unfold D.sortable at ok
  rw [Bool.and_eq_true, List.all_eq_true, List.all_eq_true] at ok
  obtain ⟨ok1, ok2⟩ := ok
  have pl : ∀ d ∈ ds, d.plain = true ∧ d.shaped = true := fun d hd => by have := ok1 d hd; rwa [Bool.and_eq_true] at this
  have two : ∀ d ∈ ds, ∀ e ∈ ds, (∃ k, d.kd = some k ∧ e.kd = some k) ∧ D.ltI d e = some (decide (D.rank ds d < D.rank ds e)) := fun d hd e he => by
    have := ok2 d hd
    rw [List.all_eq_true] at this
    have := this e he
    rw [Bool.and_eq_true, Bool.and_eq_true] at this
    obtain ⟨⟨h1, h2⟩, h3⟩ := this
    obtain ⟨k, hk⟩ := Option.isSome_iff_exists.mp h1
    refine ⟨⟨k, hk, ?_⟩, by simpa using h3⟩
    rw [hk] at h2
    exact (beq_iff_eq.mp h2).symm
  have mem : ∀ u ∈ its, ∃ d, d ∈ ds ∧ ∃ x, Rep X.K P H d x ∧ RelV x u := fun u hu => by
    obtain ⟨d, h1, h2⟩ := reps_mem rr rv u hu
    exact ⟨d, h1, h2⟩
  -- each value's datum
  let f : Value → D := fun u => Classical.epsilon fun d => d ∈ ds ∧ ∃ x, Rep X.K P H d x ∧ RelV x u
  have hf : ∀ u ∈ its, f u ∈ ds ∧ ∃ x, Rep X.K P H (f u) x ∧ RelV x u := fun u hu => Classical.epsilon_spec (mem u hu)
  have fmap : its.map f = ds := by
    have go : ∀ {es : List D} {ys : List V} {ws : List Value}, Reps X.K P H es ys → Vals ys ws → (∀ e ∈ es, e ∈ ds) → (∀ w ∈ ws, w ∈ its) → ws.map f = es := by
      intro es
      induction es with
      | nil => intro ys ws r v _ _; simp only [Reps] at r; subst r; cases v; rfl
      | cons e es ih =>
        intro ys ws r v h1 h2
        simp only [Reps] at r
        obtain ⟨y, ys', rfl, r1, r2⟩ := r
        cases v with
        | cons v1 v2 =>
          rename_i w ws'
          rw [List.map_cons, ih r2 v2 (fun z hz => h1 z (List.mem_cons_of_mem _ hz)) fun z hz => h2 z (List.mem_cons_of_mem _ hz)]
          obtain ⟨g1, x, g2, g3⟩ := hf w (h2 w List.mem_cons_self)
          have he := h1 e List.mem_cons_self
          rw [rep_uniq I (pl _ g1).1 (pl e he).1 (pl _ g1).2 (pl e he).2 g2 r1 g3 v1]
    exact go rr rv (fun _ h => h) fun _ h => h
  let lt : D → D → Bool := fun x y => decide (D.rank ds x < D.rank ds y)
  have O : SrtO.Swo lt := swo_rank _
  refine SrtO.sorted_ord (ltv := fun u w => lt (f u) (f w)) ⟨fun x y => O.asym _ _, fun x y z => O.tr _ _ _⟩ hl.isList (by rw [← rv.length]; exact hz) (fun h2 h1 l hl1 hold h3 hk3 => ?_) fun out g1 g2 => ?_
  · have hk : ∀ b o, s.heap.get? b = some o → h3.get? b = some o := fun b o e => hk3 b o (hold b o e).1 (hold b o e).2
    obtain ⟨u0, hu0⟩ : ∃ u, u ∈ its := by
      cases its with
      | nil => simp at h2
      | cons u _ => exact ⟨u, List.mem_cons_self⟩
    obtain ⟨k, hk0, _⟩ := (two _ (hf u0 hu0).1 _ (hf u0 hu0).1).1
    have allk : ∀ d ∈ ds, d.kd = some k := fun d hd => by
      obtain ⟨k', e1, e2⟩ := (two _ (hf u0 hu0).1 d hd).1
      rw [hk0] at e1; cases e1; exact e2
    refine ⟨_, fun Q' E' hq => kind_ok I hk h2 rr rv allk hq, fun p q hp hq => ?_⟩
    obtain ⟨d1, x, d3, d4⟩ := hf p.1 hp
    obtain ⟨e1, y, e3, e4⟩ := hf q.1 hq
    exact ltI_ok (n := 0) I hk (by show X.A.units + 1 + 1 + 64 < cLine; omega) d3 e3 d4 e4 (pl _ d1).2 (pl _ e1).2 (allk _ d1) (allk _ e1) (two _ d1 _ e1).2
  · obtain ⟨ep, he'⟩ := PyProof.Rows.sortedAll_at s.heap its out.toArray
    have hin : ∀ u ∈ out, u ∈ its := fun u hu => g2.perm.mem_iff.mp hu
    have hout : out.map f = isort lt ds := by
      have b1 : SrtO.Srtd lt (out.map f) := SrtO.srtd_map g1
      have b2 : SrtO.Stb lt (out.map f) ds := by
        have := SrtO.Stb.map O f g2
        rwa [fmap] at this
      refine SrtO.stb_uniq O b1 (isort_sorted O ds) ⟨b2.perm.trans (isort_perm lt ds).symm, fun x => (b2.cls x).trans ((isort_stb O ds).cls x).symm⟩
    have vz : Vals (out.map fun u => (absV u).getD .non) out := vals_abs fun u hu => let ⟨_, x, _, h⟩ := hf u (hin u hu); ⟨x, h⟩
    have rz : Reps X.K P H (isort lt ds) (out.map fun u => (absV u).getD .non) := by
      rw [← hout]
      exact reps_of fun u hu => let ⟨_, x, h1, h2⟩ := hf u (hin u hu); ⟨x, h2, h1⟩
    refine ⟨.ref _, upd H (s.heap.objs.size + 1) (.lst (out.map fun u => (absV u).getD .non)), I.laid (t' := s.toks) (fun _ _ => PyProof.Rows.sortedAll_old) (Nat.le_succ _) ⟨?_, out, ep, vz, he'⟩, rfl, q _ _ (I.hok.fresh (Nat.le_succ _)) rz⟩
    rw [List.length_map, g2.len, ← rv.length]
    exact hz
theorem c_sorted (hu : X.A.units + 100 < cLine) : CallOkF X (.builtin "sorted") D.sorted := fun ds d h => by
  unfold D.sorted at h
  split at h
  · split at h
    · rename_i es ok
      cases h
      refine ⟨_, cr_sortedD hu, fun vs H R Q r n q => ?_⟩
      obtain ⟨v, rfl, r1⟩ := reps1 r
      simp only [Rep] at r1
      obtain ⟨a, ws, rfl, _, hl, h1, h2⟩ := r1
      refine ⟨a, R, es, ws, rfl, SqL.of h1, h2, ok, fun zs p np rz => q _ _ [p] (same_new np) (own_new np (by rw [isort_len]; exact hl) (isort_all _ _ _ ?_) rz) (by simp) fun a ha => by rw [List.mem_singleton.mp ha]; exact np⟩
      unfold D.sortable at ok
      rw [Bool.and_eq_true, List.all_eq_true] at ok
      rw [List.all_eq_true]
      intro x hx
      have := ok.1 x hx
      rw [Bool.and_eq_true] at this
      exact plain_flat this.1
    · cases h
  · cases h
  · cases h
end
end DL

/-! Running the partial functions: one answer, by rules that simp can take. -/
namespace DL
open PySem PySem.Spec PyProof.Rows L2

def Ok (x : Option Out) (Q : Out → Prop) : Prop := ∃ o, x = some o ∧ Q o
theorem Ok.imp {x : Option Out} {Q Q' : Out → Prop} (h : Ok x Q) (k : ∀ o, Q o → Q' o) : Ok x Q' := let ⟨o, e, q⟩ := h; ⟨o, e, k o q⟩
@[simp] theorem ok_some {o : Out} {Q : Out → Prop} : Ok (some o) Q ↔ Q o := ⟨fun ⟨_, e, q⟩ => by cases e; exact q, fun q => ⟨o, rfl, q⟩⟩
@[simp] theorem ok_none {Q : Out → Prop} : ¬ Ok none Q := fun ⟨_, e, _⟩ => nomatch e
section
variable {F G H : Fs} {ρ ρ' : En} {Q : Out → Prop} {i j : Nat} {f f' f'' : Ev} {fs : Es} {t t' t'' : Et} {g g' : Ei}
theorem seq_ok : Ok (sSeq F G ρ) Q ↔ Ok (F ρ) fun o => match o with | .nx ρ' => Ok (G ρ') Q | o => Q o := by
  unfold sSeq
  cases q : F ρ with
  | none => simp
  | some o => cases o <;> simp
@[simp] theorem seq_seq : sSeq (sSeq F G) H ρ = sSeq F (sSeq G H) ρ := by
  unfold sSeq
  cases q : F ρ with
  | none => rfl
  | some o => cases o <;> rfl
@[simp] theorem seq_nil : sSeq sNil F ρ = F ρ := rfl
@[simp] theorem ok_nil : Ok (sNil ρ) Q ↔ Q (.nx ρ) := by unfold sNil; simp
@[simp] theorem seq_set : Ok (sSeq (sSet i f) G ρ) Q ↔ ∃ d, f ρ = some d ∧ Ok (G (ρ.set i (some d))) Q := by
  rw [seq_ok]; unfold sSet
  cases q : f ρ with
  | none => simp
  | some d => simp
@[simp] theorem ok_set : Ok (sSet i f ρ) Q ↔ ∃ d, f ρ = some d ∧ Q (.nx (ρ.set i (some d))) := by
  unfold sSet
  cases q : f ρ with
  | none => simp
  | some d => simp
@[simp] theorem ok_ret : Ok (sRet f ρ) Q ↔ ∃ d, f ρ = some d ∧ Q (.rt d ρ) := by
  unfold sRet
  cases q : f ρ with
  | none => simp
  | some d => simp
@[simp] theorem seq_ret : Ok (sSeq (sRet f) G ρ) Q ↔ ∃ d, f ρ = some d ∧ Q (.rt d ρ) := by
  rw [seq_ok]; unfold sRet
  cases q : f ρ with
  | none => simp
  | some d => simp
@[simp] theorem ok_retO : Ok (sRetO i ρ) Q ↔ ∃ d, dV i ρ = some d ∧ Q (.rt d (ρ.set i none)) := by
  unfold sRetO
  cases q : dV i ρ with
  | none => simp
  | some d => simp
@[simp] theorem seq_retO : Ok (sSeq (sRetO i) G ρ) Q ↔ ∃ d, dV i ρ = some d ∧ Q (.rt d (ρ.set i none)) := by
  rw [seq_ok]; unfold sRetO
  cases q : dV i ρ with
  | none => simp
  | some d => simp
@[simp] theorem ok_ifT (h : t ρ = some true) : Ok (sIf t F G ρ) Q ↔ Ok (F ρ) Q := by
  unfold sIf; rw [h]; simp
@[simp] theorem ok_ifF (h : t ρ = some false) : Ok (sIf t F G ρ) Q ↔ Ok (G ρ) Q := by
  unfold sIf; rw [h]; simp
@[simp] theorem seq_ifT (h : t ρ = some true) : sSeq (sIf t F G) H ρ = sSeq F H ρ := by
  simp [sIf, sSeq, h]
@[simp] theorem seq_ifF (h : t ρ = some false) : sSeq (sIf t F G) H ρ = sSeq G H ρ := by
  simp [sIf, sSeq, h]
@[simp] theorem ok_app : Ok (sApp i f ρ) Q ↔ ∃ ds y, dV i ρ = some (.lst ds) ∧ f ρ = some y ∧ ds.length < 16777216 ∧ Q (.nx (ρ.set i (some (.lst (ds ++ [y]))))) := by
  constructor
  · rintro ⟨o, e, q⟩
    obtain ⟨ds, y, e1, e2, e3, rfl⟩ := sApp_some e
    exact ⟨ds, y, e1, e2, e3, q⟩
  · rintro ⟨ds, y, e1, e2, e3, q⟩
    exact ⟨_, by unfold sApp; rw [e1]; simp [e2, e3], q⟩
@[simp] theorem seq_app : Ok (sSeq (sApp i f) G ρ) Q ↔ ∃ ds y, dV i ρ = some (.lst ds) ∧ f ρ = some y ∧ ds.length < 16777216 ∧ Ok (G (ρ.set i (some (.lst (ds ++ [y]))))) Q := by
  rw [seq_ok, ok_app]
@[simp] theorem ok_ext : Ok (sExt i f ρ) Q ↔ ∃ ds es, dV i ρ = some (.lst ds) ∧ f ρ = some (.lst es) ∧ ds.length + es.length ≤ 16777216 ∧ es.all D.flat = true ∧ Q (.nx (ρ.set i (some (.lst (ds ++ es))))) := by
  constructor
  · rintro ⟨o, e, q⟩
    obtain ⟨ds, y, e1, e2, e3, e4, rfl⟩ := sExt_some e
    exact ⟨ds, y, e1, e2, e3, e4, q⟩
  · rintro ⟨ds, y, e1, e2, e3, e4, q⟩
    exact ⟨_, by unfold sExt; rw [e1]; simp only [Option.bind_some, e2]; rw [if_pos ⟨e3, e4⟩], q⟩
@[simp] theorem seq_ext : Ok (sSeq (sExt i f) G ρ) Q ↔ ∃ ds es, dV i ρ = some (.lst ds) ∧ f ρ = some (.lst es) ∧ ds.length + es.length ≤ 16777216 ∧ es.all D.flat = true ∧ Ok (G (ρ.set i (some (.lst (ds ++ es))))) Q := by
  rw [seq_ok, ok_ext]
@[simp] theorem ok_tgt {tg : Tg} : Ok (sTgt tg f ρ) Q ↔ ∃ d ρ', f ρ = some d ∧ tg.set d ρ = some ρ' ∧ Q (.nx ρ') := by
  unfold sTgt
  cases q : f ρ with
  | none => simp
  | some d =>
    cases q' : tg.set d ρ with
    | none => simp [q']
    | some d => simp [q']
@[simp] theorem seq_tgt {tg : Tg} : Ok (sSeq (sTgt tg f) G ρ) Q ↔ ∃ d ρ', f ρ = some d ∧ tg.set d ρ = some ρ' ∧ Ok (G ρ') Q := by rw [seq_ok, ok_tgt]
def par2 (i j : Nat) (ρ : En) : List D → Option Out
  | [x, y] => some (.nx ((ρ.set i (some x)).set j (some y)))
  | _ => none
@[simp] theorem par2_ap {x y : D} : par2 i j ρ [x, y] = some (.nx ((ρ.set i (some x)).set j (some y))) := rfl
@[simp] theorem ok_par : Ok (sPar i j fs ρ) Q ↔ ∃ ds, fs ρ = some ds ∧ Ok (par2 i j ρ ds) Q := by
  unfold sPar
  cases q : fs ρ with
  | none => simp
  | some ds =>
    match ds with
    | [] => simp [par2]
    | [x] => simp [par2]
    | [x, y] => simp [par2]
    | x :: y :: z :: r => simp [par2]
@[simp] theorem seq_par : Ok (sSeq (sPar i j fs) G ρ) Q ↔ ∃ ds, fs ρ = some ds ∧ Ok (par2 i j ρ ds) fun o => match o with | .nx ρ' => Ok (G ρ') Q | o => Q o := by rw [seq_ok, ok_par]
@[simp] theorem ok_do : Ok (sDo f ρ) Q ↔ ∃ d, f ρ = some d ∧ Q (.nx ρ) := by
  unfold sDo
  cases q : f ρ with
  | none => simp
  | some d => simp
@[simp] theorem seq_do : Ok (sSeq (sDo f) G ρ) Q ↔ ∃ d, f ρ = some d ∧ Ok (G ρ) Q := by rw [seq_ok, ok_do]
@[simp] theorem ok_put {fk fv : Ev} : Ok (sPut i fk fv ρ) Q ↔ ∃ ks ds y k q, dV i ρ = some (.dct ks ds) ∧ fv ρ = some y ∧ fk ρ = some k ∧ k.key = some q ∧ ks.length < 16777216 ∧ Q (.nx (ρ.set i (some (.dct (dPutK ks q) (dPutX ks ds q y))))) := by
  constructor
  · rintro ⟨o, e, q⟩
    obtain ⟨ks, ds, y, k, qq, e1, e2, e3, e4, e5, rfl⟩ := sPut_some e
    exact ⟨ks, ds, y, k, qq, e1, e2, e3, e4, e5, q⟩
  · rintro ⟨ks, ds, y, k, qq, e1, e2, e3, e4, e5, q⟩
    exact ⟨_, by unfold sPut; rw [e1]; simp [e2, e3, e4, e5], q⟩
@[simp] theorem seq_put {fk fv : Ev} : Ok (sSeq (sPut i fk fv) G ρ) Q ↔ ∃ ks ds y k q, dV i ρ = some (.dct ks ds) ∧ fv ρ = some y ∧ fk ρ = some k ∧ k.key = some q ∧ ks.length < 16777216 ∧ Ok (G (ρ.set i (some (.dct (dPutK ks q) (dPutX ks ds q y))))) Q := by rw [seq_ok, ok_put]
@[simp] theorem ok_fz : Ok (sFz i F ρ) Q ↔ Ok (F ρ) fun o => i < o.en.length ∧ Q (o.fz i) := by
  unfold sFz
  cases q : F ρ with
  | none => simp
  | some o =>
    by_cases h : i < o.en.length
    · simp [h]
    · simp [h]
/-! loops -/
/-- a list's loop: at each turn all is well, and it goes on, or leaves by a return -/
theorem ok_forX {α : Type} {fg : List Nat} {tg : Tg} {B : Fs} (enc : α → D) (items : List α) (I : List α → En → Prop) (Z : D → Prop) (h0 : I [] ρ)
    (hs : ∀ done a rest ρ, items = done ++ a :: rest → I done ρ → ∃ ρ1, tg.set (enc a) (fgt fg ρ) = some ρ1 ∧ Ok (B ρ1) fun o => match o with | .nx ρ2 => I (done ++ [a]) ρ2 | .ct ρ2 => I (done ++ [a]) ρ2 | .br _ => False | .rt d _ => Z d)
    (hn : ∀ ρ, I items ρ → Q (.nx (fgt fg ρ))) (hr : ∀ d ρ, Z d → Q (.rt d ρ)) : Ok (forL fg tg B (items.map enc) ρ) Q := by
  suffices h : ∀ (rest done : List α) (ρ : En), items = done ++ rest → I done ρ → Ok (forL fg tg B (rest.map enc) ρ) Q from h items [] ρ rfl h0
  intro rest
  induction rest with
  | nil =>
    intro done ρ e q
    simp only [List.map_nil, forL, ok_some]
    rw [List.append_nil] at e
    subst e
    exact hn ρ q
  | cons a rest ih =>
    intro done ρ e q
    obtain ⟨ρ1, e1, o, e2, q2⟩ := hs done a rest ρ e q
    simp only [List.map_cons, forL, e1, Option.bind_some, e2]
    have e' : items = (done ++ [a]) ++ rest := by rw [e]; simp
    cases o with
    | nx ρ2 => exact ih _ ρ2 e' q2
    | ct ρ2 => exact ih _ ρ2 e' q2
    | br ρ2 => exact q2.elim
    | rt d ρ2 => exact ok_some.mpr (hr d ρ2 q2)
theorem ok_for {α : Type} {fg : List Nat} {tg : Tg} {B : Fs} (enc : α → D) (items : List α) (I : List α → En → Prop) (hg : g ρ = some (items.map enc)) (h0 : I [] ρ)
    (hs : ∀ done a rest ρ, items = done ++ a :: rest → I done ρ → ∃ ρ1, tg.set (enc a) (fgt fg ρ) = some ρ1 ∧ Ok (B ρ1) fun o => match o with | .nx ρ2 => I (done ++ [a]) ρ2 | .ct ρ2 => I (done ++ [a]) ρ2 | _ => False)
    (hn : ∀ ρ, I items ρ → Q (.nx (fgt fg ρ))) : Ok (sFor fg g tg B ρ) Q := by
  unfold sFor
  rw [hg]
  refine ok_forX enc items I (fun _ => False) h0 (fun done a rest ρ e q => ?_) hn (fun _ _ z => z.elim)
  obtain ⟨ρ1, e1, k⟩ := hs done a rest ρ e q
  refine ⟨ρ1, e1, k.imp fun o z => ?_⟩
  cases o <;> exact z
theorem seq_for {α : Type} {fg : List Nat} {tg : Tg} {B : Fs} (enc : α → D) (items : List α) (I : List α → En → Prop) (hg : g ρ = some (items.map enc)) (h0 : I [] ρ)
    (hs : ∀ done a rest ρ, items = done ++ a :: rest → I done ρ → ∃ ρ1, tg.set (enc a) (fgt fg ρ) = some ρ1 ∧ Ok (B ρ1) fun o => match o with | .nx ρ2 => I (done ++ [a]) ρ2 | .ct ρ2 => I (done ++ [a]) ρ2 | _ => False)
    (hn : ∀ ρ, I items ρ → Ok (G (fgt fg ρ)) Q) : Ok (sSeq (sFor fg g tg B) G ρ) Q :=
  seq_ok.mpr (ok_for enc items I hg h0 hs fun ρ q => hn ρ q)
/-- range(n)'s loop -/
theorem ok_rg {fg : List Nat} {tg : Tg} {B : Fs} (n : Nat) (I : Nat → En → Prop) (hg : g ρ = some (rangeD 0 n)) (h0 : I 0 ρ)
    (hs : ∀ k ρ, k < n → I k ρ → ∃ ρ1, tg.set (.int k) (fgt fg ρ) = some ρ1 ∧ Ok (B ρ1) fun o => match o with | .nx ρ2 => I (k + 1) ρ2 | .ct ρ2 => I (k + 1) ρ2 | _ => False)
    (hn : ∀ ρ, I n ρ → Q (.nx (fgt fg ρ))) : Ok (sFor fg g tg B ρ) Q := by
  refine ok_for (fun (k : Nat) => D.int (0 + (k : Int))) (List.range n) (fun done ρ => I done.length ρ) hg h0 (fun done a rest ρ e q => ?_) fun ρ q => hn ρ (by simpa using q)
  have hl : done.length < n := by
    have := congrArg List.length e
    simp at this
    omega
  have ha : a = done.length := by
    have h1 : (List.range n)[done.length]? = some a := by rw [e]; simp
    rw [List.getElem?_range hl] at h1
    cases h1; rfl
  obtain ⟨ρ1, e1, k⟩ := hs done.length ρ hl q
  refine ⟨ρ1, by rw [ha, Int.zero_add]; exact e1, k.imp fun o z => ?_⟩
  rw [List.length_append, List.length_singleton]
  exact z
theorem seq_rg {fg : List Nat} {tg : Tg} {B : Fs} (n : Nat) (I : Nat → En → Prop) (hg : g ρ = some (rangeD 0 n)) (h0 : I 0 ρ)
    (hs : ∀ k ρ, k < n → I k ρ → ∃ ρ1, tg.set (.int k) (fgt fg ρ) = some ρ1 ∧ Ok (B ρ1) fun o => match o with | .nx ρ2 => I (k + 1) ρ2 | .ct ρ2 => I (k + 1) ρ2 | _ => False)
    (hn : ∀ ρ, I n ρ → Ok (G (fgt fg ρ)) Q) : Ok (sSeq (sFor fg g tg B) G ρ) Q :=
  seq_ok.mpr (ok_rg n I hg h0 hs fun ρ q => hn ρ q)
theorem lcL_map {α : Type} {tg : Tg} (enc enc' : α → D) : ∀ (xs : List α), (∀ a ∈ xs, ∃ ρ1, tg.set (enc a) ρ = some ρ1 ∧ t ρ1 = some true ∧ f ρ1 = some (enc' a)) → lcL tg t f ρ (xs.map enc) = some (xs.map enc')
  | [], _ => rfl
  | x :: xs, h => by
    obtain ⟨ρ1, e1, e2, e3⟩ := h x List.mem_cons_self
    simp only [List.map_cons, lcL, e1, e2, e3, Option.bind_some, if_true, lcL_map enc enc' xs fun a ha => h a (List.mem_cons_of_mem _ ha)]
theorem dLc_map {α : Type} {vs : List Nat} {tg : Tg} (enc enc' : α → D) (xs : List α) (hg : g ρ = some (xs.map enc)) (h : ∀ a ∈ xs, ∃ ρ1, tg.set (enc a) (wipeE ρ vs) = some ρ1 ∧ t ρ1 = some true ∧ f ρ1 = some (enc' a)) : dLc vs g tg t f ρ = some (.lst (xs.map enc')) := by
  unfold dLc
  rw [hg, Option.bind_some, lcL_map enc enc' xs h]
  rfl
end
def Al {α : Type} (P : α → Prop) (l : List α) : Prop := ∀ x ∈ l, P x
theorem Al.nil {α : Type} {P : α → Prop} : Al P [] := fun _ h => nomatch h
theorem Al.snoc {α : Type} {P : α → Prop} {l : List α} {x : α} (h : Al P l) (hx : P x) : Al P (l ++ [x]) := fun y hy => by
  rcases List.mem_append.mp hy with z | z
  · exact h y z
  · rw [List.mem_singleton.mp z]; exact hx
/-! reading expressions -/
section
variable {ρ : En} {i j : Int} {f f' f'' : Ev} {fs : Es} {t t' : Et} {n : Nat}
@[simp] theorem dV_ap : dV n ρ = (ρ[n]?).join := rfl
@[simp] theorem dC_ap {d : D} : dC d ρ = some d := rfl
@[simp] theorem d1_ap {g : D → Option D} : d1 g f ρ = (f ρ).bind g := rfl
@[simp] theorem d2_ap {g : D → D → Option D} : d2 g f f' ρ = (f ρ).bind fun x => (f' ρ).bind fun y => g x y := rfl
@[simp] theorem dN_ap {g : List D → Option D} : dN g fs ρ = (fs ρ).bind g := rfl
@[simp] theorem aN_ap : aN ρ = some [] := rfl
@[simp] theorem aC_ap : aC f fs ρ = (f ρ).bind fun x => (fs ρ).bind fun xs => some (x :: xs) := rfl
@[simp] theorem dB_ap : dB t ρ = (t ρ).map .bl := rfl
@[simp] theorem t2_ap {g : D → D → Option Bool} : t2 g f f' ρ = (f ρ).bind fun x => (f' ρ).bind fun y => g x y := rfl
@[simp] theorem tAn_ap : tAn t t' ρ = (t ρ).bind fun k => if k = true then t' ρ else some false := rfl
@[simp] theorem tOrr_ap : tOrr t t' ρ = (t ρ).bind fun k => if k = true then some true else t' ρ := rfl
@[simp] theorem tNt_ap : tNt t ρ = (t ρ).map fun k => !k := rfl
@[simp] theorem tYs_ap : tYs ρ = some true := rfl
@[simp] theorem dIf_ap : dIf t f f' ρ = (t ρ).bind fun k => if k = true then f ρ else f' ρ := rfl
@[simp] theorem dFlat_ap : dFlat f ρ = (f ρ).bind fun d => if d.flat then some d else none := rfl
@[simp] theorem dPure_ap : dPure f ρ = (f ρ).bind fun d => if d.pure then some d else none := rfl
@[simp] theorem dNewP_ap : dNewP f ρ = (f ρ).bind fun d => if d.newP then some d else none := rfl
@[simp] theorem dItems_ap : dItems f ρ = (f ρ).bind D.its := rfl
@[simp] theorem oNo_ap : oNo ρ = some none := rfl
@[simp] theorem flat_int : (D.int i).flat = true := rfl
@[simp] theorem flat_str {s : Str} : (D.str s).flat = true := rfl
@[simp] theorem flat_bl {s : Bool} : (D.bl s).flat = true := rfl
@[simp] theorem flat_non : D.non.flat = true := rfl
@[simp] theorem flat_tup {ds : List D} : (D.tup ds).flat = true := rfl
@[simp] theorem pure_int : (D.int i).pure = true := rfl
@[simp] theorem pure_str {s : Str} : (D.str s).pure = true := rfl
@[simp] theorem pure_bl {s : Bool} : (D.bl s).pure = true := rfl
@[simp] theorem pure_non : D.non.pure = true := rfl
@[simp] theorem add_int : D.add (.int i) (.int j) = some (.int (i + j)) := rfl
theorem add_lst {x y : List D} (h : x.length + y.length ≤ 16777216) : D.add (.lst x) (.lst y) = some (.lst (x ++ y)) := if_pos h
@[simp] theorem addF_int : D.addF (.int i) (.int j) = some (.int (i + j)) := rfl
@[simp] theorem sub_int : D.sub (.int i) (.int j) = some (.int (i - j)) := rfl
theorem mul_int (h : (-18446744073709551616 < i ∧ i < 18446744073709551616) ∨ (-18446744073709551616 < j ∧ j < 18446744073709551616)) : D.mul (.int i) (.int j) = some (.int (i * j)) := by
  show (if decide ((-(2 ^ 64) < i ∧ i < 2 ^ 64) ∨ (-(2 ^ 64) < j ∧ j < 2 ^ 64)) = true then _ else _) = _
  rw [if_pos (decide_eq_true (by omega))]
theorem fdiv_int (h : j ≠ 0 ∧ j.natAbs < 1073741824) : D.fdiv (.int i) (.int j) = some (.int (i.fdiv j)) := by
  show (if decide (j ≠ 0 ∧ j.natAbs < 1073741824) = true then _ else _) = _
  rw [if_pos (decide_eq_true h)]
theorem mod_int (h : j ≠ 0) : D.mod (.int i) (.int j) = some (.int (i.fmod j)) := by
  show (if decide (j ≠ 0) = true then _ else _) = _
  rw [if_pos (decide_eq_true h)]
@[simp] theorem neg_int : D.neg (.int i) = some (.int (-i)) := rfl
@[simp] theorem ltB_int : D.ltB (.int i) (.int j) = some (decide (i < j)) := rfl
@[simp] theorem leB_int : D.leB (.int i) (.int j) = some (decide (i ≤ j)) := rfl
@[simp] theorem gtB_int : D.gtB (.int i) (.int j) = some (decide (j < i)) := rfl
@[simp] theorem geB_int : D.geB (.int i) (.int j) = some (decide (j ≤ i)) := rfl
@[simp] theorem eqB_int : D.eqB (.int i) (.int j) = some (decide (i = j)) := rfl
@[simp] theorem neB_int : D.neB (.int i) (.int j) = some (!decide (i = j)) := rfl
@[simp] theorem eqB_str {x y : Str} : D.eqB (.str x) (.str y) = some (decide (x = y)) := rfl
@[simp] theorem neB_str {x y : Str} : D.neB (.str x) (.str y) = some (!decide (x = y)) := rfl
@[simp] theorem len_lst {ds : List D} : D.len [.lst ds] = some (.int ds.length) := rfl
@[simp] theorem len_tup {ds : List D} : D.len [.tup ds] = some (.int ds.length) := rfl
@[simp] theorem len_scr {ns : List Int} : D.len [.scr ns] = some (.int ns.length) := rfl
@[simp] theorem max2_int : D.max2 [.int i, .int j] = some (.int (if j > i then j else i)) := rfl
@[simp] theorem min2_int : D.min2 [.int i, .int j] = some (.int (if j < i then j else i)) := rfl
@[simp] theorem int1_bl {b : Bool} : D.int1 [.bl b] = some (.int (if b then 1 else 0)) := rfl
@[simp] theorem tupOf_lst {ds : List D} : D.tupOf [.lst ds] = some (.tup ds) := rfl
@[simp] theorem tupOf_tup {ds : List D} : D.tupOf [.tup ds] = some (.tup ds) := rfl
@[simp] theorem its_lst {ds : List D} : (D.lst ds).its = some ds := rfl
@[simp] theorem its_tup {ds : List D} : (D.tup ds).its = some ds := rfl
theorem mkT_of {ds : List D} (h : ds.length ≤ 16777216) : D.mkT ds = some (.tup ds) := if_pos h
theorem mkL_of {ds : List D} (h : ds.length ≤ 16777216) : D.mkL ds = some (.lst ds) := if_pos h
@[simp] theorem mkLF_nil : D.mkLF [] = some (.lst []) := if_pos ⟨by decide, rfl⟩
@[simp] theorem idx_tup {ds : List D} : D.idx (.tup ds) (.int i) = atI ds i := rfl
@[simp] theorem idx_lst {ds : List D} : D.idx (.lst ds) (.int i) = atI ds i := rfl
@[simp] theorem idx_scr {ns : List Int} : D.idx (.scr ns) (.int i) = (atI ns i).map .int := rfl
@[simp] theorem tgNm {d : D} : (Tg.nm n).set d ρ = some (ρ.set n (some d)) := rfl
@[simp] theorem tgTp {is : List Nat} {ds : List D} : (Tg.tp is).set (.tup ds) ρ = if ds.length = is.length then some (setAll is ds ρ) else none := rfl
@[simp] theorem setAll_c {m : Nat} {is : List Nat} {d : D} {ds : List D} : setAll (m :: is) (d :: ds) ρ = setAll is ds (ρ.set m (some d)) := rfl
@[simp] theorem setAll_n {ds : List D} : setAll [] ds ρ = ρ := by cases ds <;> rfl
@[simp] theorem fgt_c {m : Nat} {is : List Nat} : fgt (m :: is) ρ = fgt is (ρ.set m none) := rfl
@[simp] theorem fgt_n : fgt [] ρ = ρ := rfl
@[simp] theorem iRg1_ap : iRg1 f ρ = (f ρ).bind fun d => match d with
  | .int n => if -(2 ^ 62) ≤ n ∧ n ≤ 16777216 then some (rangeD 0 n.toNat) else none
  | _ => none := rfl
@[simp] theorem en_rt {d : D} : (Out.rt d ρ).en = ρ := rfl
@[simp] theorem en_nx : (Out.nx ρ).en = ρ := rfl
@[simp] theorem fz_rt {d : D} : (Out.rt d ρ).fz n = .rt d (ρ.set n none) := rfl
@[simp] theorem fz_nx : (Out.nx ρ).fz n = .nx (ρ.set n none) := rfl
@[simp] theorem newP_tup {ds : List D} : (D.tup ds).newP = D.pures ds := rfl
@[simp] theorem newP_lst {ds : List D} : (D.lst ds).newP = D.pures ds := rfl
@[simp] theorem newP_int : (D.int i).newP = true := rfl
@[simp] theorem newP_str {s : Str} : (D.str s).newP = true := rfl
@[simp] theorem pure_tup {ds : List D} : (D.tup ds).pure = D.pures ds := rfl
@[simp] theorem pures_nil : D.pures [] = true := rfl
@[simp] theorem pures_cons {d : D} {ds : List D} : D.pures (d :: ds) = (d.pure && D.pures ds) := rfl
theorem pures_map {α : Type} {enc : α → D} (h : ∀ x, (enc x).pure = true) : ∀ xs : List α, D.pures (xs.map enc) = true
  | [] => rfl
  | x :: xs => by rw [List.map_cons, pures_cons, h x, pures_map h xs]; rfl
@[simp] theorem dGet2_ap : dGet2 f f' f'' ρ = (f ρ).bind fun d => match d with
  | .dct ks ds => (f' ρ).bind fun k => k.key.bind fun q => (f'' ρ).bind fun z => some ((dLook ks ds q).getD z)
  | _ => none := rfl
@[simp] theorem key_str {s : Str} : (D.str s).key = some (.inr s) := rfl
@[simp] theorem key_int : (D.int i).key = some (.inl i) := rfl
@[simp] theorem idx_dct {ks : List Key} {ds : List D} {k : D} : D.idx (.dct ks ds) k = k.key.bind fun q => dLook ks ds q := by cases k <;> rfl
theorem dLook_map {α : Type} {enc : α → D} : ∀ {ks : List Key} {es : List α} {q : Key}, dLook ks (es.map enc) q = (dLook ks es q).map enc
  | [], _, _ => rfl
  | _ :: _, [], _ => rfl
  | k :: ks, e :: es, q => by
    simp only [List.map_cons, dLook]
    split
    · rfl
    · exact dLook_map
theorem dLook_mem {α : Type} : ∀ {ks : List Key} {es : List α} {q : Key} {e : α}, dLook ks es q = some e → e ∈ es
  | [], _, _, _, h => by simp [dLook] at h
  | _ :: _, [], _, _, h => by simp [dLook] at h
  | k :: ks, e :: es, q, x, h => by
    simp only [dLook] at h
    split at h
    · cases h; exact List.mem_cons_self
    · exact List.mem_cons_of_mem _ (dLook_mem h)
theorem dRepl_map {α : Type} {enc : α → D} {x : α} : ∀ {ks : List Key} {es : List α} {q : Key}, dRepl ks (es.map enc) q (enc x) = (dRepl ks es q x).map enc
  | [], _, _ => rfl
  | _ :: _, [], _ => rfl
  | k :: ks, e :: es, q => by
    simp only [List.map_cons, dRepl]
    split
    · rfl
    · rw [List.map_cons, dRepl_map]
theorem dRepl_mem {α : Type} {x y : α} : ∀ {ks : List Key} {es : List α} {q : Key}, y ∈ dRepl ks es q x → y = x ∨ y ∈ es
  | [], _, _, h => by simp [dRepl] at h
  | _ :: _, [], _, h => by simp [dRepl] at h
  | k :: ks, e :: es, q, h => by
    simp only [dRepl] at h
    split at h
    · rcases List.mem_cons.mp h with z | z
      · exact .inl z
      · exact .inr (List.mem_cons_of_mem _ z)
    · rcases List.mem_cons.mp h with z | z
      · exact .inr (by rw [z]; exact List.mem_cons_self)
      · rcases dRepl_mem z with z | z
        · exact .inl z
        · exact .inr (List.mem_cons_of_mem _ z)
theorem dPutX_map {α : Type} {enc : α → D} {x : α} {ks : List Key} {es : List α} {q : Key} : dPutX ks (es.map enc) q (enc x) = (dPutX ks es q x).map enc := by
  unfold dPutX
  split
  · exact dRepl_map
  · simp
theorem dPutX_mem {α : Type} {x y : α} {ks : List Key} {es : List α} {q : Key} (h : y ∈ dPutX ks es q x) : y = x ∨ y ∈ es := by
  unfold dPutX at h
  split at h
  · exact dRepl_mem h
  · rcases List.mem_append.mp h with z | z
    · exact .inr z
    · exact .inl (List.mem_singleton.mp z)
theorem dLook_repl {α : Type} {x : α} : ∀ {ks : List Key} {es : List α} {q : Key}, ks.length = es.length → q ∈ ks → dLook ks (dRepl ks es q x) q = some x
  | [], _, _, _, h => nomatch h
  | _ :: _, [], _, h, _ => by simp at h
  | k :: ks, e :: es, q, hl, h => by
    simp only [dRepl]
    by_cases z : k = q
    · rw [if_pos z]; simp [dLook, z]
    · rw [if_neg z]
      simp only [dLook, if_neg z]
      refine dLook_repl (by simpa using hl) ?_
      rcases List.mem_cons.mp h with u | u
      · exact absurd u.symm z
      · exact u
theorem dLook_app {α : Type} {x : α} : ∀ {ks : List Key} {es : List α} {q : Key}, ks.length = es.length → q ∉ ks → dLook (ks ++ [q]) (es ++ [x]) q = some x
  | [], [], _, _, _ => by simp [dLook]
  | [], _ :: _, _, h, _ => by simp at h
  | _ :: _, [], _, h, _ => by simp at h
  | k :: ks, e :: es, q, hl, h => by
    simp only [List.cons_append, dLook]
    rw [if_neg fun z => h (by rw [z]; exact List.mem_cons_self)]
    exact dLook_app (by simpa using hl) fun z => h (List.mem_cons_of_mem _ z)
theorem dLook_put {α : Type} {x : α} {ks : List Key} {es : List α} {q : Key} (hl : ks.length = es.length) : dLook (dPutK ks q) (dPutX ks es q x) q = some x := by
  unfold dPutK dPutX
  split
  · exact dLook_repl hl (by assumption)
  · exact dLook_app hl (by assumption)
theorem dPut_len2 {α : Type} {x : α} {ks : List Key} {es : List α} {q : Key} (hl : ks.length = es.length) : (dPutK ks q).length = (dPutX ks es q x).length ∧ (dPutK ks q).length ≤ ks.length + 1 := by
  unfold dPutK dPutX
  split
  · exact ⟨by rw [dRepl_len ks es q x hl]; exact hl, by omega⟩
  · simp [hl]
@[simp] theorem atI0 {α : Type} {x : α} {xs : List α} : atI (x :: xs) 0 = some x := by unfold atI ixN; rw [if_pos (by decide), if_pos (by simp <;> omega)]; rfl
@[simp] theorem atI1 {α : Type} {x y : α} {xs : List α} : atI (x :: y :: xs) 1 = some y := by unfold atI ixN; rw [if_pos (by decide), if_pos (by simp <;> omega)]; rfl
@[simp] theorem atI2 {α : Type} {x y z : α} {xs : List α} : atI (x :: y :: z :: xs) 2 = some z := by unfold atI ixN; rw [if_pos (by decide), if_pos (by simp <;> omega)]; rfl
@[simp] theorem atI3 {α : Type} {x y z u : α} {xs : List α} : atI (x :: y :: z :: u :: xs) 3 = some u := by unfold atI ixN; rw [if_pos (by decide), if_pos (by simp <;> omega)]; rfl
theorem atI_of {α : Type} {xs : List α} {i : Int} (h0 : 0 ≤ i) (h : i < xs.length) : atI xs i = xs[i.toNat]? := by
  unfold atI ixN
  rw [if_pos h0, if_pos h]
  rfl
theorem atI_nat {α : Type} {xs : List α} {k : Nat} (h : k < xs.length) : atI xs (k : Int) = xs[k]? := atI_of (by omega) (by omega)
end
end DL

namespace DL
open PySem PySem.Spec PyProof.Rows L2
/-- the law's def answers True at each script -/
theorem law_head [Tabs] {K : PySem.W.Frag} {F : List D → Option D} {n : Nat} (h : ∀ ns : List Int, ns.length ≤ n → F [.scr ns] = some (.bl true)) (H : Hp) (a : Addr) (ns : List Int) (hl : ns.length ≤ n) (hO : Only H) (hT : ∀ p ∈ Tabs.T, TabOk H p) (hS : SqL K H a (ns.map V.int)) : spP K 1 F [.ref a] H (fun v _ => v = .bl true) fun _ _ _ => False := by
  have hs : Scr K H a (ns.map V.int) := by
    rcases hS with (z | z) | z
    · rcases hO a with q | ⟨o, xs, q⟩
      · rw [q] at z; cases z
      · rw [q] at z; cases z
    · exact .inl z
    · exact .inr z
  refine ⟨fun _ => True, [.scr ns], .bl true, rfl, ?_, fun _ _ => trivial, h ns hl, hT, fun v H' A s o n z => ?_⟩
  · simp only [Reps, Rep]
    exact ⟨.ref a, [], rfl, ⟨a, rfl, hs⟩, rfl⟩
  · simp only [Own] at o
    exact o.2
end DL

/-! A generator expression of tests, any target, walked by any(..). -/
namespace DL
open PySem PySem.Spec PyProof.Rows L2
section
variable {prog : Program} {w : World} {A : Around} {tgt : Expr} {I : Addr} {fp wr : List Addr} {n : Nat} {Y : Nat → Value → Heap → Prop} {St : Nat → Heap → Prop} {cenv : Env} {elt iter : Expr} {scope : Scope} {pos : Pos} {pb : Nat → Bool}
theorem goes_fp {fp' : List Addr} (W : Goes prog w A tgt I fp wr n Y St) (h : ∀ b ∈ fp, b ∈ fp') : Goes prog w A tgt I fp' wr n Y St :=
  { sub := fun b hb => h b (W.sub b hb), frame := fun i h1 h2 st k => W.frame i h1 h2 st fun b hb o e => k b (h b hb) o e, goes := W.goes, stops := W.stops, self := W.self }
abbrev genE (elt tgt iter : Expr) (scope : Scope) (pos : Pos) : Expr := .GeneratorExp elt [⟨tgt, iter, [], 0⟩] scope pos
/-- one turn: the target is assigned, the test told -/
def TurnOk (prog : Program) (w : World) (cenv : Env) (tgt elt : Expr) (fp wr : List Addr) (n : Nat) (Y : Nat → Value → Heap → Prop) (pb : Nat → Bool) (href : Heap) : Prop :=
  ∀ (A' : Around) (E' : Value → Shared → Prop) (i : Nat) (v : Value) (s2 : Shared) (m2 : Str → Option Value), A'.handled = none → i < n → Y i v s2.heap → s2.heap.Ns cenv.locals m2 → (∀ b ∈ fp, b ∉ wr → ∀ o, href.get? b = some o → s2.heap.get? b = some o) →
    wpAny (model prog w) A' (assign tgt cenv v) (fun _ s3 => ∃ h3 m3 tk3, s3 = { s2 with heap := h3, toks := tk3 } ∧ (∀ b o, b ≠ cenv.locals → s2.heap.get? b = some o → h3.get? b = some o) ∧ h3.Ns cenv.locals m3 ∧
      ∀ (A2 : Around) (E2 : Value → Shared → Prop), A2.handled = none → wpAny (model prog w) A2 (eval elt cenv) (fun y s4 => y = .bool (pb i) ∧ Keeps s3 s4) E2 s3) E' s2
abbrev gF (pb : Nat → Bool) : Nat → Value → Prop := fun i y => y = .bool (pb i)
abbrev yes : Nat → Bool := fun _ => true
theorem gen_loop (hh : A.handled = none) (W : ∀ A' : Around, A'.handled = none → Goes prog w A' tgt I fp wr n Y St) (href : Heap) (hco : cenv.scope.isCoroutine = false) (hC : cenv.locals ∉ fp) (hq : TurnOk prog w cenv tgt elt fp wr n Y pb href) :
    ∀ (k i : Nat) (s0 s : Shared) (m : Str → Option Value), n - i = k → i ≤ n → St i s.heap → s.heap.Ns cenv.locals m → GenSince cenv.locals wr s0 s → (∀ b ∈ fp, b ∉ wr → ∀ o, href.get? b = some o → s.heap.get? b = some o) →
      Seg (model prog w) A (fun n s0 r s1 => r = .ok .next ∧ (n = 0 ∧ GenSince cenv.locals wr s0 s1)) (genProto cenv.locals fp wr yes n (gF pb)) (passing yes n i).length s0
        (.compLoop (genE elt tgt iter scope pos) 0 (.ref I) .none cenv) ((model prog w).den (.compLoop (genE elt tgt iter scope pos) 0 (.ref I) .none cenv)) [] s := by
  have hh' : (A.over (.compLoop (genE elt tgt iter scope pos) 0 (.ref I) .none cenv) []).handled = none := hh
  have hCw : cenv.locals ∉ wr := fun h => hC ((W A hh).sub _ h)
  intro k
  induction k with
  | zero =>
    intro i s0 s m hk hi hst hn hsince hkp
    obtain rfl : i = n := by omega
    show Seg _ A _ _ _ s0 _ ((compTurn (genE elt tgt iter scope pos) 0 (.ref I) .none cenv).onRaise (leaving cenv)) [] s
    rw [compTurn_gen, Sem.onRaise_eq_wrap]
    refine seg_bind_wrap (wpAny_standAt ?_)
    refine seg_bind_wrap (wpAny_mono ((W _ hh').stops s (fun s1 => GenSince cenv.locals wr s0 s1) _ hst fun h' tk k' _ => hsince.step fun b o _ hw e => k' b o hw e) (fun r s1 z => ?_) fun _ _ e => e)
    obtain ⟨rfl, z⟩ := z
    exact seg_end (.ok .next) ⟨rfl, by rw [passing_end]; rfl, z⟩
  | succ k ih =>
    intro i s0 s m hk hi hst hn hsince hkp
    have hlt : i < n := by omega
    show Seg _ A _ _ _ s0 _ ((compTurn (genE elt tgt iter scope pos) 0 (.ref I) .none cenv).onRaise (leaving cenv)) [] s
    rw [compTurn_gen, Sem.onRaise_eq_wrap]
    refine seg_bind_wrap (wpAny_standAt ?_)
    refine seg_bind_wrap (wpAny_mono ((W _ hh').goes i s (fun v s2 => ∃ h1 tk1, s2 = { s with heap := h1, toks := tk1 } ∧ Y i v h1 ∧ St (i + 1) h1 ∧ ∀ b o, b ∉ wr → s.heap.get? b = some o → h1.get? b = some o) _ hlt hst fun v h1 tk1 hY st1 k1 _ => ⟨h1, tk1, rfl, hY, st1, k1⟩) (fun r s1 z => ?_) fun _ _ e => e)
    obtain ⟨v, rfl, z⟩ := z
    refine seg_bind_wrap (wpAny_mono z (fun _ s2 z => ?_) fun _ _ e => e)
    obtain ⟨h1, tk1, rfl, hY, st1, k1⟩ := z
    refine seg_bind_wrap (wpAny_mono (hq _ _ i v _ m hh' hlt hY (hn.at' fun o e => k1 _ o hCw e) fun b hb hbw o e => k1 b o hbw (hkp b hb hbw o e)) (fun _ s3 z => ?_) fun _ _ e => e)
    obtain ⟨h3, m3, tk3, rfl, k3, n3, el⟩ := z
    have st3 : St (i + 1) h3 := (W A hh).frame _ _ _ st1 fun b hb o e => k3 b o (fun z => hC (z ▸ hb)) e
    have up : ∀ b o, b ≠ cenv.locals → b ∉ wr → s.heap.get? b = some o → h3.get? b = some o := fun b o q1 q2 e => k3 b o q1 (k1 b o q2 e)
    have kp3 : ∀ b ∈ fp, b ∉ wr → ∀ o, href.get? b = some o → h3.get? b = some o := fun b hb hbw o e => up b o (fun z => hC (z ▸ hb)) hbw (hkp b hb hbw o e)
    have since3 : GenSince cenv.locals wr s0 { s with heap := h3, toks := tk3 } := hsince.step up
    refine seg_bind_wrap ?_
    simp only [List.forIn_nil]
    refine wpAny_pure ?_
    rw [passing_true hlt rfl, List.length_cons]
    simp only [if_true]
    have hy : ∀ v, yieldOut cenv v = yieldValue v := fun v => by simp only [yieldOut, hco, Bool.false_eq_true, if_false]
    simp only [hy]
    rw [Sem.bind_eq_wrap', Sem.bind_eq_wrap', Sem.wrap_wrap, Sem.wrap_wrap]
    refine seg_wrap (wpAny_mono (el _ _ hh') (fun y s4 z => ?_) fun _ _ e => e)
    obtain ⟨hF, h4, tk4, rfl, k4⟩ := z
    refine seg_at (seg_yield rfl rfl rfl ⟨⟨i, passing_here hlt rfl, hF⟩, since3.step fun b o _ _ e => k4 b o e, fun s5 al => ?_⟩)
    refine seg_again rfl (ih (i + 1) s5 s5 m3 (by omega) hlt ((W A hh).frame _ _ _ st3 fun b hb o e => al b (List.mem_cons_of_mem _ hb) o (k4 b o e)) ((n3.keeps k4).at' fun o e => al _ List.mem_cons_self o e) (GenSince.refl _ _ _)
      fun b hb hbw o e => al b (List.mem_cons_of_mem _ hb) o (k4 b o (kp3 b hb hbw o e)))
theorem gen_start (hh : A.handled = none) (W : ∀ A' : Around, A'.handled = none → Goes prog w A' tgt I fp wr n Y St) (href : Heap) (hco : cenv.scope.isCoroutine = false) (hC : cenv.locals ∉ fp) (hq : TurnOk prog w cenv tgt elt fp wr n Y pb href)
    (s0 s : Shared) (m : Str → Option Value) (hst : St 0 s.heap) (hn : s.heap.Ns cenv.locals m) (hsince : GenSince cenv.locals wr s0 s) (hkp : ∀ b ∈ fp, b ∉ wr → ∀ o, href.get? b = some o → s.heap.get? b = some o) :
    Seg (model prog w) A (fun n s0 r s1 => r = .ok .next ∧ (n = 0 ∧ GenSince cenv.locals wr s0 s1)) (genProto cenv.locals fp wr yes n (gF pb)) (passing yes n 0).length s0
      (.compStart (genE elt tgt iter scope pos) 0 (.ref I) .none cenv) ((model prog w).den (.compStart (genE elt tgt iter scope pos) 0 (.ref I) .none cenv)) [] s := by
  have hh' : (A.over (.compStart (genE elt tgt iter scope pos) 0 (.ref I) .none cenv) []).handled = none := hh
  have loop := gen_loop (iter := iter) (scope := scope) (pos := pos) hh W href hco hC hq n 0 s0 s m (Nat.sub_zero _) (Nat.zero_le _) hst hn hsince hkp
  show Seg _ A _ _ _ s0 _ ((compStart (genE elt tgt iter scope pos) 0 (.ref I) .none cenv).onRaise (leaving cenv)) [] s
  unfold compStart
  rw [Sem.onRaise_eq_wrap]
  show Seg _ A _ _ _ s0 _ ((ask >>= _).wrap _ _ _ _) [] s
  refine seg_bind_wrap (wpAny_askSetting ?_)
  split
  · exact seg_again rfl loop
  · exact seg_bind_wrap (wpAny_rule (seg_bind_wrap (wpAny_standAt (seg_bind_wrap ((W _ hh').self 0 s _ _ hst (seg_again rfl loop))))))
theorem gen_fresh {a : Addr} {g : Nat} (hh : A.handled = none) (W : ∀ A' : Around, A'.handled = none → Goes prog w A' tgt I fp wr n Y St) (hco : cenv.scope.isCoroutine = false) (hC : cenv.locals ∉ fp) {s : Shared} {m : Str → Option Value} (hq : TurnOk prog w cenv tgt elt fp wr n Y pb s.heap)
    (hg : s.heap.IsGen a g) (hgs : s.gens[g]? = some (.fresh (.compStart (genE elt tgt iter scope pos) 0 (.ref I) .none cenv))) (hst : St 0 s.heap) (hn : s.heap.Ns cenv.locals m) (hl : s.heap.NoLimit) : GenAt prog w A a g cenv.locals fp wr yes n (gF pb) 0 s :=
  ⟨hg, hl, _, hgs, fun s' al => ⟨rfl, gen_start (A := A.in1) hh W s.heap hco hC hq s' s' m ((W A hh).frame _ _ _ hst fun b hb o e => al b (List.mem_cons_of_mem _ hb) o e)
    (hn.at' fun o e => al _ List.mem_cons_self o e) (GenSince.refl _ _ _) fun b hb _ o e => al b (List.mem_cons_of_mem _ hb) o e⟩⟩
end
section
variable {prog : Program} {w : World} {A : Around} {E : Value → Shared → Prop} {s : Shared}
theorem gen_walks {env : Env} {elt tgt iter : Expr} {scope : Scope} {cl : List (Str × Addr)} {pos : Pos} {Q : Value → Shared → Prop}
    (hh : A.handled = none) (hco : scope.isCoroutine = false) (hclos : closureFor scope env = pure cl) (hcell : ∀ y ∈ scope.names, y.2 ≠ .cell) (h0 : scope.names.lookup (".0" : Str) = some NameKind.local) (hkind : scope.kind = .function) (hroom : A.depth < recursionLimit)
    (h : wpAny (model prog w) A (eval iter env) (fun xv s1 => wpAny (model prog w) A (pyIter xv) (fun it s2 => s2.heap.NoLimit ∧
      wpAny (model prog w) A (genexprCode env pos (env.qual ++ "<genexpr>") scope) (fun code s3 => wpAny (model prog w) A (builtinsFor env.globals env.builtins) (fun bi s4 =>
        ∃ I fp wr n Y St pb, it = .ref I ∧ (∀ A' : Around, A'.handled = none → Goes prog w A' tgt I fp wr n Y St) ∧ St 0 s4.heap ∧ (∀ b ∈ fp, b < s4.heap.objs.size) ∧ s4.heap.NoLimit ∧ cStatics ∉ wr ∧
          (∀ href : Heap, (∀ b o, s4.heap.get? b = some o → href.get? b = some o) → TurnOk prog w (genEnv scope cl s4.heap.objs.size code bi env) tgt elt (List.range s4.heap.objs.size) wr n Y pb href) ∧
          (∀ a h5 tk gs, gs.bare = true → s4.heap.objs.size < a → h5.objs.size = a + 1 → (∀ b o, s4.heap.get? b = some o → h5.get? b = some o) →
            WalksS prog w A.in4 a (a :: s4.heap.objs.size :: List.range s4.heap.objs.size) (s4.heap.objs.size :: wr) (GenOnlyQ s4.gens.size) (passing yes n 0).length
              (fun j y => ∃ i, (passing yes n 0)[j]? = some i ∧ gF pb i y) (GenAt prog w A.in4 a s4.gens.size s4.heap.objs.size (List.range s4.heap.objs.size) wr yes n (gF pb)) →
            GenAt prog w A.in4 a s4.gens.size s4.heap.objs.size (List.range s4.heap.objs.size) wr yes n (gF pb) 0 { s4 with gens := s4.gens.push gs, toks := tk, heap := h5 } →
            Q (.ref a) { s4 with gens := s4.gens.push gs, toks := tk, heap := h5 })) E s3) E s2) E s1) E s)
    (hs : ∀ x, genFold iter env x = pure x) : wpAny (model prog w) A (eval (genE elt tgt iter scope pos) env) Q E s := by
  refine wpAny_GeneratorExp_make hco hclos hcell h0 hkind hroom (wpAny_mono h (fun xv s1 h1 => wpAny_mono h1 (fun it s2 h2 => ⟨h2.1, wpAny_mono h2.2 (fun code s3 h3 => wpAny_mono h3 (fun bi s4 h4 => ?_)
    fun _ _ e => e) fun _ _ e => e⟩) fun _ _ e => e) fun _ _ e => e) hs
  obtain ⟨I, fp, wr, n, Y, St, pb, rfl, W, hst, hfp, hl4, hcw, hq, hQ⟩ := h4
  have hclt : cStatics < s4.heap.objs.size := let ⟨_, hn, _⟩ := hl4; hn.lt
  intro h' hn' hs'
  have hsz : h'.objs.size = s4.heap.objs.size + 1 := by rw [hs'.1, Heap.size_push]
  have keep' : ∀ b o, s4.heap.get? b = some o → h'.get? b = some o := fun b o e => hs'.extBut b o (Nat.ne_of_lt (Heap.lt_size e)) (Heap.get?_push_of_some _ e)
  have hsub : ∀ b ∈ wr, b ∈ List.range s4.heap.objs.size := fun b hb => List.mem_range.mpr (hfp b ((W A hh).sub b hb))
  have haC : h'.objs.size ≠ s4.heap.objs.size := by rw [hsz]; exact Nat.succ_ne_self _
  have haf : h'.objs.size ∉ List.range s4.heap.objs.size := fun hm => by have := List.mem_range.mp hm; omega
  have keep5 : ∀ b o, s4.heap.get? b = some o → (h'.push { cls := .type "generator", data := .fields #[.int s4.gens.size 0, .str "<genexpr>" (s4.toks + 1), .str (env.qual ++ "<genexpr>") (s4.toks + 1 + 1)] }).get? b = some o :=
    fun b o e => Heap.get?_push_of_some _ (keep' b o e)
  refine hQ _ _ _ _ rfl (by omega) (by rw [Heap.size_push]) keep5 (WalksS.genexpQ (A := A.in4) hh _ _ _ _ wr yes n (gF pb) haC haf hsub hroom (List.mem_range.mpr hclt) (Nat.ne_of_lt hclt) hcw) ?_
  exact gen_fresh (A := A.in4) (cenv := genEnv scope cl s4.heap.objs.size code bi env) (m := fun y => if y = ".0" then some (.ref I) else none) hh (fun A' hA => goes_fp (W A' hA) fun b hb => List.mem_range.mpr (hfp b hb)) hco
    (fun hm => Nat.lt_irrefl _ (List.mem_range.mp hm)) (hq _ keep5) ⟨_, _, _, Heap.get?_push_size _ rfl, rfl, rfl, rfl⟩ (Array.getElem?_push_size ..) ((W A hh).frame _ _ _ hst fun b _ o e => keep5 b o e) (hn'.push _) (hl4.keeps keep5)
end
end DL

/-! any(test for targets in e), e a list or a tuple. -/
namespace DL
open PySem PySem.Spec PyProof.Rows L2
open GxR (TabB TabG Tabbed inv_tab sh_eta keeps_refl passing_true)
structure GenSc (env : Env) (scope : Scope) : Prop where
  kind : scope.kind = .function
  co : scope.isCoroutine = false
  cell : ∀ y ∈ scope.names, y.2 ≠ .cell
  dot : scope.names.lookup (".0" : Str) = some NameKind.local
  free : ∀ y ∈ scope.names, y.2 = .free → env.scope.names.lookup y.1 = some .cell ∨ env.scope.names.lookup y.1 = some .free
section
variable {X : Cx} {pins : List (Addr × Obj)} {σ : L2.St} {H : Hp} {s : Shared} {c P : Addr} {elt iter tgt : Expr} {scope : Scope} {pos gpos p : Pos} {k : Nat} {te : TE}
/-- what the turns want to know: the heap h4 keeps all of s but the table P -/
def Turns (X : Cx) (P : Addr) (scope : Scope) (tgt elt : Expr) (s : Shared) (its : Array Value) (pb : Nat → Bool) : Prop :=
  ∀ (h4 : Heap) (code : Value) (bi : Addr), (∀ b o, b ≠ P → s.heap.get? b = some o → h4.get? b = some o) → s.heap.objs.size < h4.objs.size →
    TurnOk X.prog X.w (genEnv scope (cloFrom X.env.cells scope.names []) h4.objs.size code bi X.env) tgt elt (List.range h4.objs.size) [s.heap.objs.size] its.size (fun i v _ => its[i]? = some v) pb h4
def ReadyD (X : Cx) (pins : List (Addr × Obj)) (σ : L2.St) (H1 : Hp) (P : Addr) (n : Nat) (pb : Nat → Bool) (g : Addr) (s5 : Shared) : Prop :=
  ∃ (fp wr : List Addr) (G : Array GenState → Array GenState → Prop) (F : Nat → Value → Prop) (St : Nat → Shared → Prop),
    WalksS X.prog X.w X.A.in1 g fp wr G n F St ∧ St 0 s5 ∧ TruthOf X.prog X.w X.A.in1 F pb ∧ ∀ s', Moved wr G s5 s' → ∃ H2, Tabbed P H1 H2 ∧ Inv X pins σ H2 s'
theorem gen_after {o : Obj} {its : Array Value} {a : Addr} {St : Nat → Heap → Prop} {ps : Array Value} {pb : Nat → Bool} {Q' : Value → Shared → Prop}
    (hr : Room k X.A) (TB : TabB X.base X.mg c P) (hcode : X.env.code = .ref c) (I1 : Inv X pins σ H s) (hP : H P = some (.tbl ps)) (ht : TriplesOk ps.toList)
    (W : ∀ A' : Around, A'.handled = none → Goes X.prog X.w A' tgt s.heap.objs.size [s.heap.objs.size, a] [s.heap.objs.size] its.size (fun i v _ => its[i]? = some v) St) (hst : St 0 (s.heap.push o)) (haP : a ≠ P) (hal : a < s.heap.objs.size)
    (hT : Turns X P scope tgt elt s its pb) (hQ : ∀ g s5, ReadyD X pins σ H P its.size pb g s5 → Q' (.ref g) s5) :
    (s.heap.push o).NoLimit ∧ wpAny (model X.prog X.w) X.A (genexprCode X.env gpos (X.env.qual ++ "<genexpr>") scope) (fun code s3 => wpAny (model X.prog X.w) X.A (builtinsFor X.env.globals X.env.builtins) (fun bi s4 =>
        ∃ I fp wr n Y St pb, (Value.ref s.heap.objs.size) = .ref I ∧ (∀ A' : Around, A'.handled = none → Goes X.prog X.w A' tgt I fp wr n Y St) ∧ St 0 s4.heap ∧ (∀ b ∈ fp, b < s4.heap.objs.size) ∧ s4.heap.NoLimit ∧ cStatics ∉ wr ∧
          (∀ href : Heap, (∀ b o, s4.heap.get? b = some o → href.get? b = some o) → TurnOk X.prog X.w (genEnv scope (cloFrom X.env.cells scope.names []) s4.heap.objs.size code bi X.env) tgt elt (List.range s4.heap.objs.size) wr n Y pb href) ∧
          (∀ a h5 tk gs, gs.bare = true → s4.heap.objs.size < a → h5.objs.size = a + 1 → (∀ b o, s4.heap.get? b = some o → h5.get? b = some o) →
            WalksS X.prog X.w X.A.in4 a (a :: s4.heap.objs.size :: List.range s4.heap.objs.size) (s4.heap.objs.size :: wr) (GenOnlyQ s4.gens.size) (passing yes n 0).length
              (fun j y => ∃ i, (passing yes n 0)[j]? = some i ∧ gF pb i y) (GenAt X.prog X.w X.A.in4 a s4.gens.size s4.heap.objs.size (List.range s4.heap.objs.size) wr yes n (gF pb)) →
            GenAt X.prog X.w X.A.in4 a s4.gens.size s4.heap.objs.size (List.range s4.heap.objs.size) wr yes n (gF pb) 0 { s4 with gens := s4.gens.push gs, toks := tk, heap := h5 } →
            Q' (.ref a) { s4 with gens := s4.gens.push gs, toks := tk, heap := h5 })) X.xe s3) X.xe { s with heap := s.heap.push o } := by
  have hPs : s.heap.get? P = some { cls := .none, data := .fields ps } := I1.hok P _ hP
  have hPlt : P < s.heap.objs.size := Heap.lt_size hPs
  have hP2 : (s.heap.push o).get? P = some { cls := .none, data := .fields ps } := Heap.get?_push_of_some _ hPs
  have cd : PySem.W.CodeHd (s.heap.push o) c P := TB.code.keeps fun b u e => Heap.get?_push_of_some _ (I1.bk b u e)
  have lim2 : (s.heap.push o).NoLimit := I1.nolimit.push o
  have hcl : cStatics < s.heap.objs.size := let ⟨_, hns, _⟩ := I1.nolimit; hns.lt
  have sz2 : (s.heap.push o).objs.size = s.heap.objs.size + 1 := Heap.size_push ..
  have cont : ∀ (code : Value) (h3 : Heap) (tk : Nat) (ps' : Array Value), Heap.ExtBut P (s.heap.push o) h3 → (s.heap.push o).objs.size ≤ h3.objs.size → h3.get? P = some { cls := .none, data := .fields ps' } → (∃ more, ps' = ps ++ more) → TriplesOk ps'.toList →
      wpAny (model X.prog X.w) X.A (builtinsFor X.env.globals X.env.builtins) (fun bi s4 =>
        ∃ I fp wr n Y St pb, (Value.ref s.heap.objs.size) = .ref I ∧ (∀ A' : Around, A'.handled = none → Goes X.prog X.w A' tgt I fp wr n Y St) ∧ St 0 s4.heap ∧ (∀ b ∈ fp, b < s4.heap.objs.size) ∧ s4.heap.NoLimit ∧ cStatics ∉ wr ∧
          (∀ href : Heap, (∀ b o, s4.heap.get? b = some o → href.get? b = some o) → TurnOk X.prog X.w (genEnv scope (cloFrom X.env.cells scope.names []) s4.heap.objs.size code bi X.env) tgt elt (List.range s4.heap.objs.size) wr n Y pb href) ∧
          (∀ a h5 tk gs, gs.bare = true → s4.heap.objs.size < a → h5.objs.size = a + 1 → (∀ b o, s4.heap.get? b = some o → h5.get? b = some o) →
            WalksS X.prog X.w X.A.in4 a (a :: s4.heap.objs.size :: List.range s4.heap.objs.size) (s4.heap.objs.size :: wr) (GenOnlyQ s4.gens.size) (passing yes n 0).length
              (fun j y => ∃ i, (passing yes n 0)[j]? = some i ∧ gF pb i y) (GenAt X.prog X.w X.A.in4 a s4.gens.size s4.heap.objs.size (List.range s4.heap.objs.size) wr yes n (gF pb)) →
            GenAt X.prog X.w X.A.in4 a s4.gens.size s4.heap.objs.size (List.range s4.heap.objs.size) wr yes n (gF pb) 0 { s4 with gens := s4.gens.push gs, toks := tk, heap := h5 } →
            Q' (.ref a) { s4 with gens := s4.gens.push gs, toks := tk, heap := h5 })) X.xe { s with heap := h3, toks := tk } := by
    intro code h3 tk ps' hx hsz hP3 hmore ht3
    obtain ⟨bm, ob, e1, e2, e3, e4, e5, e6, e7, e8⟩ := TB.bm
    have hcP : cStatics ≠ P := fun e => by
      obtain ⟨_, hns, _⟩ := I1.nolimit
      obtain ⟨o', es, ep, ho, hd, _⟩ := hns
      rw [e, hPs] at ho
      cases ho
      cases hd
    have keep3 : ∀ b u, b ≠ P → s.heap.get? b = some u → h3.get? b = some u := fun b u hb e => hx b u hb (Heap.get?_push_of_some _ e)
    refine wpAny_builtinsFor (m := X.mg) (by rw [I1.ok.glob]; exact ((I1.mod.glob.keeps I1.bk).push o).extBut hx TB.gP) e1 e2 (keep3 _ _ e4 (I1.bk _ _ e5)) e6 e7 e8 ?_
    refine ⟨s.heap.objs.size, _, _, _, _, _, pb, rfl, W, ?_, ?_, lim2.extBut hx hcP, ?_, ?_, ?_⟩
    · refine (W X.A hr.hd).frame _ _ _ hst fun b hb u e => hx b u (fun z => ?_) e
      rcases List.mem_cons.mp hb with z2 | z2
      · exact Nat.ne_of_lt hPlt (z.symm.trans z2)
      · exact haP ((List.mem_singleton.mp z2).symm.trans z)
    · intro b hb
      have h9 : (s.heap.objs.size : Nat) < h3.objs.size := by omega
      rcases List.mem_cons.mp hb with z | z
      · rw [z]; exact h9
      · rw [List.mem_singleton.mp z]; exact Nat.lt_trans hal h9
    · intro z
      exact Nat.ne_of_lt hcl (List.mem_singleton.mp z)
    · intro href hh
      intro A' E' i v s2 m2 hA hi hY hn hk
      exact hT h3 code _ keep3 (by omega) A' E' i v s2 m2 hA hi hY hn fun b hb hbw o e => hk b hb hbw o (hh b o e)
    · intro g h5 tk5 gs hgb hag hsz5 hk5 W5 hat
      have W5 := W5
      rw [show passing yes its.size 0 = List.range its.size from passing_true _] at W5
      rw [List.length_range] at W5
      refine hQ g _ ⟨_, _, _, _, _, W5.in4_1, hat, ?_, fun s' hm => ?_⟩
      · intro j y sj Qj Ej hy hQj
        obtain ⟨i, hij, rfl⟩ := hy
        obtain ⟨hj, ej⟩ := List.getElem?_eq_some_iff.mp hij
        rw [List.getElem_range] at ej
        subst ej
        exact wpAny_truthy_bool hQj
      · obtain ⟨more, em⟩ := hmore
        have nwr : ∀ b u, s.heap.get? b = some u → b ∉ h3.objs.size :: [s.heap.objs.size] := fun b u e hb => by
          have hl := Heap.lt_size e
          rcases List.mem_cons.mp hb with z | z
          · rw [z] at hl
            have h9 : (h3.objs.size : Nat) < s.heap.objs.size := hl
            omega
          · rw [List.mem_singleton.mp z] at hl
            exact Nat.lt_irrefl _ hl
        have J := inv_tab (more := more) (h' := s'.heap) (g' := s'.gens) (d' := s'.drawn) (t' := s'.toks) I1 hP (fun b u hb e => hm.heap b u (nwr b u e) (hk5 b u (keep3 b u hb e)))
          (by rw [← em]; exact hm.heap P _ (nwr P _ hPs) (hk5 P _ hP3)) (AllBare.movedS (I1.bare.push hgb) hm)
        rw [sh_eta s s' hm.os] at J
        exact ⟨upd H P (.tbl (ps ++ more)), ⟨⟨ps ++ more, upd_same, by rw [← em]; exact ht3⟩, fun b hb => upd_ne hb⟩, J⟩
  refine ⟨lim2, ?_⟩
  cases hf : codeAmong gpos ps.toList with
  | none =>
    refine wpAny_genexprCodeX hcode (cd.code hP2 ht) (cd.tab hP2) hf fun c' h' tk hx hge hlt hco' _ htab' _ => ?_
    obtain ⟨o1, vs, f1, tf, fl, tg, inF, tx, tt, op, _, _, _, _, _, _, _, _, _, htr, _⟩ := hco'
    exact cont _ h' tk _ hx (Nat.le_trans hge (Nat.le_of_lt hlt)) htab'.2 ⟨_, rfl⟩ htr
  | some cv =>
    refine wpAny_genexprCode_hit hcode (cd.code hP2 ht) hf ?_
    exact cont cv (s.heap.push o) s.toks ps (Heap.ExtBut.refl _ _) (Nat.le_refl _) hP2 ⟨#[], by simp⟩ ht
theorem lt_of {h : Heap} {a : Addr} {o : Obj} (e : h.get? a = some o) : a < h.objs.size := Heap.lt_size e
/-- any(..): iter gives a list or a tuple, the items xs pass the test as pb tells -/
def tAnyD (X : Cx) (P : Addr) (scope : Scope) (tgt elt : Expr) (te : TE) : TE := fun σ H Q => te σ H fun v H1 => ∃ (a : Addr) (xs : List V) (pb : Nat → Bool), v = .ref a ∧ (SqL X.K H1 a xs ∨ SqT X.K H1 a xs) ∧ TabG H1 P ∧
  (∀ pins s its, Inv X pins σ H1 s → Vals xs its → Turns X P scope tgt elt s its.toArray pb) ∧ ∀ H2, Tabbed P H1 H2 → Q (.bl ((List.range xs.length).any pb)) H2
theorem gen_D {Q' : Value → Shared → Prop} {R : V → List V → (Nat → Bool) → Hp → Prop} (hr : Room k X.A) (TB : TabB X.base X.mg c P) (hcode : X.env.code = .ref c) (S : GenSc X.env scope) (hi : PE X iter te) (hs : ∀ v, genFold iter X.env v = pure v) (I : Inv X pins σ H s)
    (h : te σ H fun v H1 => ∃ (a : Addr) (xs : List V) (pb : Nat → Bool), v = .ref a ∧ (SqL X.K H1 a xs ∨ SqT X.K H1 a xs) ∧ TabG H1 P ∧ (∀ pins s its, Inv X pins σ H1 s → Vals xs its → Turns X P scope tgt elt s its.toArray pb) ∧ R v xs pb H1)
    (hQ : ∀ v xs pb H1 g s5, R v xs pb H1 → ReadyD X pins σ H1 P xs.length pb g s5 → Q' (.ref g) s5) : wpAny (model X.prog X.w) X.A (eval (genE elt tgt iter scope gpos) X.env) Q' X.xe s := by
  refine gen_walks hr.hd S.co (closure_ok fun y hy z => I.ok.has y.1 (S.free y hy z)) S.cell S.dot S.kind (by have := hr.dp; omega) ?_ hs
  refine thn (hi.run pins s σ H _ I h) fun xv s1 ⟨v, H1, I1, r1, q1⟩ => ?_
  obtain ⟨a, xs, pb, rfl, hq, ⟨ps, hP, ht⟩, hT, q⟩ := q1
  cases r1
  have hPs : s1.heap.get? P = some { cls := .none, data := .fields ps } := I1.hok P _ hP
  rcases hq with hq | hq
  · obtain ⟨its, rv, pl, hz⟩ := I1.list hq
    obtain ⟨o, n, e, e2, e3, e4⟩ := id pl
    have hne : a ≠ P := fun z => by
      rw [z, hPs] at e
      cases e
      cases e4
    have hn : its.toArray.size = xs.length := by rw [rv.length]; simp
    refine wpAny_pyIter_list pl.isList ?_
    exact gen_after (Q' := Q') (o := { cls := .type "list_iterator", data := .fields #[.ref a, .int 0 0] }) hr TB hcode I1 hP ht (fun A' hA => Goes.list hA _ a (Nat.ne_of_lt (lt_of e)) its.toArray) ⟨⟨_, Heap.get?_push_size _ rfl, rfl, rfl⟩, (pl.keeps fun b o e => Heap.get?_push_of_some _ e).isList⟩ hne (lt_of e) (hT pins s1 its I1 rv) fun g s5 hG => hQ _ _ _ _ g s5 q (hn ▸ hG)
  · obtain ⟨its, rv, pl, hz⟩ := I1.tuple hq
    obtain ⟨o, e, e2, n, e4⟩ := id pl
    have hne : a ≠ P := fun z => by
      rw [z, hPs] at e
      cases e
      cases e4
    have hn : its.toArray.size = xs.length := by rw [rv.length]; simp
    refine wpAny_pyIter_tuple (show s1.heap.IsTuple a its.toArray from pl) ?_
    exact gen_after (Q' := Q') (o := { cls := .type "tuple_iterator", data := .fields #[.ref a, .int 0 0] }) hr TB hcode I1 hP ht (fun A' hA => Goes.tuple hA _ a (Nat.ne_of_lt (lt_of e)) its.toArray) ⟨⟨_, Heap.get?_push_size _ rfl, rfl, rfl⟩, (show Heap.IsTuple _ a its.toArray from ⟨o, Heap.get?_push_of_some _ e, e2, n, e4⟩)⟩ hne (lt_of e) (hT pins s1 its I1 rv) fun g s5 hG => hQ _ _ _ _ g s5 q (hn ▸ hG)
theorem pe_anyD (hr : Room k X.A) (hg : Gl X "any") (hm : X.mg "any" = none) (TB : TabB X.base X.mg c P) (hcode : X.env.code = .ref c) (S : GenSc X.env scope) (hi : PE X iter te) (hs : ∀ v, genFold iter X.env v = pure v)
    (he : starEach [genE elt tgt iter scope gpos] X.env = (false, eval (genE elt tgt iter scope gpos) X.env) :: starEach [] X.env := by rfl) :
    PE X (.Call (.Name "any" p) [genE elt tgt iter scope gpos] [] pos) (tAnyD X P scope tgt elt te) := by
  refine ⟨fun pins s σ H Q I h => ?_⟩
  refine wpAny_Call_Name_kw (ld_blt I hg hm boot_any ?_)
  refine PyProof.Rows.callWith_builtin1 ?_ he (by rfl)
  rw [he]
  show wpAny _ _ (spliced ((false, eval (genE elt tgt iter scope gpos) X.env) :: backTo pos (starEach [] X.env))) _ _ s
  refine Calls.spliced_cons (gen_D (R := fun v xs pb H1 => ∀ H2, Tabbed P H1 H2 → Q (.bl ((List.range xs.length).any pb)) H2) hr TB hcode S hi hs I h fun v xs pb H1 g s5 hR hG => ?_)
  obtain ⟨fp, wr, G, F, St, W, hst, htr, hI⟩ := hG
  refine Calls.spliced_nil ?_
  refine call_any_walkS (W.self 0 _ _ _ hst ⟨g, fp, wr, G, _, F, St, _, rfl, W, hst, htr, fun s' hmv => ?_⟩)
  obtain ⟨H2, hT2, J⟩ := hI s' hmv
  exact ⟨.bl _, H2, J, rfl, hR H2 hT2⟩
end
end DL

/-! any(a == n and b <= t < c for a, b, c in e), n and t names of the def. -/
namespace DL
open PySem PySem.Spec PyProof.Rows L2
open GxR (TabB TabG Tabbed inv_tab sh_eta keeps_refl passing_true)
section
variable {X : Cx} {pins : List (Addr × Obj)} {σ : L2.St} {H : Hp} {s : Shared} {c P : Addr} {scope : Scope} {k : Nat}
abbrev pzTgt (xa xb xc : Str) (p1 p2 p3 p4 : Pos) (k4 : Nat) : Expr := .Tuple [.Name xa p1, .Name xb p2, .Name xc p3] k4 p4
abbrev pzElt (xa xb xc nm tm : Str) (q1 q2 q3 q4 q5 q6 q7 q8 : Pos) : Expr := .BoolOp .And [.Compare (.Name xa q1) [.Eq] [.Name nm q2] q3, .Compare (.Name xb q4) [.LtE, .Lt] [.Name tm q5, .Name xc q6] q7] q8
/-- one row: its name, begin, end -/
def pzRow (N : Str) (T : Int) : D → Option Bool
  | .tup [.str o, .int b, .int e] => some ((o.cps.toList == N.cps.toList) && (decide (b ≤ T) && decide (T < e)))
  | _ => none
theorem turn_pz {xa xb xc nm tm : Str} {p1 p2 p3 p4 q1 q2 q3 q4 q5 q6 q7 q8 : Pos} {k4 : Nat} {its : Array Value} {pb : Nat → Bool} {cn ct : Addr} {N : Str} {T : Int} {tN tT : Tok} {ps : Array Value}
    (hk : scope.kind = .function) (la : scope.names.lookup xa = some .local) (lb : scope.names.lookup xb = some .local) (lc : scope.names.lookup xc = some .local) (ln : scope.names.lookup nm = some .free) (lt : scope.names.lookup tm = some .free)
    (nab : xa ≠ xb) (nac : xa ≠ xc) (nbc : xb ≠ xc) (d1 : (xa == ("__debug__" : Str)) = false) (d2 : (xb == ("__debug__" : Str)) = false) (d3 : (xc == ("__debug__" : Str)) = false) (d4 : (nm == ("__debug__" : Str)) = false) (d5 : (tm == ("__debug__" : Str)) = false)
    (e4 : (nm == ("__classdict__" : Str)) = false) (e5 : (tm == ("__classdict__" : Str)) = false)
    (fr : ∀ y ∈ scope.names, y.2 = .free → ∃ c, X.env.cells.lookup y.1 = some c) (mn : (nm, NameKind.free) ∈ scope.names) (mt : (tm, NameKind.free) ∈ scope.names) (cN : X.env.cells.lookup nm = some cn) (cT : X.env.cells.lookup tm = some ct)
    (hP : s.heap.get? P = some { cls := .none, data := .fields ps }) (hN : s.heap.IsCell cn (some (.str N tN))) (hT : s.heap.IsCell ct (some (.int T tT)))
    (hi : ∀ i v, its[i]? = some v → ∃ (t : Addr) (o : Str) (b e : Int) (t1 t2 t3 : Tok), v = .ref t ∧ s.heap.IsTuple t #[.str o t1, .int b t2, .int e t3] ∧ pb i = ((o.cps.toList == N.cps.toList) && (decide (b ≤ T) && decide (T < e)))) :
    Turns X P scope (pzTgt xa xb xc p1 p2 p3 p4 k4) (pzElt xa xb xc nm tm q1 q2 q3 q4 q5 q6 q7 q8) s its pb := by
  intro h4 code bi kp hlt A' E' i v s2 m2 hA _ hY hn hkp
  obtain ⟨t, o, b, e, t1, t2, t3, rfl, ht, epb⟩ := hi i v hY
  have back : ∀ (x : Addr) (ob : Obj), x ≠ P → s.heap.get? x = some ob → s2.heap.get? x = some ob := fun x ob hx ho => by
    have hl := Heap.lt_size ho
    exact hkp x (List.mem_range.mpr (Nat.lt_trans hl hlt)) (fun z => by rw [List.mem_singleton.mp z] at hl; exact Nat.lt_irrefl _ hl) ob (kp x ob hx ho)
  have ht2 : s2.heap.IsTuple t #[.str o t1, .int b t2, .int e t3] := by
    obtain ⟨ob, h1, h2, n, h3⟩ := ht
    exact ⟨ob, back t ob (fun z => by rw [z, hP] at h1; cases h1; cases h3) h1, h2, n, h3⟩
  have cell2 : ∀ {x : Addr} {w : Option Value}, s.heap.IsCell x w → s2.heap.IsCell x w := fun {x w} ⟨ob, h1, h2⟩ => ⟨ob, back x ob (fun z => by rw [z, hP] at h1; cases h1; cases h2) h1, h2⟩
  have hN2 := cell2 hN
  have hT2 := cell2 hT
  have cn2 := NdefX.clo_has fr mn cN
  have ct2 := NdefX.clo_has fr mt cT
  refine wpAny_assign_Tuple hA ht2 rfl rfl fun h1 hx1 => ?_
  replace hx1 : Heap.ExtBut s2.heap.objs.size s2.heap h1 := hx1
  have old1 : ∀ b o, s2.heap.get? b = some o → h1.get? b = some o := fun b o e => hx1 b o (Nat.ne_of_lt (Heap.lt_size e)) e
  show wpAny _ _ (do holding [.int b t2, .int e t3] (assign (.Name xa p1) _ (.str o t1)); do holding [.int e t3] (assign (.Name xb p2) _ (.int b t2)); do holding [] (assign (.Name xc p3) _ (.int e t3)); pure ()) _ _ _
  have hp : ((genEnv scope (cloFrom X.env.cells scope.names []) h4.objs.size code bi X.env).scope.kind == .class || ((genEnv scope (cloFrom X.env.cells scope.names []) h4.objs.size code bi X.env).scope.kind == .module && (genEnv scope (cloFrom X.env.cells scope.names []) h4.objs.size code bi X.env).locals != (genEnv scope (cloFrom X.env.cells scope.names []) h4.objs.size code bi X.env).globals)) = false := by
    show (scope.kind == .class || (scope.kind == .module && _)) = false
    rw [hk]
    rfl
  refine wpAny_bind (wpAny_holding (wpAny_assign_Name (wpAny_storeName_local la (hn.at' fun o e => old1 _ o e) (fun ha na sa => ?_) hp)))
  refine wpAny_bind (wpAny_holding (wpAny_assign_Name (wpAny_storeName_local lb na (fun hb nb sb => ?_) hp)))
  refine wpAny_bind (wpAny_holding (wpAny_assign_Name (wpAny_storeName_local lc nb (fun hc nc sc => wpAny_pure ?_) hp)))
  have up : ∀ x ob, x ≠ h4.objs.size → s2.heap.get? x = some ob → hc.get? x = some ob := fun x ob hx ho => sc.extBut x ob hx (sb.extBut x ob hx (sa.extBut x ob hx (old1 x ob ho)))
  refine ⟨hc, _, _, rfl, up, nc, fun A2 E2 hA2 => ?_⟩
  have cellc : ∀ {x : Addr} {w : Option Value}, s2.heap.IsCell x w → x ≠ h4.objs.size → hc.IsCell x w := fun {x w} ⟨ob, h1, h2⟩ hx => ⟨ob, up x ob hx h1, h2⟩
  have lt4 : ∀ {x : Addr} {w : Option Value}, s.heap.IsCell x w → x ≠ h4.objs.size := fun {x w} ⟨ob, h1, _⟩ z => by
    have hl := Heap.lt_size h1
    rw [z] at hl
    exact Nat.lt_irrefl _ (Nat.lt_trans hl hlt)
  have hN3 := cellc hN2 (lt4 hN)
  have hT3 := cellc hT2 (lt4 hT)
  refine BoolOp_and ?_
  refine wpAny_Compare1 ?_ (nomark _)
  refine wpAny_Name (wpAny_loadName_local (v := .str o t1) hk la nc (by simp [nab, nac]) ?_) d1
  refine wpAny_Name (wpAny_loadName_free hk ln cn2 hN3 ?_ e4) d4
  refine PySem.P.eq_str ?_
  refine wpAny_truthy_bool ?_
  cases hq : (o.cps.toList == N.cps.toList) with
  | false =>
    simp only [Bool.false_eq_true, if_false]
    exact ⟨by rw [epb, hq]; rfl, keeps_refl _⟩
  | true =>
    simp only [if_true]
    refine BoolOp_one ?_
    refine Compare_chain ?_ (by with_unfolding_all rfl)
    refine wpAny_Name (wpAny_loadName_local (v := .int b t2) hk lb nc (by simp [nbc]) ?_) d2
    refine chain_link ?_
    refine wpAny_Name (wpAny_loadName_free hk lt ct2 hT3 ?_ e5) d5
    refine PySem.P.le_int ?_
    refine wpAny_truthy_bool ?_
    cases h1 : decide (b ≤ T) with
    | false => exact ite_ff ⟨by rw [epb, hq, h1]; rfl, keeps_refl _⟩
    | true =>
      refine ite_tt (chain_last ?_)
      refine wpAny_Name (wpAny_loadName_local (v := .int e t3) hk lc nc (by simp) ?_) d3
      refine PySem.P.lt_int ?_
      exact ⟨by rw [epb, hq, h1]; simp, keeps_refl _⟩
end
end DL

namespace DL
open PySem PySem.Spec PyProof.Rows L2
open GxR (TabB TabG Tabbed)
/-- any row's test holds; every row is one -/
def pzL (N : Str) (T : Int) : List D → Option Bool
  | [] => some false
  | d :: ds => (pzRow N T d).bind fun b => (pzL N T ds).map fun r => b || r
def pzIts : D → Option (List D)
  | .lst ds => some ds
  | .tup ds => some ds
  | _ => none
def dPz (f : Ev) (i j : Nat) : Ev := fun ρ => (f ρ).bind fun d => (pzIts d).bind fun ds => (dV i ρ).bind fun n => (dV j ρ).bind fun t => match n, t with
  | .str N, .int T => (pzL N T ds).map .bl
  | _, _ => none
theorem pzRow_shape {N : Str} {T : Int} {d : D} (h : pzRow N T d ≠ none) : ∃ o b e, d = .tup [.str o, .int b, .int e] := by
  unfold pzRow at h
  split at h
  · exact ⟨_, _, _, rfl⟩
  · exact absurd rfl h
theorem vals3 {o : Str} {b e : Int} {us : List Value} (r : Vals [.str o, .int b, .int e] us) : ∃ t1 t2 t3, us = [.str o t1, .int b t2, .int e t3] := by
  cases r with
  | cons a1 b1 =>
    cases b1 with
    | cons a2 b2 =>
      cases b2 with
      | cons a3 b3 =>
        cases b3
        obtain ⟨t1, rfl⟩ := _root_.id a1
        obtain ⟨t2, rfl⟩ := _root_.id a2
        obtain ⟨t3, rfl⟩ := _root_.id a3
        exact ⟨t1, t2, t3, rfl⟩
theorem pz_some {f : Ev} {i j : Nat} {ρ : En} {d : D} (h : dPz f i j ρ = some d) : ∃ x ds N T b, f ρ = some x ∧ pzIts x = some ds ∧ dV i ρ = some (.str N) ∧ dV j ρ = some (.int T) ∧ pzL N T ds = some b ∧ d = .bl b := by
  unfold dPz at h
  cases q : f ρ with
  | none => rw [q] at h; cases h
  | some x =>
    rw [q] at h
    simp only [Option.bind_some] at h
    cases q1 : pzIts x with
    | none => rw [q1] at h; cases h
    | some ds =>
      rw [q1] at h
      simp only [Option.bind_some] at h
      cases q2 : dV i ρ with
      | none => rw [q2] at h; cases h
      | some n =>
        rw [q2] at h
        simp only [Option.bind_some] at h
        cases q3 : dV j ρ with
        | none => rw [q3] at h; cases h
        | some t =>
          rw [q3] at h
          simp only [Option.bind_some] at h
          cases n <;> cases t <;> simp only at h <;> first | cases h | skip
          rename_i N T
          cases q4 : pzL N T ds with
          | none => rw [q4] at h; cases h
          | some b => rw [q4] at h; cases h; exact ⟨x, ds, N, T, b, rfl, q1, rfl, rfl, q4, rfl⟩
def pzAt (N : Str) (T : Int) (ds : List D) (i : Nat) : Bool := ((ds[i]?).bind (pzRow N T)).getD false
theorem pzL_any {N : Str} {T : Int} : ∀ {ds : List D} {b : Bool}, pzL N T ds = some b → (List.range ds.length).any (pzAt N T ds) = b ∧ ∀ d ∈ ds, pzRow N T d ≠ none
  | [], b, h => by cases h; exact ⟨rfl, fun _ z => nomatch z⟩
  | d :: ds, b, h => by
    simp only [pzL] at h
    cases q : pzRow N T d with
    | none => rw [q] at h; cases h
    | some b0 =>
      rw [q] at h
      simp only [Option.bind_some] at h
      cases q1 : pzL N T ds with
      | none => rw [q1] at h; cases h
      | some r =>
        rw [q1] at h
        cases h
        obtain ⟨h1, h2⟩ := pzL_any q1
        constructor
        · rw [List.length_cons, List.range_succ_eq_map, List.any_cons, List.any_map]
          have e0 : pzAt N T (d :: ds) 0 = b0 := by simp [pzAt, q]
          have e1 : (pzAt N T (d :: ds) ∘ Nat.succ) = pzAt N T ds := by funext i; simp [pzAt]
          rw [e0, e1, h1]
        · intro x hx
          rcases List.mem_cons.mp hx with rfl | hx
          · rw [q]; exact fun z => nomatch z
          · exact h2 x hx
theorem tabbed_same {H H2 : Hp} {P : Addr} (t0 : TabOk H P) (t : Tabbed P H H2) : SameT H H2 := by
  obtain ⟨q0, e0, z0⟩ := t0
  obtain ⟨⟨q1, e1, z1⟩, k⟩ := t
  refine ⟨fun b o e n => ?_, fun b q e => ?_⟩
  · by_cases z : b = P
    · rw [z, e0] at e; cases e; exact n.elim
    · rw [k b z]; exact e
  · by_cases z : b = P
    · rw [z]; exact ⟨q1, e1, fun _ => z1⟩
    · exact ⟨q, by rw [k b z]; exact e, id⟩
section
variable [Tabs] {X : Cx} {c P : Addr} {iter : Expr} {scope : Scope} {pos gpos p : Pos} {k : Nat} {U : List Nat} {f : Ev}
theorem df_pz {xa xb xc nm tm : Str} {p1 p2 p3 p4 q1 q2 q3 q4 q5 q6 q7 q8 : Pos} {k4 : Nat} {i j : Nat} (hr : Room k X.A) (hm : X.mg "any" = none) (TB : TabB X.base X.mg c P) (hP : P ∈ Tabs.T) (hcode : X.env.code = .ref c) (hi : PE X iter (tD X.K U f))
    (hNi : X.N[i]? = some nm := by rfl) (hNj : X.N[j]? = some tm := by rfl) (kn : X.env.scope.names.lookup nm = some .cell := by rfl) (kt : X.env.scope.names.lookup tm = some .cell := by rfl) (hg : Gl X "any" := by rfl)
    (fr : ∀ y ∈ scope.names, y.2 = .free → X.env.scope.names.lookup y.1 = some .cell ∨ X.env.scope.names.lookup y.1 = some .free := by decide) (hs : ∀ v, genFold iter X.env v = pure v := by intro _; rfl)
    (hco : scope.isCoroutine = false := by rfl) (hce : ∀ y ∈ scope.names, y.2 ≠ .cell := by decide) (hdot : scope.names.lookup (".0" : Str) = some NameKind.local := by decide)
    (hk : scope.kind = .function := by rfl) (la : scope.names.lookup xa = some .local := by decide) (lb : scope.names.lookup xb = some .local := by decide) (lc : scope.names.lookup xc = some .local := by decide) (ln : scope.names.lookup nm = some .free := by decide) (lt : scope.names.lookup tm = some .free := by decide)
    (nab : xa ≠ xb := by decide) (nac : xa ≠ xc := by decide) (nbc : xb ≠ xc := by decide) (d1 : (xa == ("__debug__" : Str)) = false := by decide) (d2 : (xb == ("__debug__" : Str)) = false := by decide) (d3 : (xc == ("__debug__" : Str)) = false := by decide) (d4 : (nm == ("__debug__" : Str)) = false := by decide) (d5 : (tm == ("__debug__" : Str)) = false := by decide)
    (e4 : (nm == ("__classdict__" : Str)) = false := by decide) (e5 : (tm == ("__classdict__" : Str)) = false := by decide) (mn : (nm, NameKind.free) ∈ scope.names := by decide) (mt : (tm, NameKind.free) ∈ scope.names := by decide)
    (he : starEach [genE (pzElt xa xb xc nm tm q1 q2 q3 q4 q5 q6 q7 q8) (pzTgt xa xb xc p1 p2 p3 p4 k4) iter scope gpos] X.env = (false, eval (genE (pzElt xa xb xc nm tm q1 q2 q3 q4 q5 q6 q7 q8) (pzTgt xa xb xc p1 p2 p3 p4 k4) iter scope gpos) X.env) :: starEach [] X.env := by rfl) :
    PE X (.Call (.Name "any" p) [genE (pzElt xa xb xc nm tm q1 q2 q3 q4 q5 q6 q7 q8) (pzTgt xa xb xc p1 p2 p3 p4 k4) iter scope gpos] [] pos) (tF X.K U (dPz f i j)) := by
  refine df_of fun ρ d h => ?_
  obtain ⟨x, ds, N, T, b, ex, ei, en, et, eb, rfl⟩ := pz_some h
  obtain ⟨hany, hrow⟩ := pzL_any eb
  refine ⟨_, pe_anyD hr hg hm TB hcode ⟨hk, hco, hce, hdot, fr⟩ hi hs he, fun σ H Pf R Q cc q => ⟨ρ, Pf, R, x, cc, ex, fun v H1 s1 r1 => ?_⟩⟩
  have t1 := cc.tab P hP
  have t2 := t1.same s1
  have shape : ∃ (a : Addr) (vs : List V), v = .ref a ∧ (SqL X.K H1 a vs ∨ SqT X.K H1 a vs) ∧ ∃ R', Reps X.K R' H1 ds vs := by
    cases x with
    | lst xs =>
      simp only [Rep] at r1
      obtain ⟨a, vs, rfl, _, _, h1, h2⟩ := r1
      cases ei
      exact ⟨a, vs, rfl, .inl (SqL.of h1), _, h2⟩
    | tup xs =>
      simp only [Rep] at r1
      obtain ⟨a, vs, rfl, _, h1, h2⟩ := r1
      cases ei
      exact ⟨a, vs, rfl, .inr h1, _, h2⟩
    | _ => simp only [pzIts] at ei; cases ei
  obtain ⟨a, vs, rfl, hq, R', rr⟩ := shape
  refine ⟨a, vs, pzAt N T ds, rfl, hq, t2, fun pins s its I rv => ?_, fun H2 hT => ?_⟩
  · obtain ⟨ps, hPH, _⟩ := t2
    have hPs := I.hok P _ hPH
    obtain ⟨m, _, hloc⟩ := I.loc
    have cellOf : ∀ {i : Nat} {y : Str} {v : V}, X.N[i]? = some y → σ[i]? = some (some v) → X.env.scope.names.lookup y = some .cell → ∃ u ca, L2.RelV v u ∧ X.env.cells.lookup y = some ca ∧ s.heap.IsCell ca (some u) := fun {i y v} h1 h2 h3 => by
      obtain ⟨u, ru, lk⟩ := hloc i y v h1 h2 (.inr (.inl h3))
      rcases lk with ⟨z, _⟩ | ⟨_, ca, z1, z2⟩
      · have z : X.env.scope.names.lookup y = some .local := z
        rw [h3] at z; cases z
      · exact ⟨u, ca, ru, z1, z2⟩
    obtain ⟨v1, g1, r2⟩ := cc.env i _ (dV_at en)
    obtain ⟨v2, g2, r3⟩ := cc.env j _ (dV_at et)
    simp only [Rep] at r2 r3
    subst r2; subst r3
    obtain ⟨u1, cn, w1, cN, hN⟩ := cellOf hNi g1 kn
    obtain ⟨u2, ct, w2, cT, hTc⟩ := cellOf hNj g2 kt
    obtain ⟨tN, rfl⟩ := _root_.id w1
    obtain ⟨tT, rfl⟩ := _root_.id w2
    refine turn_pz hk la lb lc ln lt nab nac nbc d1 d2 d3 d4 d5 e4 e5 (fun y hy z => I.ok.has y.1 (fr y hy z)) mn mt cN cT hPs hN hTc fun i' u hu => ?_
    have hl := rr.length
    have hl2 := rv.length
    have hu : its[i']? = some u := by simpa using hu
    have hi1 : i' < its.length := (List.getElem?_eq_some_iff.mp hu).1
    have hi2 : i' < ds.length := by omega
    have hdi : ds[i']? = some ds[i'] := List.getElem?_eq_getElem hi2
    obtain ⟨vx, hvx, rx⟩ := rr.get hdi
    obtain ⟨u', hu', ru⟩ := rv.get hvx
    rw [hu] at hu'
    cases hu'
    have hne := hrow ds[i'] (List.getElem_mem hi2)
    have hpb : pzAt N T ds i' = (pzRow N T ds[i']).getD false := by simp [pzAt, hdi]
    rw [hpb]
    generalize ds[i'] = dd at rx hne
    obtain ⟨o, b0, e0, rfl⟩ := pzRow_shape hne
    simp only [Rep, Reps] at rx
    obtain ⟨ta, tvs, rfl, _, h1, x1, y1, rfl, rfl, x2, y2, rfl, rfl, x3, y3, rfl, rfl, rfl⟩ := rx
    cases ru
    obtain ⟨us, rv', pt, _⟩ := I.tuple h1
    obtain ⟨t1, t2, t3, rfl⟩ := vals3 rv'
    exact ⟨ta, o, b0, e0, t1, t2, t3, rfl, pt, rfl⟩
  · rw [rr.length, hany]
    exact q _ H2 [] (s1.trans (tabbed_same t2 hT)) (by simp only [Own]; exact ⟨trivial, trivial⟩) List.nodup_nil fun _ z => nomatch z
end
end DL

/-! A def whose code's table is tracked; the end of a law with such defs. -/
namespace DL
open PySem PySem.Spec PyProof.Rows L2
section
variable {P : Program} {w : World} {K : PySem.W.Frag} {mg : Str → Option Value} {base : Heap}
/-- a def with the place of its code -/
structure FunC (K : PySem.W.Frag) (x qual : Str) (st : Stmt) (f : Addr) (fd : FuncData) (c : Addr) : Prop where
  ex : ∃ (oc : Value) (od : Option Addr) (kV doc pm : Value) (an : Option Addr) (ct : Value) (osl : Array (Option Value)),
    fd = PySem.W.fnOf x qual (defArgs st) (defBody st) (defScope st) .none kV doc pm an (.ref c) ct ∧ K.lookup f = some ⟨oc, od, .func fd, osl⟩ ∧ PySem.W.codeIn K (.ref c) qual = true
  kp : PySem.W.keepIn K (.ref f) = true
theorem fn_okC [Tabs] {c : Addr} {x qual : Str} {st : Stmt} {f : Addr} {fd : FuncData} {N ps : List Str} {k n m : Nat} {M : List Nat} {F : Fs} (Fu : FunC K x qual st f fd c) (S : FnScope N ps (defScope st))
    (hb : ∀ (A : Around) (outer : List Env) (s : Shared) (H : Hp) (E : XK), Room k (A.deeper (envOfC qual (defScope st) s.heap.objs.size f (.ref c))) → PSs (cxOf CX0 P w K mg base N qual (defScope st) f (.ref c) A outer s H E).nox (defBody st) (tS K M [] F))
    (hn : ps.length = n := by rfl) (hm : N.length - n = m := by rfl) (hNl : n ≤ N.length := by decide) (hM : ∀ i ∈ M, n ≤ i ∧ i < N.length := by decide) : FnOk P w K mg base CX0 (k + 1) f fd ps (spP K n (callF n m F)) := by
  subst hn
  obtain ⟨oc, od, kV, doc, pm, an, ct, osl, rfl, lk, hcd⟩ := Fu.ex
  refine fn_of lk hcd S spP_len fun A outer s H vs Q E hr h => ⟨_, (hb A outer s H E hr).nox, ?_⟩
  obtain ⟨P0, ds, d, hl, r, new, e, tab, q⟩ := h
  unfold callF at e
  rw [if_pos hl] at e
  cases z : F (ds.map some ++ List.replicate m none) with
  | none => rw [z] at e; cases e
  | some o =>
    rw [z] at e
    have s0 : StOk K P0 M (L2.start N vs) (ds.map some ++ List.replicate (N.length - ds.length) none) H (fun _ => []) := start_ok r new tab (by rw [hl]; exact hNl) fun i hi => by rw [hl]; exact hM i hi
    have no : ∀ a, ¬ Ow M (fun _ => ([] : List Addr)) a := fun a ⟨_, _, z⟩ => nomatch z
    have same : ∀ {H' As'}, Step M H (fun _ => []) H' As' → SameT H H' := fun t => ⟨fun b o h n => t.fr b o h n (no b), t.tb⟩
    refine ⟨_, P0, _, o, s0, by rw [hl, hm]; exact z, ?_⟩
    cases o with
    | rt d' ρ' =>
      cases e
      exact fun v σ' H' As' B s' o' n1 n2 t n3 _ => q v H' B (same t) (o'.mono fun a h => ⟨h.1, h.2.1⟩) n1 fun a ha => (n3 a ha).elim (fun w => (no a w).elim) id
    | nx ρ' =>
      cases e
      exact fun σ' H' As' s' t _ => q .non H' [] (same t) (by simp only [Own]; exact ⟨trivial, trivial⟩) List.nodup_nil fun _ z => nomatch z
    | br ρ' => cases e
    | ct ρ' => cases e
end
theorem walk_ofAll {l : PySem.W.OpenLaw} {n k : Nat} {q : Program} {loose : List Str} {XP : (Str → Option Value) → Heap → Prop} {YP : World → Heap → Prop} {d : DefRec} {K : Params → PySem.W.Frag} {CX : World → CXT} {x : Str}
    (hn : l.most = some n) (hn2 : n ≤ sizeLine) (hdf : d.params.defaults = []) (hr : Room k callerA) (hY : ∀ (w : World) (h : Heap), YP w h → (K w.params).In h)
    (F : ∀ (w : World) (mg : Str → Option Value) (fa : Addr) (h : Heap), YP w h → (K w.params).In h → h.Ns mainGlobals mg → mg d.name = some (.ref fa) →
      (∀ (y : Str) (fy : Addr), ((recsOf q).any fun e => e.name == y) = true → mg y = some (.ref fy) → LamX.OwnTab (K w.params) fy h) → LamX.LawAtS l w (K w.params) (CX w) k n x mg fa h)
    (hCX : ∀ (w : World) (H : Hp) (s : Shared) (e : Value) (s' : Shared), CX w [] H s (fun _ _ _ => False) e s' → False) :
    PySem.W.WalkO q loose XP YP l.row.toRowW d [] (fun f vs => PySem.call f vs) := by
  refine Att.attach_callB hn hdf fun w s0 s1 mg mb fa o pm cd doc a vs ns G Y ho hd hcd hmg hobj hints hlen hbits hg => ?_
  have KX := hY w _ Y
  obtain ⟨fd, cs, sp, hT, nT, C, hb, hsp, hF⟩ := F w mg fa _ Y KX G.T.g hmg fun y fy hrec hfy c P o1 fd1 e dd vs1 sl k1 k2 k3 k4 k5 => by
    obtain ⟨dL, hm, hn1⟩ := List.any_eq_true.mp hrec
    have hn2 : dL.name = y := beq_iff_eq.mp hn1
    obtain ⟨a', o', fd', c', P', h1, h2, h3, h4, h5, h6⟩ := G.T.tab dL hm
    rw [hn2, hfy] at h1
    cases h1
    have g1 := KX _ _ k1
    rw [g1] at h2
    cases h2
    rw [k2] at h3
    cases h3
    rw [k3] at h4
    cases h4
    obtain ⟨⟨oc, vc, e1, _, e3, e4⟩, hP⟩ := h6
    have g2 := KX _ _ k4
    rw [g2] at e1
    cases e1
    cases e3
    rw [k5] at e4
    cases e4
    exact hP
  exact LamX.law_callTs KX G.T.g G.T.b G.T.builtins G.T.nolimit hg hT nT C G.T.bmain hobj hints (Nat.le_trans hlen hn2) hr hF hb (fun H hH hS => hsp H a ns hlen hbits hH hS) fun H e s' => hCX w H s1 e s'
/-- what a law's def asks of the script: its length, its items -/
structure Scl (d : D) (ns : List Int) : Prop where
  len : D.len [d] = some (.int ns.length)
  at_ : ∀ i : Int, D.idx d (.int i) = (atI ns i).map .int
theorem scl_scr (ns : List Int) : Scl (.scr ns) ns := ⟨rfl, fun _ => rfl⟩
theorem scl_lst (ns : List Int) : Scl (.lst (ns.map .int)) ns := ⟨by simp, fun i => by rw [idx_lst, atI_map]⟩
/-- the law's def answers True at each script -/
theorem law_headT [Tabs] {K : PySem.W.Frag} {F : List D → Option D} {n : Nat} (hn : n ≤ 16777216) (h : ∀ (sd : D) (ns : List Int), Scl sd ns → ns.length ≤ n → F [sd] = some (.bl true)) (H : Hp) (a : Addr) (ns : List Int) (hl : ns.length ≤ n) (hT : ∀ p ∈ Tabs.T, TabOk H p) (hS : SqL K H a (ns.map V.int)) : spP K 1 F [.ref a] H (fun v _ => v = .bl true) fun _ _ _ => False := by
  have fin : ∀ sd, Scl sd ns → Reps K (fun _ => True) H [sd] [.ref a] → spP K 1 F [.ref a] H (fun v _ => v = .bl true) fun _ _ _ => False := fun sd hs hr => by
    refine ⟨fun _ => True, [sd], .bl true, rfl, hr, fun _ _ => trivial, h sd ns hs hl, hT, fun v H' A s o n z => ?_⟩
    simp only [Own] at o
    exact o.2
  have mk : Scr K H a (ns.map V.int) → spP K 1 F [.ref a] H (fun v _ => v = .bl true) fun _ _ _ => False := fun hs => fin _ (scl_scr ns) (by
    simp only [Reps, Rep]
    exact ⟨.ref a, [], rfl, ⟨a, rfl, hs⟩, rfl⟩)
  rcases hS with (z | z) | z
  · refine fin _ (scl_lst ns) ?_
    simp only [Reps, Rep]
    refine ⟨.ref a, [], rfl, ⟨a, _, rfl, trivial, by rw [List.length_map, sizeLine_lit]; omega, z, ?_⟩, rfl⟩
    clear z hl fin mk
    induction ns with
    | nil => simp only [List.map_nil, Reps]
    | cons x xs ih => simp only [List.map_cons, Reps, Rep]; exact ⟨_, _, rfl, rfl, ih⟩
  · exact mk (.inl z)
  · exact mk (.inr z)
end DL

/-! sum, max, min of a list of ints. -/
namespace DL
open PySem PySem.Spec PyProof.Rows L2
def D.ints : List D → Option (List Int)
  | [] => some []
  | .int i :: ds => (D.ints ds).map fun ns => i :: ns
  | _ => none
theorem ints_reps {K : PySem.W.Frag} {P : Addr → Prop} {H : Hp} : ∀ {ds : List D} {ns : List Int} {vs : List V}, D.ints ds = some ns → Reps K P H ds vs → vs = ns.map V.int
  | [], ns, vs, h, r => by cases h; simp only [Reps] at r; rw [r]; rfl
  | d :: ds, ns, vs, h, r => by
    cases d <;> simp only [D.ints] at h <;> first | cases h | skip
    rename_i i
    cases q : D.ints ds with
    | none => rw [q] at h; cases h
    | some ms =>
      rw [q] at h
      cases h
      simp only [Reps, Rep] at r
      obtain ⟨v, u, rfl, rfl, r2⟩ := r
      rw [ints_reps q r2]
      rfl
def maxI : List Int → Int
  | [] => 0
  | [i] => i
  | i :: j :: r => let m := maxI (j :: r); if m > i then m else i
def minI : List Int → Int
  | [] => 0
  | [i] => i
  | i :: j :: r => let m := minI (j :: r); if m < i then m else i
theorem maxI_ok : ∀ {ns : List Int}, ns ≠ [] → maxI ns ∈ ns ∧ ∀ y ∈ ns, y ≤ maxI ns
  | [], h => absurd rfl h
  | [i], _ => by simp [maxI]
  | i :: j :: r, _ => by
    obtain ⟨h1, h2⟩ := maxI_ok (ns := j :: r) (by simp)
    simp only [maxI]
    by_cases q : maxI (j :: r) > i
    · rw [if_pos q]
      refine ⟨List.mem_cons_of_mem _ h1, fun y hy => ?_⟩
      rcases List.mem_cons.mp hy with rfl | hy
      · omega
      · exact h2 y hy
    · rw [if_neg q]
      refine ⟨List.mem_cons_self, fun y hy => ?_⟩
      rcases List.mem_cons.mp hy with rfl | hy
      · omega
      · have := h2 y hy; omega
theorem minI_ok : ∀ {ns : List Int}, ns ≠ [] → minI ns ∈ ns ∧ ∀ y ∈ ns, minI ns ≤ y
  | [], h => absurd rfl h
  | [i], _ => by simp [minI]
  | i :: j :: r, _ => by
    obtain ⟨h1, h2⟩ := minI_ok (ns := j :: r) (by simp)
    simp only [minI]
    by_cases q : minI (j :: r) < i
    · rw [if_pos q]
      refine ⟨List.mem_cons_of_mem _ h1, fun y hy => ?_⟩
      rcases List.mem_cons.mp hy with rfl | hy
      · omega
      · exact h2 y hy
    · rw [if_neg q]
      refine ⟨List.mem_cons_self, fun y hy => ?_⟩
      rcases List.mem_cons.mp hy with rfl | hy
      · omega
      · have := h2 y hy; omega
def D.sum1 : List D → Option D
  | [.lst ds] => (D.ints ds).map fun ns => .int ns.sum
  | _ => none
def D.max1 : List D → Option D
  | [.lst ds] => (D.ints ds).bind fun ns => if ns.isEmpty then none else some (.int (maxI ns))
  | _ => none
def D.min1 : List D → Option D
  | [.lst ds] => (D.ints ds).bind fun ns => if ns.isEmpty then none else some (.int (minI ns))
  | _ => none
section
variable {X : Cx}
theorem one_list {f : List Int → Option D} {ds : List D} {d : D} {g : List D → Option D} (hg : ∀ es, g es = match es with | [.lst ds] => (D.ints ds).bind f | _ => none) (h : g ds = some d) : ∃ es ns, ds = [.lst es] ∧ D.ints es = some ns ∧ f ns = some d := by
  rw [hg] at h
  split at h
  · rename_i es
    cases q : D.ints es with
    | none => rw [q] at h; cases h
    | some ns => rw [q] at h; exact ⟨es, ns, rfl, q, h⟩
  · cases h
theorem c_sum (hc : X.calm = true := by rfl) : CallOkS X (.builtin "sum") D.sum1 := fun ds d h => by
  obtain ⟨es, ns, rfl, e1, e2⟩ := one_list (f := fun ns => some (.int ns.sum)) (fun es => by unfold D.sum1; split <;> simp [Option.map_eq_bind, Function.comp_def]) h
  cases e2
  exact ⟨_, cr_sum hc, fun vs H Q r q => by
    obtain ⟨v, rfl, r1⟩ := reps1 r
    simp only [Rep] at r1
    obtain ⟨a, us, rfl, _, _, h1, h2⟩ := r1
    rw [ints_reps e1 h2] at h1
    exact ⟨a, ns, rfl, SqL.of h1, q _ fun R => by simp only [Rep]⟩⟩
theorem c_max1 (hc : X.calm = true := by rfl) : CallOkS X (.builtin "max") D.max1 := fun ds d h => by
  obtain ⟨es, ns, rfl, e1, e2⟩ := one_list (f := fun ns => if ns.isEmpty then none else some (.int (maxI ns))) (fun es => by unfold D.max1; split <;> rfl) h
  by_cases hz : ns = []
  · subst hz; cases e2
  · have hz' : ns.isEmpty = false := by cases ns <;> simp_all
    rw [hz'] at e2
    cases e2
    exact ⟨_, cr_max hc, fun vs H Q r q => by
      obtain ⟨v, rfl, r1⟩ := reps1 r
      simp only [Rep] at r1
      obtain ⟨a, us, rfl, _, _, h1, h2⟩ := r1
      rw [ints_reps e1 h2] at h1
      obtain ⟨m1, m2⟩ := maxI_ok hz
      refine ⟨a, ns, rfl, SqL.of h1, List.length_pos_iff.mpr hz, fun m hm hy => ?_⟩
      have : m = maxI ns := Int.le_antisymm (m2 m hm) (hy _ m1)
      rw [this]
      exact q _ fun R => by simp only [Rep]⟩
theorem c_min1 (hc : X.calm = true := by rfl) : CallOkS X (.builtin "min") D.min1 := fun ds d h => by
  obtain ⟨es, ns, rfl, e1, e2⟩ := one_list (f := fun ns => if ns.isEmpty then none else some (.int (minI ns))) (fun es => by unfold D.min1; split <;> rfl) h
  by_cases hz : ns = []
  · subst hz; cases e2
  · have hz' : ns.isEmpty = false := by cases ns <;> simp_all
    rw [hz'] at e2
    cases e2
    exact ⟨_, cr_min hc, fun vs H Q r q => by
      obtain ⟨v, rfl, r1⟩ := reps1 r
      simp only [Rep] at r1
      obtain ⟨a, us, rfl, _, _, h1, h2⟩ := r1
      rw [ints_reps e1 h2] at h1
      obtain ⟨m1, m2⟩ := minI_ok hz
      refine ⟨a, ns, rfl, SqL.of h1, List.length_pos_iff.mpr hz, fun m hm hy => ?_⟩
      have : m = minI ns := Int.le_antisymm (hy _ m1) (m2 m hm)
      rw [this]
      exact q _ fun R => by simp only [Rep]⟩
/-- a module's constant -/
theorem de_gint [Tabs] {x : Str} {i : Int} {pos : Pos} (h : ∃ t, X.mg x = some (.int i t)) (hg : Gl X x := by rfl) (hd : (x == ("__debug__" : Str)) = false := by decide) : PE X (.Name x pos) (tD X.K [] (dC (.int i))) := by
  obtain ⟨t, h⟩ := h
  exact de_glob (v := .int i) hg h ⟨t, rfl⟩ (fun H => by simp only [Rep]) hd
theorem de_gstr [Tabs] {x : Str} {i : Str} {pos : Pos} (h : ∃ t, X.mg x = some (.str i t)) (hg : Gl X x := by rfl) (hd : (x == ("__debug__" : Str)) = false := by decide) : PE X (.Name x pos) (tD X.K [] (dC (.str i))) := by
  obtain ⟨t, h⟩ := h
  exact de_glob (v := .str i) hg h ⟨t, rfl⟩ (fun H => by simp only [Rep]) hd
end
end DL

/-! Changes within an owned datum: one item of a container. -/
namespace DL
open PySem PySem.Spec PyProof.Rows L2
section
variable {K : PySem.W.Frag} {P : Addr → Prop} {H : Hp}
/-- the item at place j, and what becomes of the whole when it is changed in place -/
theorem Owns.at : ∀ {xs : List D} {vs : List V} {B : List Addr} {j : Nat} {d : D}, Owns K P H xs vs B → xs[j]? = some d → ∃ B1 C B2 v, B = B1 ++ (C ++ B2) ∧ vs[j]? = some v ∧ Own K P H d v C ∧
    ∀ (P' : Addr → Prop) (H' : Hp) (d' : D) (C' : List Addr), Tr P P' H H' → (∀ a ∈ B1 ++ B2, ∀ o, H a = some o → NT o → H' a = some o) → Own K P' H' d' v C' → Owns K P' H' (xs.set j d') vs (B1 ++ (C' ++ B2))
  | [], _, _, _, _, _, e => by simp at e
  | x :: xs, vs, B, 0, d, h, e => by
    simp only [Owns] at h
    obtain ⟨v, r, B0, C0, rfl, rfl, h1, h2⟩ := h
    simp only [List.getElem?_cons_zero, Option.some.injEq] at e
    subst e
    refine ⟨[], B0, C0, v, rfl, rfl, h1, fun P' H' d' C' t k o => ?_⟩
    simp only [List.set_cons_zero, Owns, List.nil_append]
    exact ⟨v, r, C', C0, rfl, rfl, o, h2.tr t fun a ha o e n => k a (by simpa using ha) o e n⟩
  | x :: xs, vs, B, j + 1, d, h, e => by
    simp only [Owns] at h
    obtain ⟨v, r, B0, C0, rfl, rfl, h1, h2⟩ := h
    simp only [List.getElem?_cons_succ] at e
    obtain ⟨B1, C, B2, w, rfl, e1, e2, q⟩ := Owns.at h2 e
    refine ⟨B0 ++ B1, C, B2, w, by rw [List.append_assoc], by simpa using e1, e2, fun P' H' d' C' t k o => ?_⟩
    simp only [List.set_cons_succ, Owns]
    refine ⟨v, r, B0, B1 ++ (C' ++ B2), rfl, by rw [List.append_assoc], h1.tr t fun a ha o e n => k a (by simp [ha]) o e n, q P' H' d' C' t (fun a ha o e n => k a ?_ o e n) o⟩
    rcases List.mem_append.mp ha with z | z
    · simp [z]
    · simp [z]
/-- the value at a path of places -/
def VAt (H : Hp) : V → List Nat → V → Prop
  | v, [], w => w = v
  | v, j :: p, w => ∃ a x, v = .ref a ∧ ((∃ vs, H a = some (.lst vs) ∧ vs[j]? = some x) ∨ (∃ kvs, H a = some (.dK kvs) ∧ (kvs.map (·.2))[j]? = some x) ∨ (∃ C dx fs, H a = some (.ins C dx fs) ∧ (fs.map (·.2))[j]? = some x)) ∧ VAt H x p w
theorem VAt.one {H : Hp} : ∀ {p : List Nat} {v w w' : V}, VAt H v p w → VAt H v p w' → w = w'
  | [], v, w, w', h, h' => by
    have h : w = v := h
    have h' : w' = v := h'
    rw [h, h']
  | j :: p, v, w, w', h, h' => by
    obtain ⟨a, x, rfl, e, k⟩ := h
    obtain ⟨a', x', e0, e', k'⟩ := h'
    cases e0
    have : x = x' := by
      rcases e with ⟨vs, e1, e2⟩ | ⟨vs, e1, e2⟩ | ⟨C, dx, vs, e1, e2⟩ <;> rcases e' with ⟨vs', e1', e2'⟩ | ⟨vs', e1', e2'⟩ | ⟨C', dx', vs', e1', e2'⟩ <;> rw [e1] at e1' <;> cases e1' <;> rw [e2] at e2' <;> cases e2' <;> rfl
    subst this
    exact VAt.one k k'
theorem VAt.same {H H' : Hp} (s : SameT H H') : ∀ {p : List Nat} {v w : V}, VAt H v p w → VAt H' v p w
  | [], _, _, h => h
  | j :: p, v, w, h => by
    obtain ⟨a, x, rfl, e, k⟩ := h
    refine ⟨a, x, rfl, ?_, k.same s⟩
    rcases e with ⟨vs, e1, e2⟩ | ⟨vs, e1, e2⟩ | ⟨C, dx, vs, e1, e2⟩
    · exact .inl ⟨vs, s.k _ _ e1 trivial, e2⟩
    · exact .inr (.inl ⟨vs, s.k _ _ e1 trivial, e2⟩)
    · exact .inr (.inr ⟨C, dx, vs, s.k _ _ e1 trivial, e2⟩)
theorem VAt.snoc {H : Hp} {x : V} {j : Nat} : ∀ {p : List Nat} {v w : V}, VAt H v p w → VAt H w [j] x → VAt H v (p ++ [j]) x
  | [], v, w, h, k => by
    have h : w = v := h
    subst h
    exact k
  | i :: p, v, w, h, k => by
    obtain ⟨a, y, rfl, e, h⟩ := h
    exact ⟨a, y, rfl, e, h.snoc k⟩
/-- a container's items -/
def D.kids : D → Option (List D)
  | .lst xs => some xs
  | .dct _ xs => some xs
  | .obj _ _ xs => some xs
  | _ => none
def D.withK : D → List D → D
  | .lst _, xs => .lst xs
  | .dct ks _, xs => .dct ks xs
  | .obj C ns _, xs => .obj C ns xs
  | d, _ => d
/-- the datum at a path of places -/
def D.at : D → List Nat → Option D
  | d, [] => some d
  | d, j :: p => d.kids.bind fun xs => (xs[j]?).bind fun x => x.at p
def D.put : D → List Nat → D → Option D
  | _, [], d' => some d'
  | d, j :: p, d' => d.kids.bind fun xs => (xs[j]?).bind fun x => (x.put p d').map fun y => d.withK (xs.set j y)
/-- a datum within an owned one: changed in place, the whole is changed -/
theorem Own.at : ∀ (p : List Nat) {d s : D} {v : V} {A : List Addr}, Own K P H d v A → d.at p = some s → ∃ A1 C A2 w, A.Perm (A1 ++ (C ++ A2)) ∧ Own K P H s w C ∧ VAt H v p w ∧
    ∀ (P' : Addr → Prop) (H' : Hp) (s' : D) (C' : List Addr), Tr P P' H H' → (∀ a ∈ A1 ++ A2, ∀ o, H a = some o → NT o → H' a = some o) → Own K P' H' s' w C' → ∃ d', d.put p s' = some d' ∧ ∃ A', A'.Perm (A1 ++ (C' ++ A2)) ∧ Own K P' H' d' v A'
  | [], d, s, v, A, h, e => by
    cases e
    exact ⟨[], A, [], v, by simp, h, rfl, fun P' H' s' C' t k o => ⟨s', rfl, C', by simp, o⟩⟩
  | j :: p, d, s, v, A, h, e => by
    cases d <;> simp only [D.at, D.kids, Option.bind_some, Option.bind_none] at e <;> first | cases e | skip
    case lst xs =>
      simp only [Own] at h
      obtain ⟨a, vs, B, rfl, rfl, hl, hH, hB⟩ := h
      cases q : xs[j]? with
      | none => rw [q] at e; cases e
      | some x =>
        rw [q] at e
        simp only [Option.bind_some] at e
        obtain ⟨B1, C, B2, w, rfl, e1, e2, k1⟩ := Owns.at hB q
        obtain ⟨A1, C2, A2, u, pm, e4, va, k2⟩ := Own.at p e2 e
        refine ⟨a :: B1 ++ A1, C2, A2 ++ B2, u, ?_, e4, ⟨a, w, rfl, .inl ⟨vs, hH, e1⟩, va⟩, fun P' H' s' C' t k o => ?_⟩
        · simp only [List.cons_append, List.append_assoc]
          refine List.Perm.cons _ (List.Perm.append_left _ ?_)
          exact (pm.append_right B2).trans (by simp [List.append_assoc])
        · obtain ⟨y, e5, A', pm', e6⟩ := k2 P' H' s' C' t (fun b hb o e n => k b (by
            rcases List.mem_append.mp hb with z | z <;> simp [z]) o e n) o
          refine ⟨.lst (xs.set j y), by simp [D.put, D.kids, q, e5, D.withK], a :: (B1 ++ (A' ++ B2)), ?_, ?_⟩
          · simp only [List.cons_append, List.append_assoc]
            refine List.Perm.cons _ (List.Perm.append_left _ ?_)
            exact (pm'.append_right B2).trans (by simp [List.append_assoc])
          · simp only [Own]
            refine ⟨a, vs, _, rfl, rfl, by simpa using hl, k a (by simp) _ hH trivial, k1 P' H' y A' t (fun b hb o e n => k b (by
              rcases List.mem_append.mp hb with z | z <;> simp [z]) o e n) e6⟩
    case dct ks xs =>
      simp only [Own] at h
      obtain ⟨a, vs, B, rfl, rfl, hl, ⟨hk1, hk2⟩, hH, hB⟩ := h
      cases q : xs[j]? with
      | none => rw [q] at e; cases e
      | some x =>
        rw [q] at e
        simp only [Option.bind_some] at e
        obtain ⟨B1, C, B2, w, rfl, e1, e2, k1⟩ := Owns.at hB q
        obtain ⟨A1, C2, A2, u, pm, e4, va, k2⟩ := Own.at p e2 e
        refine ⟨a :: B1 ++ A1, C2, A2 ++ B2, u, ?_, e4, ⟨a, w, rfl, .inr (.inl ⟨_, hH, (by
          have hz : (ks.zip vs).map (·.2) = vs := by rw [List.map_snd_zip (by have := hB.length; omega)]
          rw [hz]; exact e1)⟩), va⟩, fun P' H' s' C' t k o => ?_⟩
        · simp only [List.cons_append, List.append_assoc]
          refine List.Perm.cons _ (List.Perm.append_left _ ?_)
          exact (pm.append_right B2).trans (by simp [List.append_assoc])
        · obtain ⟨y, e5, A', pm', e6⟩ := k2 P' H' s' C' t (fun b hb o e n => k b (by
            rcases List.mem_append.mp hb with z | z <;> simp [z]) o e n) o
          refine ⟨.dct ks (xs.set j y), by simp [D.put, D.kids, q, e5, D.withK], a :: (B1 ++ (A' ++ B2)), ?_, ?_⟩
          · simp only [List.cons_append, List.append_assoc]
            refine List.Perm.cons _ (List.Perm.append_left _ ?_)
            exact (pm'.append_right B2).trans (by simp [List.append_assoc])
          · simp only [Own]
            refine ⟨a, vs, _, rfl, rfl, hl, ⟨by simpa using hk1, hk2⟩, k a (by simp) _ hH trivial, k1 P' H' y A' t (fun b hb o e n => k b (by
              rcases List.mem_append.mp hb with z | z <;> simp [z]) o e n) e6⟩
    case obj Cl ns xs =>
      simp only [Own] at h
      obtain ⟨a, dx, vs, B, rfl, rfl, hl, hH, hB⟩ := h
      cases q : xs[j]? with
      | none => rw [q] at e; cases e
      | some x =>
        rw [q] at e
        simp only [Option.bind_some] at e
        obtain ⟨B1, C, B2, w, rfl, e1, e2, k1⟩ := Owns.at hB q
        obtain ⟨A1, C2, A2, u, pm, e4, va, k2⟩ := Own.at p e2 e
        refine ⟨a :: B1 ++ A1, C2, A2 ++ B2, u, ?_, e4, ⟨a, w, rfl, .inr (.inr ⟨_, _, _, hH, (by
          have hz : (ns.zip vs).map (·.2) = vs := by rw [List.map_snd_zip (by have := hB.length; omega)]
          rw [hz]; exact e1)⟩), va⟩, fun P' H' s' C' t k o => ?_⟩
        · simp only [List.cons_append, List.append_assoc]
          refine List.Perm.cons _ (List.Perm.append_left _ ?_)
          exact (pm.append_right B2).trans (by simp [List.append_assoc])
        · obtain ⟨y, e5, A', pm', e6⟩ := k2 P' H' s' C' t (fun b hb o e n => k b (by
            rcases List.mem_append.mp hb with z | z <;> simp [z]) o e n) o
          refine ⟨.obj Cl ns (xs.set j y), by simp [D.put, D.kids, q, e5, D.withK], a :: (B1 ++ (A' ++ B2)), ?_, ?_⟩
          · simp only [List.cons_append, List.append_assoc]
            refine List.Perm.cons _ (List.Perm.append_left _ ?_)
            exact (pm'.append_right B2).trans (by simp [List.append_assoc])
          · simp only [Own]
            refine ⟨a, dx, vs, _, rfl, rfl, by simpa using hl, k a (by simp) _ hH trivial, k1 P' H' y A' t (fun b hb o e n => k b (by
              rcases List.mem_append.mp hb with z | z <;> simp [z]) o e n) e6⟩
end
end DL

/-! Reading a path of items from a slot that owns its lists: the very value. -/
namespace DL
open PySem PySem.Spec PyProof.Rows L2
def dIdx : List Key → Key → Option Nat
  | [], _ => none
  | k :: ks, q => if k = q then some 0 else (dIdx ks q).map (· + 1)
theorem dIdx_look {α : Type} : ∀ {ks : List Key} {vs : List α} {q : Key} {j : Nat} {x : α}, dIdx ks q = some j → vs[j]? = some x → dLook ks vs q = some x
  | [], _, _, _, _, h, _ => by simp [dIdx] at h
  | k :: ks, [], _, _, _, _, h => by simp at h
  | k :: ks, v :: vs, q, j, x, h, h' => by
    simp only [dIdx] at h
    simp only [dLook]
    by_cases z : k = q
    · rw [if_pos z] at h ⊢
      cases h
      simpa using h'
    · rw [if_neg z] at h ⊢
      cases e : dIdx ks q with
      | none => rw [e] at h; cases h
      | some i =>
        rw [e] at h
        cases h
        exact dIdx_look e (by simpa using h')
theorem dIdx_lt : ∀ {ks : List Key} {q : Key} {j : Nat}, dIdx ks q = some j → j < ks.length
  | [], _, _, h => by simp [dIdx] at h
  | k :: ks, q, j, h => by
    simp only [dIdx] at h
    by_cases z : k = q
    · rw [if_pos z] at h; cases h; simp
    · rw [if_neg z] at h
      cases e : dIdx ks q with
      | none => rw [e] at h; cases h
      | some i =>
        rw [e] at h
        cases h
        have := dIdx_lt e
        simp only [List.length_cons]
        omega
/-- an item's place in a container -/
def D.place : D → D → Option Nat
  | .lst xs, .int i => ixN xs.length i
  | .dct ks _, k => k.key.bind fun q => dIdx ks q
  | _, _ => none
abbrev Ep := En → Option (List Nat)
/-- the reading of a path from slot i: the very value there -/
def tX [Tabs] (K : PySem.W.Frag) (i : Nat) (pth : Ep) : TE := fun σ H Q => ∃ ρ Pf P v d A p s, Ctx K [] Pf (fun _ => True) σ ρ H ∧ σ[i]? = some (some v) ∧ ρ[i]? = some (some d) ∧ Own K P H d v A ∧ pth ρ = some p ∧ d.at p = some s ∧ ∀ w H', SameT H H' → VAt H' v p w → Q w H'
def pSl : Ep := fun _ => some []
def pIx (i : Nat) (pa : Ep) (fb : Ev) : Ep := fun ρ => (pa ρ).bind fun p => (dV i ρ).bind fun d => (d.at p).bind fun s => (fb ρ).bind fun k => (s.place k).map fun j => p ++ [j]
theorem pIx_some {i : Nat} {pa : Ep} {fb : Ev} {ρ : En} {p' : List Nat} (h : pIx i pa fb ρ = some p') : ∃ p d s k j, pa ρ = some p ∧ dV i ρ = some d ∧ d.at p = some s ∧ fb ρ = some k ∧ s.place k = some j ∧ p' = p ++ [j] := by
  unfold pIx at h
  cases q : pa ρ with
  | none => rw [q] at h; cases h
  | some p =>
    rw [q] at h
    simp only [Option.bind_some] at h
    cases q1 : dV i ρ with
    | none => rw [q1] at h; cases h
    | some d =>
      rw [q1] at h
      simp only [Option.bind_some] at h
      cases q2 : d.at p with
      | none => rw [q2] at h; cases h
      | some s =>
        rw [q2] at h
        simp only [Option.bind_some] at h
        cases q3 : fb ρ with
        | none => rw [q3] at h; cases h
        | some k =>
          rw [q3] at h
          simp only [Option.bind_some] at h
          cases q4 : s.place k with
          | none => rw [q4] at h; cases h
          | some j => rw [q4] at h; cases h; exact ⟨p, d, s, k, j, rfl, rfl, q2, rfl, q4, rfl⟩
section
variable {X : Cx} {a b : Expr} {U : List Nat} {fb : Ev} {pos : Pos} {pa : Ep}
theorem dx_var [Tabs] (i : Nat) {x : Str} {pos : Pos} (hN : X.N[i]? = some x := by rfl) (hv : Vis X.env.scope x := by first | exact Or.inl rfl | exact Or.inr (Or.inl rfl) | exact Or.inr (Or.inr rfl)) (hd : (x == ("__debug__" : Str)) = false := by decide)
    (hcd : (x == ("__classdict__" : Str)) = false := by decide) : PE X (.Name x pos) (tX X.K i pSl) :=
  ⟨fun pins s σ H Q I ⟨ρ, Pf, P, v, d, A, p, s', c, ev, ed, o, ep, es, q⟩ => by
    cases ep
    exact (pv i hN hv hd hcd).run pins s σ H Q I ⟨v, ev, q v H (.refl H) rfl⟩⟩
theorem dx_ix [Tabs] {i : Nat} (hu : X.A.units + 1 < cLine) (ha : PE X a (tX X.K i pa)) (hb : PE X b (tD X.K U fb)) (hs : PlainIx b := by exact fun _ _ => rfl) (hs' : NoSl b := by exact fun _ _ => rfl) : PE X (.Subscript a b pos) (tX X.K i (pIx i pa fb)) := by
  refine ⟨fun pins s σ H Q I ⟨ρ, Pf, P, v, d, A, p', s', c, ev, ed, o, ep, es, q⟩ => ?_⟩
  obtain ⟨p, d', s0, k, j, e1, e2, e3, e4, e5, rfl⟩ := pIx_some ep
  have hd : d' = d := by
    have := dV_at e2
    rw [ed] at this
    cases this; rfl
  subst hd
  obtain ⟨A1, C, A2, w, _, ow, va, _⟩ := Own.at p o e3
  cases s0 with
  | lst xs =>
    cases k <;> simp only [D.place] at e5 <;> first | cases e5 | skip
    rename_i n
    refine (pe_ix ix_list ha hb hs).run pins s σ H Q I ⟨ρ, Pf, P, v, d', A, p, _, c, ev, ed, o, e1, e3, fun w' H1 s1 va1 => ⟨ρ, Pf, _, _, (c.same s1).top, e4, fun y H2 s2 r2 => ?_⟩⟩
    have hw : w' = w := va1.one (va.same s1)
    subst hw
    have ow2 := ow.same (s1.trans s2)
    simp only [Own] at ow2
    simp only [Rep] at r2
    obtain ⟨l, vs, B, rfl, _, _, hH, hB⟩ := ow2
    have hl := hB.length
    obtain ⟨_, hj, _, _⟩ := ixN_seq e5
    have hjv : vs[j]? = some (vs[j]'(by omega)) := List.getElem?_eq_getElem (by omega)
    refine ⟨l, vs, n, _, rfl, r2, SqL.of hH, ?_, q _ H2 (s1.trans s2) (((va.same s1).same s2).snoc ⟨l, _, rfl, .inl ⟨vs, hH, hjv⟩, rfl⟩)⟩
    have e5' : ixN vs.length n = some j := by rw [hl]; exact e5
    unfold atI
    rw [e5']
    exact hjv
  | dct ks xs =>
    simp only [D.place] at e5
    cases q1 : k.key with
    | none => rw [q1] at e5; cases e5
    | some kk =>
      rw [q1] at e5
      simp only [Option.bind_some] at e5
      refine (pe_dget hu ha hb hs').run pins s σ H Q I ⟨ρ, Pf, P, v, d', A, p, _, c, ev, ed, o, e1, e3, fun w' H1 s1 va1 => ⟨ρ, Pf, _, _, (c.same s1).top, e4, fun y H2 s2 r2 => ?_⟩⟩
      have hw : w' = w := va1.one (va.same s1)
      subst hw
      have ow2 := ow.same (s1.trans s2)
      simp only [Own] at ow2
      obtain ⟨l, vs, B, rfl, _, _, ⟨hk1, _⟩, hH, hB⟩ := ow2
      have hl := hB.length
      have hj := dIdx_lt e5
      have hjv : vs[j]? = some (vs[j]'(by omega)) := List.getElem?_eq_getElem (by omega)
      have hz : (ks.zip vs).map (·.2) = vs := List.map_snd_zip (by omega)
      refine ⟨l, vs[j]'(by omega), rfl, ?_, q _ H2 (s1.trans s2) (((va.same s1).same s2).snoc ⟨l, _, rfl, .inr (.inl ⟨_, hH, by rw [hz]; exact hjv⟩), rfl⟩)⟩
      have g := DGet.k (k := kk) hH
      rw [valV_zip, dIdx_look e5 hjv] at g
      rw [key_rep q1 r2]
      exact g
  | _ => simp only [D.place] at e5; cases e5
end
end DL

/-! o.append(e), o a path within a slot that owns its lists. -/
namespace DL
open PySem PySem.Spec PyProof.Rows L2
def sPApp (i : Nat) (pth : Ep) (f : Ev) : Fs := fun ρ => (dV i ρ).bind fun d => (pth ρ).bind fun p => (d.at p).bind fun s => match s with
  | .lst ds => (f ρ).bind fun y => if ds.length < 16777216 then (d.put p (.lst (ds ++ [y]))).map fun d' => .nx (ρ.set i (some d')) else none
  | _ => none
theorem sPApp_some {i : Nat} {pth : Ep} {f : Ev} {ρ : En} {o : Out} (h : sPApp i pth f ρ = some o) : ∃ d p ds y d', dV i ρ = some d ∧ pth ρ = some p ∧ d.at p = some (.lst ds) ∧ f ρ = some y ∧ ds.length < 16777216 ∧ d.put p (.lst (ds ++ [y])) = some d' ∧ o = .nx (ρ.set i (some d')) := by
  unfold sPApp at h
  cases q : dV i ρ with
  | none => rw [q] at h; cases h
  | some d =>
    rw [q] at h
    simp only [Option.bind_some] at h
    cases q1 : pth ρ with
    | none => rw [q1] at h; cases h
    | some p =>
      rw [q1] at h
      simp only [Option.bind_some] at h
      cases q2 : d.at p with
      | none => rw [q2] at h; cases h
      | some s =>
        rw [q2] at h
        simp only [Option.bind_some] at h
        split at h
        · rename_i ds
          cases q3 : f ρ with
          | none => rw [q3] at h; cases h
          | some y =>
            rw [q3] at h
            simp only [Option.bind_some] at h
            by_cases hl : ds.length < 16777216
            · rw [if_pos hl] at h
              cases q4 : d.put p (.lst (ds ++ [y])) with
              | none => rw [q4] at h; cases h
              | some d' => rw [q4] at h; cases h; exact ⟨d, p, ds, y, d', rfl, rfl, q2, rfl, hl, q4, rfl⟩
            · rw [if_neg hl] at h; cases h
        · cases h
section
variable {X : Cx} {e oe : Expr} {U : List Nat} {f : Ev} {M L : List Nat} {i : Nat} {pth : Ep} {pos cpos apos : Pos}
theorem ow_perm {M : List Nat} {As : Nat → List Addr} {A A' : List Addr} (h : ∀ a, a ∈ A → a ∈ A') {a : Addr} (o : Ow M (asSet As i A) a) : Ow M (asSet As i A') a := by
  obtain ⟨j, hj, ha⟩ := o
  refine ⟨j, hj, ?_⟩
  unfold asSet at ha ⊢
  by_cases q : j = i
  · rw [if_pos q] at ha ⊢; exact h a ha
  · rw [if_neg q] at ha ⊢; exact ha
theorem ds_papp [Tabs] (he : PE X e (tF X.K U f)) (hM : i ∈ M := by decide) (hU : ∀ j ∈ U, j ∉ M := by decide)
    (hp : ∀ t, PA X [e] t → PE X (.Call (.Attribute oe "append" apos) [e] [] cpos) (tBM X.K "list" rAppend (tX X.K i pth) t)) (hse : starEach [e] X.env = (false, eval e X.env) :: starEach [] X.env := by rfl) (hs : swapsWith (.Call (.Attribute oe "append" apos) [e] [] cpos) none pos.line X.env = pure false := by rfl) :
    PS X (.Expr (.Call (.Attribute oe "append" apos) [e] [] cpos) pos) (tS X.K M L (sPApp i pth f)) := ds_of fun ρ o h => by
  obtain ⟨d, pp, ds, y, d', e1, e2, e3, e4, hl, e5, rfl⟩ := sPApp_some h
  refine ⟨_, ps_expr (hp _ (pa_cons he pa_nil hse)) hs, fun E σ H P As s p => ?_⟩
  obtain ⟨v, g1, g2⟩ := s.ow i hM _ (dV_at e1)
  obtain ⟨A1, C, A2, w0, pm, ow, va0, k2⟩ := Own.at pp g2.dom e3
  have ow0 := ow
  simp only [Own] at ow0
  obtain ⟨l, vs, B, rfl, rfl, hlen, hH, hB⟩ := ow0
  have inA : ∀ a, a ∈ As i ↔ a ∈ A1 ∨ a = l ∨ a ∈ B ∨ a ∈ A2 := fun a => by rw [pm.mem_iff]; simp
  have ndA : (A1 ++ ((l :: B) ++ A2)).Nodup := pm.nodup_iff.mp (s.nd i hM)
  refine ⟨ρ, _, _, v, d, As i, pp, _, Ctx.top s.any, g1, dV_at e1, g2, e2, e3, fun w H1 s1 va => ?_⟩
  have hw : w = .ref l := va.one (va0.same s1)
  subst hw
  have hH1 : H1 l = some (.lst vs) := s1.k _ _ hH trivial
  refine ⟨.inl ⟨rfl, vs, SqL.of hH1⟩, ρ, _, _, y, (s.ctx hU).same s1, e4, fun wv H' A k o n z => ?_⟩
  have kk := s1.trans k
  have z : ∀ a ∈ A, H a = none := fun a ha => s1.free (z a ha)
  have hH' : H' l = some (.lst vs) := kk.k _ _ hH trivial
  refine ⟨l, vs, wv, rfl, rfl, hH', by rw [hB.length, sizeLine_lit]; exact hl, ?_⟩
  have hAs : ∀ a ∈ As i, H a ≠ none := fun a ha => mut_some (s.mut ⟨i, hM, ha⟩)
  have up : ∀ a o, a ≠ l → H' a = some o → (upd H' l (.lst (vs ++ [wv]))) a = some o := fun a o h1 h2 => by rw [upd_ne h1]; exact h2
  have hlA : l ∉ A := fun q => by rw [z l q] at hH; cases hH
  have offl : ∀ a, (P a ∧ ¬ Ow M As a) → a ≠ l := fun a h1 q => h1.2 ⟨i, hM, (inA a).mpr (.inr (.inl q))⟩
  have off : ∀ a, (P a ∧ ¬ Ow M As a) → a ∉ A → ¬ Ow M (asSet As i (A1 ++ ((l :: (B ++ A)) ++ A2))) a := fun a h1 h2 => not_ow_set h1.2 fun q => by
    simp only [List.mem_append, List.mem_cons] at q
    rcases q with q | (q | q | q) | q
    · exact h1.2 ⟨i, hM, (inA a).mpr (.inl q)⟩
    · exact offl a h1 q
    · exact h1.2 ⟨i, hM, (inA a).mpr (.inr (.inr (.inl q)))⟩
    · exact h2 q
    · exact h1.2 ⟨i, hM, (inA a).mpr (.inr (.inr (.inr q)))⟩
  have ndA' := List.nodup_append.mp ndA
  have ndC := List.nodup_append.mp ndA'.2.1
  have lA1 : l ∉ A1 := fun q => ndA'.2.2 l q l (by simp) rfl
  have lA2 : l ∉ A2 := fun q => ndC.2.2 l (by simp) l q rfl
  have lB : l ∉ B := (List.nodup_cons.mp ndC.1).1
  have newL : Own X.K (fun a => P a ∧ ¬ Ow M (asSet As i (A1 ++ ((l :: (B ++ A)) ++ A2))) a) (upd H' l (.lst (vs ++ [wv]))) (.lst (ds ++ [y])) (.ref l) (l :: (B ++ A)) := by
    simp only [Own]
    refine ⟨l, vs ++ [wv], B ++ A, rfl, rfl, by rw [List.length_append, sizeLine_lit]; simp; omega, upd_same, Owns.snoc ?_ ?_⟩
    · refine o.tr ⟨fun a h => ⟨h.1.1, off a h.1 h.2⟩, fun a o h _ q => up a o (fun w => ?_) h⟩ fun a ha o h _ => up a o (fun q => hlA (q ▸ ha)) h
      rcases q with q | q
      · exact offl a q.1 w
      · rw [w, hH'] at h; cases h; exact q trivial
    · refine hB.tr ⟨fun a h => ⟨h.1.1, off a h.1 fun q => h.2 (z a q)⟩, fun a o h n q => up a o (fun w => ?_) (kk.k _ _ h n)⟩ fun a ha o h n => up a o (fun q => lB (q ▸ ha)) (kk.k _ _ h n)
      rcases q with q | q
      · exact offl a q.1 w
      · rw [w, hH] at h; cases h; exact q trivial
  have tr : Tr (fun a => (P a ∧ ¬ Ow M As a) ∧ H a ≠ none) (fun a => P a ∧ ¬ Ow M (asSet As i (A1 ++ ((l :: (B ++ A)) ++ A2))) a) H (upd H' l (.lst (vs ++ [wv]))) := by
    refine ⟨fun a h => ⟨h.1.1, off a h.1 fun q => h.2 (z a q)⟩, fun a o h n q => up a o (fun w => ?_) (kk.k _ _ h n)⟩
    rcases q with q | q
    · exact offl a q.1 w
    · rw [w, hH] at h; cases h; exact q trivial
  obtain ⟨d2, e6, A', pm', own'⟩ := k2 _ (upd H' l (.lst (vs ++ [wv]))) (.lst (ds ++ [y])) (l :: (B ++ A)) tr (fun a ha o h n => up a o (fun q => by
    rcases List.mem_append.mp ha with w | w
    · exact lA1 (q ▸ w)
    · exact lA2 (q ▸ w)) (kk.k _ _ h n)) newL
  rw [e5] at e6
  cases e6
  have pmN : (A1 ++ ((l :: (B ++ A)) ++ A2)).Perm ((A1 ++ ((l :: B) ++ A2)) ++ A) := by
    simp only [List.cons_append, List.append_assoc]
    exact List.Perm.append_left _ (List.Perm.cons _ (List.Perm.append_left _ List.perm_append_comm))
  have pmA : A'.Perm (As i ++ A) := pm'.trans (pmN.trans (pm.symm.append_right A))
  obtain ⟨s', t⟩ := s.putT (A := A') (H2 := upd H' l (.lst (vs ++ [wv]))) (d := d') (v := v) hM (fun a o h n q => up a o (fun w => q ((inA a).mpr (.inr (.inl w)))) (kk.k _ _ h n)) (up_tb kk hH) (fun a h q => by
    by_cases w : a = l
    · rw [w, upd_same] at q; cases q
    · rw [upd_ne w] at q; exact h (kk.free q)) (own'.mono fun a h => ⟨h.1, fun q => h.2 (ow_perm (fun b hb => pm'.mem_iff.mp hb) q)⟩) (pmA.nodup_iff.mpr (List.nodup_append.mpr ⟨s.nd i hM, n, fun a ha b hb q => hAs a ha (z a (q ▸ hb))⟩)) fun a ha => by
      rcases List.mem_append.mp (pmA.mem_iff.mp ha) with q | q
      · exact .inl q
      · exact .inr (z a q)
  rw [set_self g1] at s'
  exact p σ _ _ s' t fun _ _ => rfl
end
end DL

/-! Fields of instances; changes at a path: one lemma; stores, removals. -/
namespace DL
open PySem PySem.Spec PyProof.Rows L2
/-! ### fields -/
def fIdx : List Str → Str → Option Nat
  | [], _ => none
  | k :: ks, q => if k = q then some 0 else (fIdx ks q).map (· + 1)
theorem fIdx_lt : ∀ {ks : List Str} {q : Str} {j : Nat}, fIdx ks q = some j → j < ks.length
  | [], _, _, h => by simp [fIdx] at h
  | k :: ks, q, j, h => by
    simp only [fIdx] at h
    by_cases z : k = q
    · rw [if_pos z] at h; cases h; simp
    · rw [if_neg z] at h
      cases e : fIdx ks q with
      | none => rw [e] at h; cases h
      | some i =>
        rw [e] at h
        cases h
        have := fIdx_lt e
        simp only [List.length_cons]
        omega
theorem fIdx_look : ∀ {ks : List Str} {vs : List V} {q : Str} {j : Nat} {x : V}, fIdx ks q = some j → vs[j]? = some x → (ks.zip vs).lookup q = some x
  | [], _, _, _, _, h, _ => by simp [fIdx] at h
  | k :: ks, [], _, _, _, _, h => by simp at h
  | k :: ks, v :: vs, q, j, x, h, h' => by
    simp only [fIdx] at h
    simp only [List.zip_cons_cons]
    by_cases z : k = q
    · rw [if_pos z] at h
      cases h
      subst z
      simp only [List.lookup, beq_self_eq_true]
      simpa using h'
    · rw [if_neg z] at h
      cases e : fIdx ks q with
      | none => rw [e] at h; cases h
      | some i =>
        rw [e] at h
        cases h
        have : (q == k) = false := by rw [beq_eq_false_iff_ne]; exact fun w => z w.symm
        simp only [List.lookup, this]
        exact fIdx_look e (by simpa using h')
theorem fIdx_none : ∀ {ks : List Str} {vs : List V} {q : Str}, fIdx ks q = none → (ks.zip vs).lookup q = none
  | [], _, _, _ => by simp
  | k :: ks, [], _, _ => by simp
  | k :: ks, v :: vs, q, h => by
    simp only [fIdx] at h
    simp only [List.zip_cons_cons]
    by_cases z : k = q
    · rw [if_pos z] at h; cases h
    · rw [if_neg z] at h
      have : (q == k) = false := by rw [beq_eq_false_iff_ne]; exact fun w => z w.symm
      simp only [List.lookup, this]
      refine fIdx_none ?_
      cases e : fIdx ks q with
      | none => rfl
      | some i => rw [e] at h; cases h
/-- a field stored: its names, its values -/
def fPutN (ns : List Str) (f : Str) : List Str := if (fIdx ns f).isSome then ns else ns ++ [f]
def fPutX {α : Type} (ns : List Str) (xs : List α) (f : Str) (x : α) : List α := match fIdx ns f with
  | some j => xs.set j x
  | none => xs ++ [x]
theorem putF_zip : ∀ (ns : List Str) (vs : List V) (f : Str) (y : V), ns.length = vs.length → putF f y (ns.zip vs) = (fPutN ns f).zip (fPutX ns vs f y)
  | [], [], f, y, _ => by simp [putF, fPutN, fPutX, fIdx]
  | [], _ :: _, _, _, h => by simp at h
  | _ :: _, [], _, _, h => by simp at h
  | k :: ks, v :: vs, f, y, h => by
    have ih := putF_zip ks vs f y (by simpa using h)
    simp only [List.zip_cons_cons, putF]
    by_cases z : k = f
    · rw [if_pos z]
      simp [fPutN, fPutX, fIdx, z]
    · rw [if_neg z, ih]
      unfold fPutN fPutX
      simp only [fIdx, if_neg z]
      cases e : fIdx ks f with
      | none => simp
      | some i => simp
theorem fPut_len {α : Type} {ns : List Str} {xs : List α} {f : Str} {x : α} (h : ns.length = xs.length) : (fPutN ns f).length = (fPutX ns xs f x).length := by
  unfold fPutN fPutX
  cases e : fIdx ns f with
  | none => simp [h]
  | some i => simp [h]
def D.fld (f : Str) : D → Option D
  | .obj _ ns xs => (fIdx ns f).bind fun j => xs[j]?
  | _ => none
/-- what is known of a class: its fields, methods are other names -/
structure ClsOk (K : PySem.W.Frag) (C : Str) (fs : List Str) : Prop where
  ex : ∃ a, ClsAt K C a ∧ Cls K a ∧ ∀ f ∈ fs, NoAttr K a f
theorem ClsAt.one {K : PySem.W.Frag} {C : Str} {a b : Addr} (h : ClsAt K C a) (k : ClsAt K C b) : a = b := by
  unfold ClsAt at h k
  rw [h] at k
  cases k; rfl
def D.cls : D → Option Str
  | .obj C _ _ => some C
  | _ => none
/-- o.f, o an instance of C -/
def dFld (C f : Str) (fo : Ev) : Ev := fun ρ => (fo ρ).bind fun d => if d.cls = some C then d.fld f else none
theorem dFld_some {C f : Str} {fo : Ev} {ρ : En} {y : D} (h : dFld C f fo ρ = some y) : ∃ ns xs j, fo ρ = some (.obj C ns xs) ∧ fIdx ns f = some j ∧ xs[j]? = some y := by
  unfold dFld at h
  cases q : fo ρ with
  | none => rw [q] at h; cases h
  | some d =>
    rw [q] at h
    simp only [Option.bind_some] at h
    by_cases hc : d.cls = some C
    · rw [if_pos hc] at h
      cases d <;> simp only [D.cls] at hc <;> first | cases hc | skip
      rename_i ns xs
      simp only [D.fld] at h
      cases e : fIdx ns f with
      | none => rw [e] at h; cases h
      | some j => rw [e] at h; exact ⟨ns, xs, j, rfl, e, h⟩
    · rw [if_neg hc] at h; cases h
section
variable {X : Cx} {e a b o : Expr} {U : List Nat} {fo fb : Ev} {pos : Pos} {pa : Ep} {fl C : Str}
theorem de_fld [Tabs] {fs : List Str} (hc : ClsOk X.K C fs) (he : PE X o (tD X.K U fo)) (hm : fl ∈ fs := by decide) (hb : attributeBase o fl X.env (eval o X.env) = eval o X.env := by rfl) : PE X (.Attribute o fl pos) (tD X.K U (dFld C fl fo)) := de_of fun ρ d h => by
  obtain ⟨ns, xs, j, e1, e2, e3⟩ := dFld_some h
  obtain ⟨ca, k1, k2, k3⟩ := hc.ex
  refine ⟨_, pe_fld he hb, fun σ H Pf R Q c k => ⟨ρ, Pf, R, _, c, e1, fun v H' s r => ?_⟩⟩
  simp only [Rep] at r
  obtain ⟨p, dx, vs, rfl, _, ⟨hl, hk⟩, hH, hr⟩ := r
  have hC := hk.one k1
  obtain ⟨w, g1, g2⟩ := hr.get e3
  exact ⟨p, dx.1, dx.2, _, w, rfl, hH, by rw [hC]; exact k2, by rw [hC]; exact k3 _ hm, fIdx_look e2 g1, k w H' s g2⟩
/-! ### a path's field -/
def pFld (i : Nat) (C fl : Str) (pa : Ep) : Ep := fun ρ => (pa ρ).bind fun p => (dV i ρ).bind fun d => (d.at p).bind fun s => match s with
  | .obj C' ns _ => if C' = C then (fIdx ns fl).map fun j => p ++ [j] else none
  | _ => none
theorem pFld_some {i : Nat} {ρ : En} {p' : List Nat} (h : pFld i C fl pa ρ = some p') : ∃ p d ns xs j, pa ρ = some p ∧ dV i ρ = some d ∧ d.at p = some (.obj C ns xs) ∧ fIdx ns fl = some j ∧ p' = p ++ [j] := by
  unfold pFld at h
  cases q : pa ρ with
  | none => rw [q] at h; cases h
  | some p =>
    rw [q] at h
    simp only [Option.bind_some] at h
    cases q1 : dV i ρ with
    | none => rw [q1] at h; cases h
    | some d =>
      rw [q1] at h
      simp only [Option.bind_some] at h
      cases q2 : d.at p with
      | none => rw [q2] at h; cases h
      | some s =>
        rw [q2] at h
        simp only [Option.bind_some] at h
        split at h
        · rename_i C' ns xs
          by_cases hc : C' = C
          · rw [if_pos hc] at h
            subst hc
            cases q3 : fIdx ns fl with
            | none => rw [q3] at h; cases h
            | some j => rw [q3] at h; cases h; exact ⟨p, d, ns, xs, j, rfl, rfl, q2, q3, rfl⟩
          · rw [if_neg hc] at h; cases h
        · cases h
theorem dx_fld [Tabs] {i : Nat} {fs : List Str} (hc : ClsOk X.K C fs) (ha : PE X o (tX X.K i pa)) (hm : fl ∈ fs := by decide) (hb : attributeBase o fl X.env (eval o X.env) = eval o X.env := by rfl) : PE X (.Attribute o fl pos) (tX X.K i (pFld i C fl pa)) := by
  refine ⟨fun pins s σ H Q I ⟨ρ, Pf, P, v, d, A, p', s', c, ev, ed, ow, ep, es, q⟩ => ?_⟩
  obtain ⟨p, d', ns, xs, j, e1, e2, e3, e4, rfl⟩ := pFld_some ep
  have hd : d' = d := by
    have := dV_at e2
    rw [ed] at this
    cases this; rfl
  subst hd
  obtain ⟨ca, k1, k2, k3⟩ := hc.ex
  obtain ⟨A1, C', A2, w, _, ow1, va, _⟩ := Own.at p ow e3
  refine (pe_fld ha hb).run pins s σ H Q I ⟨ρ, Pf, P, v, d', A, p, _, c, ev, ed, ow, e1, e3, fun w' H1 s1 va1 => ?_⟩
  have hw : w' = w := va1.one (va.same s1)
  subst hw
  have ow2 := ow1.same s1
  simp only [Own] at ow2
  obtain ⟨l, dx, vs, B, rfl, _, ⟨hln, hk⟩, hH, hB⟩ := ow2
  have hl := hB.length
  have hj := fIdx_lt e4
  have hjv : vs[j]? = some (vs[j]'(by omega)) := List.getElem?_eq_getElem (by omega)
  have hC := hk.one k1
  have hz : (ns.zip vs).map (·.2) = vs := List.map_snd_zip (by omega)
  exact ⟨l, dx.1, dx.2, _, _, rfl, hH, by rw [hC]; exact k2, by rw [hC]; exact k3 _ hm, fIdx_look e4 hjv, q _ H1 s1 ((va.same s1).snoc ⟨l, _, rfl, .inr (.inr ⟨_, _, _, hH, by rw [hz]; exact hjv⟩), rfl⟩)⟩
end

/-! ### a change at a path -/
section
variable {K : PySem.W.Frag} {P : Addr → Prop} {M : List Nat} {σ : L2.St} {ρ : En} {H : Hp} {As : Nat → List Addr} {i : Nat} {d c : D} {p : List Nat}
/-- what is owned in a container has an address of its own -/
theorem Own.cont {v : V} {A : List Addr} (h : Own K P H c v A) (hc : c.flat = false) : ∃ l B o, v = .ref l ∧ A = l :: B ∧ H l = some o ∧ NT o ∧ Mut (some o) := by
  cases c <;> first | cases hc | skip
  all_goals (simp only [Own] at h)
  · obtain ⟨a, vs, B, rfl, rfl, _, hH, _⟩ := h
    exact ⟨a, B, _, rfl, rfl, hH, trivial, trivial⟩
  · obtain ⟨a, vs, B, rfl, rfl, _, _, hH, _⟩ := h
    exact ⟨a, B, _, rfl, rfl, hH, trivial, trivial⟩
  · obtain ⟨a, dx, vs, B, rfl, rfl, _, hH, _⟩ := h
    exact ⟨a, B, _, rfl, rfl, hH, trivial, trivial⟩
theorem StOk.chg [Tabs] (s : StOk K P M σ ρ H As) (hM : i ∈ M) (e1 : dV i ρ = some d) (e3 : d.at p = some c) (hc : c.flat = false) :
    ∃ v l B, σ[i]? = some (some v) ∧ Own K (fun a => P a ∧ ¬ Ow M As a) H d v (As i) ∧ VAt H v p (.ref l) ∧ Own K (fun a => (P a ∧ ¬ Ow M As a) ∧ H a ≠ none) H c (.ref l) (l :: B) ∧ (l :: B).Nodup ∧ (∀ a ∈ B, H a ≠ none) ∧
      ∀ (H' : Hp) (A : List Addr) (o' : HO) (c' : D), SameT H H' → (∀ a ∈ A, H a = none) →
        ((∀ (xs : List D) (us : List V) (Z : List Addr), (∀ a ∈ Z, a ∈ B) → Owns K (fun a => (P a ∧ ¬ Ow M As a) ∧ H a ≠ none) H xs us Z → Owns K (fun a => (P a ∧ ¬ Ow M As a) ∧ a ∉ A) (upd H' l o') xs us Z) →
          (∀ (x : D) (u : V) (Z : List Addr), (∀ a ∈ Z, a ∈ A) → Own K (fun a => (P a ∧ ¬ Ow M As a) ∧ a ∉ A) H' x u Z → Own K (fun a => (P a ∧ ¬ Ow M As a) ∧ a ∉ A) (upd H' l o') x u Z) →
          (∀ (xs : List D) (us : List V), Reps K (fun a => (P a ∧ ¬ Ow M As a) ∧ a ∉ A) H' xs us → Reps K (fun a => (P a ∧ ¬ Ow M As a) ∧ a ∉ A) (upd H' l o') xs us) →
          ∃ B', B'.Nodup ∧ (∀ a ∈ B', a ∈ B ∨ a ∈ A) ∧ Own K (fun a => (P a ∧ ¬ Ow M As a) ∧ a ∉ A) (upd H' l o') c' (.ref l) (l :: B')) →
        ∃ d' As', d.put p c' = some d' ∧ StOk K P M σ (ρ.set i (some d')) (upd H' l o') As' ∧ Step M H As (upd H' l o') As' := by
  obtain ⟨v, g1, g2⟩ := s.ow i hM _ (dV_at e1)
  obtain ⟨A1, C, A2, w0, pm, ow, va0, k2⟩ := Own.at p g2.dom e3
  obtain ⟨l, B, ol, rfl, rfl, hH, hnt, hmu⟩ := ow.cont hc
  have inA : ∀ a, a ∈ As i ↔ a ∈ A1 ∨ a = l ∨ a ∈ B ∨ a ∈ A2 := fun a => by rw [pm.mem_iff]; simp
  have ndA : (A1 ++ ((l :: B) ++ A2)).Nodup := pm.nodup_iff.mp (s.nd i hM)
  have ndA' := List.nodup_append.mp ndA
  have ndC := List.nodup_append.mp ndA'.2.1
  have lA1 : l ∉ A1 := fun q => ndA'.2.2 l q l (by simp) rfl
  have lA2 : l ∉ A2 := fun q => ndC.2.2 l (by simp) l q rfl
  have lB : l ∉ B := (List.nodup_cons.mp ndC.1).1
  have hAs : ∀ a ∈ As i, H a ≠ none := fun a ha => mut_some (s.mut ⟨i, hM, ha⟩)
  refine ⟨v, l, B, g1, g2, va0, ow, ndC.1, fun a ha => hAs a ((inA a).mpr (.inr (.inr (.inl ha)))), fun H' A o' c' kk z new => ?_⟩
  have hH' : H' l = some ol := kk.k _ _ hH hnt
  have hlA : l ∉ A := fun q => by rw [z l q] at hH; cases hH
  have up : ∀ a o, a ≠ l → H' a = some o → (upd H' l o') a = some o := fun a o h1 h2 => by rw [upd_ne h1]; exact h2
  have offl : ∀ a, (P a ∧ ¬ Ow M As a) → a ≠ l := fun a h1 q => h1.2 ⟨i, hM, (inA a).mpr (.inr (.inl q))⟩
  have tr0 : Tr (fun a => (P a ∧ ¬ Ow M As a) ∧ H a ≠ none) (fun a => (P a ∧ ¬ Ow M As a) ∧ a ∉ A) H (upd H' l o') := by
    refine ⟨fun a h => ⟨h.1, fun q => h.2 (z a q)⟩, fun a o h n q => up a o (fun w => ?_) (kk.k _ _ h n)⟩
    rcases q with q | q
    · exact offl a q.1 w
    · rw [w, hH] at h; cases h; exact q hmu
  have tr2 : Tr (fun a => (P a ∧ ¬ Ow M As a) ∧ a ∉ A) (fun a => (P a ∧ ¬ Ow M As a) ∧ a ∉ A) H' (upd H' l o') := by
    refine ⟨fun a h => h, fun a o h n q => up a o (fun w => ?_) h⟩
    rcases q with q | q
    · exact offl a q.1 w
    · rw [w, hH'] at h; cases h; exact q hmu
  obtain ⟨B', nB', sB', newL⟩ := new (fun xs us Z hZ h => h.tr tr0 fun a ha o h n => up a o (fun q => lB (q ▸ hZ a ha)) (kk.k _ _ h n)) (fun x u Z hZ h => h.tr tr2 fun a ha o h n => up a o (fun q => hlA (q ▸ hZ a ha)) h) (fun xs us h => h.tr tr2)
  have off : ∀ a, (P a ∧ ¬ Ow M As a) → a ∉ A → ¬ Ow M (asSet As i (A1 ++ ((l :: B') ++ A2))) a := fun a h1 h2 => not_ow_set h1.2 fun q => by
    simp only [List.mem_append, List.mem_cons] at q
    rcases q with q | (q | q) | q
    · exact h1.2 ⟨i, hM, (inA a).mpr (.inl q)⟩
    · exact offl a h1 q
    · rcases sB' a q with q | q
      · exact h1.2 ⟨i, hM, (inA a).mpr (.inr (.inr (.inl q)))⟩
      · exact h2 q
    · exact h1.2 ⟨i, hM, (inA a).mpr (.inr (.inr (.inr q)))⟩
  have tr : Tr (fun a => (P a ∧ ¬ Ow M As a) ∧ H a ≠ none) (fun a => P a ∧ ¬ Ow M (asSet As i (A1 ++ ((l :: B') ++ A2))) a) H (upd H' l o') := by
    refine ⟨fun a h => ⟨h.1.1, off a h.1 fun q => h.2 (z a q)⟩, fun a o h n q => up a o (fun w => ?_) (kk.k _ _ h n)⟩
    rcases q with q | q
    · exact offl a q.1 w
    · rw [w, hH] at h; cases h; exact q hmu
  obtain ⟨d2, e6, A', pm', own'⟩ := k2 _ (upd H' l o') c' (l :: B') tr (fun a ha o h n => up a o (fun q => by
    rcases List.mem_append.mp ha with w | w
    · exact lA1 (q ▸ w)
    · exact lA2 (q ▸ w)) (kk.k _ _ h n)) (newL.mono fun a h => ⟨h.1.1, off a h.1 h.2⟩)
  have hB'A : ∀ a, a ∈ B' → a ∉ A1 ∧ a ≠ l ∧ a ∉ A2 := fun a ha => by
    rcases sB' a ha with q | q
    · refine ⟨fun w => ndA'.2.2 a w a (by simp [q]) rfl, fun w => lB (w ▸ q), fun w => ndC.2.2 a (by simp [q]) a w rfl⟩
    · have hz := z a q
      exact ⟨fun w => hAs a ((inA a).mpr (.inl w)) hz, fun w => hAs a ((inA a).mpr (.inr (.inl w))) hz, fun w => hAs a ((inA a).mpr (.inr (.inr (.inr w)))) hz⟩
  have nd' : (A1 ++ ((l :: B') ++ A2)).Nodup := by
    refine List.nodup_append.mpr ⟨ndA'.1, List.nodup_append.mpr ⟨List.nodup_cons.mpr ⟨fun q => (hB'A l q).2.1 rfl, nB'⟩, ndC.2.1, fun a ha b hb q => ?_⟩, fun a ha b hb q => ?_⟩
    · subst q
      rcases List.mem_cons.mp ha with w | w
      · exact lA2 (w ▸ hb)
      · exact (hB'A a w).2.2 hb
    · subst q
      rcases List.mem_append.mp hb with w | w
      · rcases List.mem_cons.mp w with w | w
        · exact lA1 (w ▸ ha)
        · exact (hB'A a w).1 ha
      · exact ndA'.2.2 a ha a (by simp [w]) rfl
  obtain ⟨s', t⟩ := s.putT (A := A') (H2 := upd H' l o') (d := d2) (v := v) hM (fun a o h n q => up a o (fun w => q ((inA a).mpr (.inr (.inl w)))) (kk.k _ _ h n)) (fun b q e => by
      obtain ⟨q', e', t⟩ := kk.tb b q e
      have hbl : b ≠ l := fun z => by
        rw [z, hH] at e
        cases e
        exact hmu
      exact ⟨q', by rw [upd_ne hbl]; exact e', t⟩) (fun a h q => by
    by_cases w : a = l
    · rw [w, upd_same] at q; cases q
    · rw [upd_ne w] at q; exact h (kk.free q)) (own'.mono fun a h => ⟨h.1, fun q => h.2 (ow_perm (fun b hb => pm'.mem_iff.mp hb) q)⟩) (pm'.nodup_iff.mpr nd') fun a ha => by
      have := pm'.mem_iff.mp ha
      simp only [List.mem_append, List.mem_cons] at this
      rcases this with q | (q | q) | q
      · exact .inl ((inA a).mpr (.inl q))
      · exact .inl ((inA a).mpr (.inr (.inl q)))
      · rcases sB' a q with q | q
        · exact .inl ((inA a).mpr (.inr (.inr (.inl q))))
        · exact .inr (z a q)
      · exact .inl ((inA a).mpr (.inr (.inr (.inr q))))
  rw [set_self g1] at s'
  exact ⟨d2, _, e6, s', t⟩
end
end DL

/-! Stores at a path: o[k] = e, o.f = e; o.remove(e). -/
namespace DL
open PySem PySem.Spec PyProof.Rows L2
section
variable {K : PySem.W.Frag} {P : Addr → Prop} {H : Hp}
/-- another value at place j -/
theorem Owns.setV {y : D} {w : V} {C : List Addr} (k : Own K P H y w C) : ∀ {xs : List D} {vs : List V} {B : List Addr} {j : Nat}, Owns K P H xs vs B → j < xs.length → ∃ B1 B0 B2, B = B1 ++ (B0 ++ B2) ∧ Owns K P H (xs.set j y) (vs.set j w) (B1 ++ (C ++ B2))
  | [], _, _, _, _, h => by simp at h
  | x :: xs, vs, B, 0, h, _ => by
    simp only [Owns] at h
    obtain ⟨v, r, B0, C0, rfl, rfl, h1, h2⟩ := h
    refine ⟨[], B0, C0, rfl, ?_⟩
    simp only [List.set_cons_zero, Owns, List.nil_append]
    exact ⟨w, r, C, C0, rfl, rfl, k, h2⟩
  | x :: xs, vs, B, j + 1, h, hl => by
    simp only [Owns] at h
    obtain ⟨v, r, B0, C0, rfl, rfl, h1, h2⟩ := h
    obtain ⟨B1, Bm, B2, rfl, e2⟩ := Owns.setV k h2 (by simpa using hl)
    refine ⟨B0 ++ B1, Bm, B2, by rw [List.append_assoc], ?_⟩
    simp only [List.set_cons_succ, Owns]
    exact ⟨v, r.set j w, B0, B1 ++ (C ++ B2), rfl, by rw [List.append_assoc], h1, e2⟩
/-- the item at place j is gone -/
theorem Owns.del : ∀ {xs : List D} {vs : List V} {B : List Addr} (j : Nat), Owns K P H xs vs B → ∃ B', (∀ a ∈ B', a ∈ B) ∧ (B.Nodup → B'.Nodup) ∧ Owns K P H (xs.eraseIdx j) (vs.eraseIdx j) B'
  | [], vs, B, j, h => by
    simp only [Owns] at h
    obtain ⟨rfl, rfl⟩ := h
    exact ⟨[], fun _ z => z, fun z => z, by simp [Owns]⟩
  | x :: xs, vs, B, 0, h => by
    simp only [Owns] at h
    obtain ⟨v, r, B0, C0, rfl, rfl, h1, h2⟩ := h
    exact ⟨C0, fun a ha => List.mem_append_right _ ha, fun z => (List.nodup_append.mp z).2.1, by simpa using h2⟩
  | x :: xs, vs, B, j + 1, h => by
    simp only [Owns] at h
    obtain ⟨v, r, B0, C0, rfl, rfl, h1, h2⟩ := h
    obtain ⟨B', q1, q2, q3⟩ := Owns.del j h2
    refine ⟨B0 ++ B', fun a ha => ?_, fun z => ?_, ?_⟩
    · rcases List.mem_append.mp ha with w | w
      · exact List.mem_append_left _ w
      · exact List.mem_append_right _ (q1 a w)
    · obtain ⟨z1, z2, z3⟩ := List.nodup_append.mp z
      exact List.nodup_append.mpr ⟨z1, q2 z2, fun a ha b hb => z3 a ha b (q1 b hb)⟩
    · simp only [List.eraseIdx_cons_succ, Owns]
      exact ⟨v, r.eraseIdx j, B0, B', rfl, rfl, h1, q3⟩
theorem Owns.cover {xs : List D} {vs : List V} {B B1 B0 B2 C : List Addr} (e : B = B1 ++ (B0 ++ B2)) : ∀ a ∈ B1 ++ (C ++ B2), a ∈ B ∨ a ∈ C := fun a ha => by
  rw [e]
  rcases List.mem_append.mp ha with z | z
  · exact .inl (by simp [z])
  · rcases List.mem_append.mp z with z | z
    · exact .inr z
    · exact .inl (by simp [z])
theorem nd_swap {B B1 B0 B2 C : List Addr} (e : B = B1 ++ (B0 ++ B2)) (n : B.Nodup) (nC : C.Nodup) (dj : ∀ a ∈ B, a ∉ C) : (B1 ++ (C ++ B2)).Nodup := by
  subst e
  obtain ⟨n1, n2, n3⟩ := List.nodup_append.mp n
  obtain ⟨n4, n5, n6⟩ := List.nodup_append.mp n2
  refine List.nodup_append.mpr ⟨n1, List.nodup_append.mpr ⟨nC, n5, fun a ha b hb q => dj b (by simp [hb]) (q ▸ ha)⟩, fun a ha b hb q => ?_⟩
  rcases List.mem_append.mp hb with w | w
  · exact dj a (by simp [ha]) (q ▸ w)
  · exact n3 a ha b (by simp [w]) q
end
def D.setIt : D → D → D → Option D
  | .lst xs, .int n, y => (ixN xs.length n).map fun j => .lst (xs.set j y)
  | .dct ks xs, k, y => k.key.bind fun q => if ks.length < 16777216 then some (.dct (dPutK ks q) (dPutX ks xs q y)) else none
  | _, _, _ => none
def sPSet (i : Nat) (pth : Ep) (fk fv : Ev) : Fs := fun ρ => (fv ρ).bind fun y => (dV i ρ).bind fun d => (pth ρ).bind fun p => (d.at p).bind fun c => (fk ρ).bind fun k => (c.setIt k y).bind fun c' => (d.put p c').map fun d' => .nx (ρ.set i (some d'))
theorem sPSet_some {i : Nat} {pth : Ep} {fk fv : Ev} {ρ : En} {o : Out} (h : sPSet i pth fk fv ρ = some o) : ∃ y d p c k c' d', fv ρ = some y ∧ dV i ρ = some d ∧ pth ρ = some p ∧ d.at p = some c ∧ fk ρ = some k ∧ c.setIt k y = some c' ∧ d.put p c' = some d' ∧ o = .nx (ρ.set i (some d')) := by
  unfold sPSet at h
  simp only [Option.bind_eq_some_iff, Option.map_eq_some_iff] at h
  obtain ⟨y, e1, d, e2, p, e3, c, e4, k, e5, c', e6, d', e7, e8⟩ := h
  exact ⟨y, d, p, c, k, c', d', e1, e2, e3, e4, e5, e6, e7, e8.symm⟩
/-- o.f = e at a path -/
def D.setF (C f : Str) : D → D → Option D
  | .obj C' ns xs, y => if C' = C ∧ ns.length < 1000 then some (.obj C' (fPutN ns f) (fPutX ns xs f y)) else none
  | _, _ => none
def sPFld (i : Nat) (C fl : Str) (pth : Ep) (fv : Ev) : Fs := fun ρ => (fv ρ).bind fun y => (dV i ρ).bind fun d => (pth ρ).bind fun p => (d.at p).bind fun c => (D.setF C fl c y).bind fun c' => (d.put p c').map fun d' => .nx (ρ.set i (some d'))
theorem sPFld_some {i : Nat} {C fl : Str} {pth : Ep} {fv : Ev} {ρ : En} {o : Out} (h : sPFld i C fl pth fv ρ = some o) : ∃ y d p c c' d', fv ρ = some y ∧ dV i ρ = some d ∧ pth ρ = some p ∧ d.at p = some c ∧ D.setF C fl c y = some c' ∧ d.put p c' = some d' ∧ o = .nx (ρ.set i (some d')) := by
  unfold sPFld at h
  simp only [Option.bind_eq_some_iff, Option.map_eq_some_iff] at h
  obtain ⟨y, e1, d, e2, p, e3, c, e4, c', e6, d', e7, e8⟩ := h
  exact ⟨y, d, p, c, c', d', e1, e2, e3, e4, e6, e7, e8.symm⟩
section
variable {X : Cx} {e a b o oe : Expr} {U U' : List Nat} {f fk fv : Ev} {M L : List Nat} {i : Nat} {pth : Ep} {pos cpos apos pos' : Pos} {C fl : Str}
/-- the slot's path, read behind what changes nothing -/
theorem tX_at [Tabs] {K : PySem.W.Frag} {P : Addr → Prop} {σ : L2.St} {ρ : En} {H H1 : Hp} {As : Nat → List Addr} {d c : D} {v : V} {p : List Nat} {l : Addr} {Q : VK} (s : StOk K P M σ ρ H As) (g1 : σ[i]? = some (some v)) (e1 : dV i ρ = some d) (ow : Own K (fun a => P a ∧ ¬ Ow M As a) H d v (As i)) (ep : pth ρ = some p) (ec : d.at p = some c) (va : VAt H v p (.ref l)) (k : SameT H H1)
    (q : ∀ H', SameT H1 H' → Q (.ref l) H') : tX K i pth σ H1 Q :=
  ⟨ρ, _, _, v, d, As i, p, c, Ctx.top (Ctx.same s.any k), g1, dV_at e1, ow.same k, ep, ec, fun w H' s1 va1 => by
    have : w = .ref l := va1.one ((va.same k).same s1)
    rw [this]
    exact q H' s1⟩
theorem ds_pset [Tabs] (hu : X.A.units + 1 < cLine) (ho : PE X o (tX X.K i pth)) (hk : PE X b (tD X.K U' fk)) (hv : PE X a (tF X.K U fv)) (hM : i ∈ M := by decide) (hU : ∀ j ∈ U, j ∉ M := by decide)
    (hs : swapsWithSole [.Subscript o b pos'] a pos.line X.env = pure false := by rfl) (hw : swappedStores [.Subscript o b pos'] a X.env = pure none := by rfl) (h1 : (assignEach [.Subscript o b pos'] X.env).map (·.2) = [assign (.Subscript o b pos') X.env] := by rfl)
    (ha : ∀ v, assign (.Subscript o b pos') X.env v = (do
      let ov ← holding [v] (eval o X.env)
      let iv ← holding [v, ov] (eval b X.env)
      standAt pos'
      holding [v, ov, iv] (setItem ov iv v)
      release [v, ov, iv] []) := by intro _; rfl)
    (hs2 : swapsWith a (some (.Subscript o b pos')) pos.line X.env = pure false := by rfl) :
    PS X (.Assign [.Subscript o b pos'] a pos) (tS X.K M L (sPSet i pth fk fv)) := ds_of fun ρ oo h => by
  obtain ⟨y, d, p, c, k, c', d', e1, e2, e3, e4, e5, e6, e7, rfl⟩ := sPSet_some h
  cases c with
  | lst xs =>
    cases k <;> simp only [D.setIt] at e6 <;> first | cases e6 | skip
    rename_i n
    cases hj : ixN xs.length n with
    | none => rw [hj] at e6; cases e6
    | some j =>
      rw [hj] at e6
      cases e6
      refine ⟨_, ps_asg hv (pg_sub ho hk set_list ha) hs hw h1, fun E σ H P As s pp => ?_⟩
      obtain ⟨v, l, B, g1, g2, va, ow, ndB, domB, chg⟩ := s.chg hM e2 e4 rfl
      refine ⟨ρ, _, _, y, s.ctx hU, e1, fun w H1 A k1 oA nA zA => ?_⟩
      refine tX_at s g1 e2 g2 e3 e4 va k1 fun H2 k2 => one (Ctx.same (s.any) (k1.trans k2)) e5 fun kv H' k3 rk => ?_
      have kk := (k1.trans k2).trans k3
      simp only [Rep] at rk
      subst rk
      simp only [Own] at ow
      obtain ⟨l', vs, B', e0, e0', hlen, hH, hB⟩ := ow
      cases e0; cases e0'
      have hvl := hB.length
      obtain ⟨_, hjl, _, _⟩ := ixN_seq hj
      have hBA : ∀ a ∈ B, a ∉ A := fun a ha w => domB a ha (zA a w)
      obtain ⟨d2, As', e8, s', t⟩ := chg H' A (.lst (vs.set j w)) (.lst (xs.set j y)) kk zA fun t1 t2 t3 => by
        have h1 := t1 xs vs B (fun _ z => z) hB
        have h2 := t2 y w A (fun _ z => z) (oA.tr ⟨fun a h => h, fun a o h n _ => (k2.trans k3).k _ _ h n⟩ fun a ha o h n => (k2.trans k3).k _ _ h n)
        obtain ⟨C1, C0, C2, eC, r⟩ := Owns.setV h2 h1 hjl
        refine ⟨_, nd_swap eC (List.nodup_cons.mp ndB).2 nA hBA, Owns.cover (xs := xs) (vs := vs) eC, ?_⟩
        simp only [Own]
        exact ⟨l, vs.set j w, _, rfl, rfl, by rw [List.length_set]; exact hlen, upd_same, r⟩
      rw [e7] at e8
      cases e8
      refine ⟨l, vs, n, j, rfl, rfl, kk.k _ _ hH trivial, by rw [hvl]; exact hj, ?_⟩
      exact pp σ _ _ s' t fun _ _ => rfl
  | dct ks xs =>
    simp only [D.setIt] at e6
    cases hq : k.key with
    | none => rw [hq] at e6; cases e6
    | some q =>
      rw [hq] at e6
      simp only [Option.bind_some] at e6
      by_cases hl : ks.length < 16777216
      case neg => rw [if_neg hl] at e6; cases e6
      rw [if_pos hl] at e6
      cases e6
      refine ⟨_, ps_dput hu ho hk hv hs2, fun E σ H P As s pp => ?_⟩
      obtain ⟨v, l, B, g1, g2, va, ow, ndB, domB, chg⟩ := s.chg hM e2 e4 rfl
      refine ⟨ρ, _, _, y, s.ctx hU, e1, fun w H1 A k1 oA nA zA => ?_⟩
      refine tX_at s g1 e2 g2 e3 e4 va k1 fun H2 k2 => one (Ctx.same (s.any) (k1.trans k2)) e5 fun kv H' k3 rk => ?_
      have kk := (k1.trans k2).trans k3
      simp only [Own] at ow
      obtain ⟨l', vs, B', e0, e0', hlen, ⟨hkl, hkn⟩, hH, hB⟩ := ow
      cases e0; cases e0'
      have hH' : H' l = some (.dK (ks.zip vs)) := kk.k _ _ hH trivial
      have hvl : ks.length = vs.length := by rw [hB.length]; exact hkl
      have hBA : ∀ a ∈ B, a ∉ A := fun a ha w => domB a ha (zA a w)
      obtain ⟨d2, As', e8, s', t⟩ := chg H' A (.dK ((dPutK ks q).zip (dPutX ks vs q w))) (.dct (dPutK ks q) (dPutX ks xs q y)) kk zA fun t1 t2 t3 => by
        have h1 := t1 xs vs B (fun _ z => z) hB
        have h2 := t2 y w A (fun _ z => z) (oA.tr ⟨fun a h => h, fun a o h n _ => (k2.trans k3).k _ _ h n⟩ fun a ha o h n => (k2.trans k3).k _ _ h n)
        obtain ⟨B', r1, r2, r3⟩ := Owns.putX (q := q) h2 hkl h1
        refine ⟨B', r3 (List.nodup_cons.mp ndB).2 nA hBA, r2, ?_⟩
        simp only [Own]
        refine ⟨l, _, B', rfl, rfl, ?_, ⟨dPut_len hkl, dPutK_nd hkn⟩, upd_same, r1⟩
        unfold dPutK
        rw [sizeLine_lit]
        split
        · omega
        · rw [List.length_append]; simp; omega
      rw [e7] at e8
      cases e8
      refine ⟨l, upd H' l (.dK ((dPutK ks q).zip (dPutX ks vs q w))), rfl, ?_, ?_⟩
      · rw [key_rep hq rk, ← putK_zip ks vs q w hvl hkn]
        exact DPut.k hH' (by rw [List.length_zip, ← hvl, Nat.min_self, sizeLine_lit]; exact hl)
      · exact pp σ _ _ s' t fun _ _ => rfl
  | _ => cases k <;> simp only [D.setIt] at e6 <;> cases e6
/-- o.f = e -/
theorem ds_pfld [Tabs] {fs : List Str} (hc : ClsOk X.K C fs) (ho : PE X o (tX X.K i pth)) (hv : PE X a (tF X.K U fv)) (hm : fl ∈ fs := by decide) (hM : i ∈ M := by decide) (hU : ∀ j ∈ U, j ∉ M := by decide) (hs : swapsWith a (some (.Attribute o fl pos')) pos.line X.env = pure false := by rfl) :
    PS X (.Assign [.Attribute o fl pos'] a pos) (tS X.K M L (sPFld i C fl pth fv)) := ds_of fun ρ oo h => by
  obtain ⟨y, d, p, c, c', d', e1, e2, e3, e4, e6, e7, rfl⟩ := sPFld_some h
  cases c <;> simp only [D.setF] at e6 <;> first | cases e6 | skip
  rename_i C' ns xs
  by_cases hq : C' = C ∧ ns.length < 1000
  case neg => rw [if_neg hq] at e6; cases e6
  rw [if_pos hq] at e6
  obtain ⟨rfl, hq⟩ := hq
  cases e6
  obtain ⟨ca, c1, c2, c3⟩ := hc.ex
  refine ⟨_, ps_fld ho hv hs, fun E σ H P As s pp => ?_⟩
  obtain ⟨v, l, B, g1, g2, va, ow, ndB, domB, chg⟩ := s.chg hM e2 e4 rfl
  refine ⟨ρ, _, _, y, s.ctx hU, e1, fun w H1 A k1 oA nA zA => ?_⟩
  refine tX_at s g1 e2 g2 e3 e4 va k1 fun H' k2 => ?_
  have kk := k1.trans k2
  simp only [Own] at ow
  obtain ⟨l', dx, vs, B', e0, e0', ⟨hkl, hk⟩, hH, hB⟩ := ow
  cases e0; cases e0'
  have hvl := hB.length
  have hBA : ∀ a ∈ B, a ∉ A := fun a ha w => domB a ha (zA a w)
  have hC := hk.one c1
  obtain ⟨d2, As', e8, s', t⟩ := chg H' A (.ins dx.1 dx.2 ((fPutN ns fl).zip (fPutX ns vs fl w))) (.obj C' (fPutN ns fl) (fPutX ns xs fl y)) kk zA fun t1 t2 t3 => by
    have h1 := t1 xs vs B (fun _ z => z) hB
    have h2 := t2 y w A (fun _ z => z) (oA.tr ⟨fun a h => h, fun a o h n _ => k2.k _ _ h n⟩ fun a ha o h n => k2.k _ _ h n)
    have fin : ∀ B', Owns X.K (fun a => (P a ∧ ¬ Ow M As a) ∧ a ∉ A) (upd H' l (.ins dx.1 dx.2 ((fPutN ns fl).zip (fPutX ns vs fl w)))) (fPutX ns xs fl y) (fPutX ns vs fl w) B' → Own X.K (fun a => (P a ∧ ¬ Ow M As a) ∧ a ∉ A) (upd H' l (.ins dx.1 dx.2 ((fPutN ns fl).zip (fPutX ns vs fl w)))) (.obj C' (fPutN ns fl) (fPutX ns xs fl y)) (.ref l) (l :: B') := fun B' r => by
      simp only [Own]
      exact ⟨l, dx, _, B', rfl, rfl, ⟨fPut_len hkl, hk⟩, upd_same, r⟩
    cases hj : fIdx ns fl with
    | some j =>
      have hjl := fIdx_lt hj
      obtain ⟨C1, C0, C2, eC, r⟩ := Owns.setV h2 h1 (by omega : j < xs.length)
      refine ⟨_, nd_swap eC (List.nodup_cons.mp ndB).2 nA hBA, Owns.cover (xs := xs) (vs := vs) eC, fin _ ?_⟩
      have e1 : fPutX ns xs fl y = xs.set j y := by unfold fPutX; rw [hj]
      have e2 : fPutX ns vs fl w = vs.set j w := by unfold fPutX; rw [hj]
      rw [e1, e2]
      rw [e2] at r
      exact r
    | none =>
      refine ⟨B ++ A, List.nodup_append.mpr ⟨(List.nodup_cons.mp ndB).2, nA, fun a ha b hb q => hBA a ha (q ▸ hb)⟩, fun a ha => List.mem_append.mp ha, fin _ ?_⟩
      have e1 : fPutX ns xs fl y = xs ++ [y] := by unfold fPutX; rw [hj]
      have e2 : fPutX ns vs fl w = vs ++ [w] := by unfold fPutX; rw [hj]
      have r := Owns.snoc h2 h1
      rw [e1, e2]
      rw [e2] at r
      exact r
  rw [e7] at e8
  cases e8
  refine ⟨l, dx.1, dx.2, _, rfl, kk.k _ _ hH trivial, by rw [hC]; exact c2, by rw [hC]; exact c3 _ hm, by rw [List.length_zip]; omega, ?_⟩
  rw [putF_zip ns vs fl w (by omega)]
  exact pp σ _ _ s' t fun _ _ => rfl
end

/-! ### o.remove(e) -/
section
variable {X : Cx}
def rRemD (K : PySem.W.Frag) : V → List V → Hp → VK → Prop := fun x xs H Q => ∃ (l : Addr) (vs : List V) (y : V) (d : PyData) (ds : List PyData) (j : Nat), x = .ref l ∧ xs = [y] ∧ H l = some (.lst vs) ∧ DpAll K H vs ds ∧ Dp K H y d ∧
  SeqAt.shaped (.list ds) = true ∧ SeqAt.shaped d = true ∧ ds.findIdx? (fun z => PyData.eqv z d) = some j ∧ Q .non (upd H l (.lst (vs.eraseIdx j)))
theorem mt_removeD (hu : X.A.units + 65 < cLine) : MtM X "list.remove" (rRemD X.K) := by
  intro pins s σ H x xs v us Q I rx rxs h
  obtain ⟨l, vs, y, d, ds, j, rfl, rfl, hH, hvs, hy, sl, sd, hj, q⟩ := h
  cases rx
  obtain ⟨u, rfl, ru⟩ := rxs.one
  obtain ⟨z, its, n, r, hl, e⟩ := I.lstM hH
  obtain ⟨bs, r1⟩ := Dp.reads I d y u hy ru
  obtain ⟨as, h4⟩ := Dp.readsAll I ds _ its hvs r
  have hxs : PyData.canLayAll0 ds = true := SeqAt.canLay_of_shaped sl
  have hroom : X.A.units + 1 + min (PyData.depthAll ds) d.depth < cLine := room_in_shaped sd hu
  have hn : its.length = ds.length := SeqAt.ReadsAll.length ds its as h4
  have hmap : its.map (SeqAt.readOf s.heap) = ds := SeqAt.readsAll_map ds its as hxs h4
  obtain ⟨hjd, hjt, hjn⟩ := List.findIdx?_eq_some_iff_getElem.mp hj
  have hjl : j < its.length := by omega
  have hvl := r.length
  have at_ : ∀ (m : Nat) (hm : m < its.toArray.size) (hm2 : m < ds.length), SeqAt.readOf s.heap its.toArray[m] = ds[m] := by
    intro m hm hm2
    have hml : m < its.length := by simpa using hm
    have e1 : SeqAt.readOf s.heap its[m] = (its.map (SeqAt.readOf s.heap))[m]'(by simpa using hml) := by simp
    have e2 : (its.map (SeqAt.readOf s.heap))[m]'(by simpa using hml) = ds[m] := by simp only [hmap]
    simpa using e1.trans e2
  refine call_meets PySem.F.slot_list_remove ⟨_, e, rfl⟩ PySem.F.entry_list_remove (PySem.F.args_list_remove_2 _ _)
    (SeqAt.list_removeAt l its.toArray n none #[] u (fun w => PyData.eqv (SeqAt.readOf s.heap w) d) j (by simpa using hjl) ?_ ?_ (by rw [List.size_toArray]; omega)) ⟨e, SeqAt.items_eqAt (vs := its.toArray) (show ReadsAll s.heap its.toArray.toList ds as from h4) r1 hxs (SeqAt.canLay_of_shaped sd) hroom, ?_⟩
  · show PyData.eqv (SeqAt.readOf s.heap its.toArray[j]) d = true
    rw [at_ j (by simpa using hjl) hjd]
    exact hjt
  · intro m hm hmj
    show PyData.eqv (SeqAt.readOf s.heap its.toArray[m]) d = false
    rw [at_ m hm (by omega)]
    have := hjn m hmj
    simpa using this
  · refine ⟨.non, _, I.lset (its' := its.eraseIdx j) (t' := s.toks) hH e ?_ (r.eraseIdx j) ?_, rfl, q⟩
    · show its.toArray.eraseIdxIfInBounds j = (its.eraseIdx j).toArray
      rw [List.eraseIdxIfInBounds_toArray]
    · have z2 := len_erase vs j
      omega
end
/-- a list without the first item that is x -/
def D.rem : D → D → Option D
  | .lst xs, x => if x.shaped && (D.lst xs).shaped then (xs.findIdx? fun z => PyData.eqv z.py x.py).map fun j => .lst (xs.eraseIdx j) else none
  | _, _ => none
theorem pys_find (x : PyData) : ∀ ds : List D, (D.pys ds).findIdx? (fun z => PyData.eqv z x) = ds.findIdx? fun z => PyData.eqv z.py x
  | [] => rfl
  | d :: ds => by simp only [D.pys, List.findIdx?_cons, pys_find x ds]
def sPRem (i : Nat) (pth : Ep) (f : Ev) : Fs := fun ρ => (dV i ρ).bind fun d => (pth ρ).bind fun p => (d.at p).bind fun c => (f ρ).bind fun y => (c.rem y).bind fun c' => (d.put p c').map fun d' => .nx (ρ.set i (some d'))
theorem sPRem_some {i : Nat} {pth : Ep} {f : Ev} {ρ : En} {o : Out} (h : sPRem i pth f ρ = some o) : ∃ d p c y c' d', dV i ρ = some d ∧ pth ρ = some p ∧ d.at p = some c ∧ f ρ = some y ∧ c.rem y = some c' ∧ d.put p c' = some d' ∧ o = .nx (ρ.set i (some d')) := by
  unfold sPRem at h
  simp only [Option.bind_eq_some_iff, Option.map_eq_some_iff] at h
  obtain ⟨d, e2, p, e3, c, e4, y, e5, c', e6, d', e7, e8⟩ := h
  exact ⟨d, p, c, y, c', d', e2, e3, e4, e5, e6, e7, e8.symm⟩
theorem Reps_erase {K : PySem.W.Frag} {P : Addr → Prop} {H : Hp} : ∀ {ds : List D} {vs : List V} (j : Nat), Reps K P H ds vs → Reps K P H (ds.eraseIdx j) (vs.eraseIdx j)
  | [], vs, j, h => by simp only [Reps] at h; subst h; simp [Reps]
  | d :: ds, vs, 0, h => by
    simp only [Reps] at h
    obtain ⟨v, r, rfl, _, h2⟩ := h
    simpa using h2
  | d :: ds, vs, j + 1, h => by
    simp only [Reps] at h
    obtain ⟨v, r, rfl, h1, h2⟩ := h
    simp only [List.eraseIdx_cons_succ, Reps]
    exact ⟨v, _, rfl, h1, Reps_erase j h2⟩
section
variable {X : Cx} {e oe : Expr} {U : List Nat} {f : Ev} {M L : List Nat} {i : Nat} {pth : Ep} {pos cpos apos : Pos}
theorem ds_prem [Tabs] (he : PE X e (tD X.K U f)) (hM : i ∈ M := by decide)
    (hp : ∀ t, PA X [e] t → PE X (.Call (.Attribute oe "remove" apos) [e] [] cpos) (tBM X.K "list" (rRemD X.K) (tX X.K i pth) t)) (hse : starEach [e] X.env = (false, eval e X.env) :: starEach [] X.env := by rfl) (hs : swapsWith (.Call (.Attribute oe "remove" apos) [e] [] cpos) none pos.line X.env = pure false := by rfl) :
    PS X (.Expr (.Call (.Attribute oe "remove" apos) [e] [] cpos) pos) (tS X.K M L (sPRem i pth f)) := ds_of fun ρ o h => by
  obtain ⟨d, pp, c, y, c', d', e1, e2, e3, e4, e5, e6, rfl⟩ := sPRem_some h
  cases c <;> simp only [D.rem] at e5 <;> first | cases e5 | skip
  rename_i ds
  by_cases hsh : (y.shaped && (D.lst ds).shaped) = true
  case neg => rw [if_neg hsh] at e5; cases e5
  rw [if_pos hsh] at e5
  rw [Bool.and_eq_true] at hsh
  cases hj : ds.findIdx? fun z => PyData.eqv z.py y.py with
  | none => rw [hj] at e5; cases e5
  | some j =>
    rw [hj] at e5
    cases e5
    refine ⟨_, ps_expr (hp _ (pa_cons he pa_nil hse)) hs, fun E σ H P As s p => ?_⟩
    obtain ⟨v, l, B, g1, g2, va, ow, ndB, domB, chg⟩ := s.chg hM e1 e3 rfl
    simp only [Own] at ow
    obtain ⟨l', vs, B', e0, e0', hlen, hH, hB⟩ := ow
    cases e0; cases e0'
    refine tX_at s g1 e1 g2 e2 e3 va (.refl H) fun H1 s1 => ?_
    refine ⟨.inl ⟨rfl, vs, SqL.of (s1.k _ _ hH trivial)⟩, one (Ctx.same s.any s1) e4 fun wv H' k rk => ?_⟩
    have kk := s1.trans k
    have hH' : H' l = some (.lst vs) := kk.k _ _ hH trivial
    have hR : Rep X.K (fun _ => True) H' (.lst ds) (.ref l) := by
      simp only [Rep]
      exact ⟨l, vs, rfl, trivial, hlen, hH', (hB.same kk).rep (fun _ _ => trivial) fun _ _ => trivial⟩
    have hD := hR.dpS hsh.2
    obtain ⟨d2, As', e8, s', t⟩ := chg H' [] (.lst (vs.eraseIdx j)) (.lst (ds.eraseIdx j)) kk (fun _ z => nomatch z) fun t1 t2 t3 => by
      have h1 := t1 ds vs B (fun _ z => z) hB
      obtain ⟨B', q1, q2, q3⟩ := Owns.del j h1
      refine ⟨B', q2 (List.nodup_cons.mp ndB).2, fun a ha => .inl (q1 a ha), ?_⟩
      simp only [Own]
      refine ⟨l, vs.eraseIdx j, B', rfl, rfl, ?_, upd_same, q3⟩
      have := List.length_eraseIdx_le ds j
      omega
    rw [e6] at e8
    cases e8
    have hvs : DpAll X.K H' vs (D.pys ds) := by
      have hr : Reps X.K (fun _ => True) H' ds vs := (hB.same kk).rep (fun _ _ => trivial) fun _ _ => trivial
      refine Reps.dp ?_ hr
      have := SeqAt.canLay_of_shaped (show SeqAt.shaped (D.lst ds).py = true from hsh.2)
      simpa only [D.py, PyData.canLay0] using this
    have hj' : (D.pys ds).findIdx? (fun z => PyData.eqv z y.py) = some j := by rw [pys_find]; exact hj
    refine ⟨l, vs, wv, y.py, D.pys ds, j, rfl, rfl, hH', hvs, rk.dpS hsh.1, ?_, hsh.1, hj', p σ _ _ s' t fun _ _ => rfl⟩
    have := hsh.2
    unfold D.shaped at this
    simpa only [D.py] using this
end
end DL

/-! Defs that change one of their arguments; methods; instances made. -/
namespace DL
open PySem PySem.Spec PyProof.Rows L2
/-- what stands behind a call that changes what is owned at A -/
structure MPost (K : PySem.W.Frag) (P : Addr → Prop) (A : List Addr) (H : Hp) (v : V) (d' r : D) (w : V) (H' : Hp) (A' B : List Addr) : Prop where
  fr : ∀ a o, H a = some o → NT o → a ∉ A → H' a = some o
  tb : ∀ b q, H b = some (.tbl q) → ∃ q', H' b = some (.tbl q') ∧ (TriplesOk q.toList → TriplesOk q'.toList)
  dm : ∀ a, H a ≠ none → H' a ≠ none
  gA : ∀ a ∈ A', a ∈ A ∨ H a = none
  gB : ∀ a ∈ B, a ∈ A ∨ H a = none
  nA : A'.Nodup
  nB : B.Nodup
  dj : ∀ a ∈ B, a ∉ A'
  ow : Own K (fun a => (P a ∨ a ∈ A) ∧ a ∉ A' ∧ a ∉ B) H' d' v A'
  ob : Own K (fun a => (P a ∨ a ∈ A) ∧ a ∉ A' ∧ a ∉ B) H' r w B
def spM [Tabs] (K : PySem.W.Frag) (n p : Nat) (F : List D → Option (D × D)) : Sp := fun vs H Q _ => ∃ P ds v A d d' r, ds.length = n ∧ vs.length = n ∧ vs[p]? = some v ∧ ds[p]? = some d ∧ Own K P H d v A ∧
  (∀ (j : Nat) y, j ≠ p → ds[j]? = some y → ∃ u, vs[j]? = some u ∧ Rep K P H y u) ∧ A.Nodup ∧ (∀ a ∈ A, ¬ P a) ∧ (∀ a, H a = none → P a) ∧ F ds = some (d', r) ∧ (∀ p ∈ Tabs.T, TabOk H p) ∧ ∀ w H' A' B, MPost K P A H v d' r w H' A' B → Q w H'
theorem spM_len [Tabs] {K : PySem.W.Frag} {n p : Nat} {F : List D → Option (D × D)} : ∀ vs H Q E, spM K n p F vs H Q E → vs.length = n := fun vs H Q E ⟨P, ds, v, A, d, d', r, _, h, _⟩ => h
def callM (n m p : Nat) (F : Fs) (ds : List D) : Option (D × D) := if ds.length = n then match F (ds.map some ++ List.replicate m none) with
    | some (.rt r ρ') => (dV p ρ').map fun d => (d, r)
    | some (.nx ρ') => (dV p ρ').map fun d => (d, .non)
    | _ => none
  else none
theorem callM_len {n m p : Nat} {F : Fs} : ∀ ds d, callM n m p F ds = some d → ds.length = n := fun ds d h => by
  unfold callM at h
  by_cases q : ds.length = n
  · exact q
  · rw [if_neg q] at h; cases h
theorem asSet_self {As : Nat → List Addr} {i : Nat} {A : List Addr} : asSet As i A i = A := by unfold asSet; rw [if_pos rfl]
theorem asSet_ne {As : Nat → List Addr} {i j : Nat} {A : List Addr} (h : j ≠ i) : asSet As i A j = As j := by unfold asSet; rw [if_neg h]
theorem start_at {N : List Str} {vs : List V} {i : Nat} {v : V} (h : vs[i]? = some v) : (L2.start N vs)[i]? = some (some v) := by
  have hi := (List.getElem?_eq_some_iff.mp h).1
  unfold L2.start
  rw [List.getElem?_append_left (by simp; omega), List.getElem?_map, h]
  rfl
theorem start_okM [Tabs] {K : PySem.W.Frag} {P : Addr → Prop} {H : Hp} {ds : List D} {vs : List V} {N : List Str} {M : List Nat} {p : Nat} {A : List Addr} {d : D} {v : V} (hv : vs[p]? = some v) (hd : ds[p]? = some d) (hl : vs.length = ds.length) (ow : Own K P H d v A)
    (r : ∀ (j : Nat) y, j ≠ p → ds[j]? = some y → ∃ u, vs[j]? = some u ∧ Rep K P H y u) (nA : A.Nodup) (offA : ∀ a ∈ A, ¬ P a) (new : ∀ a, H a = none → P a) (tab : ∀ p ∈ Tabs.T, TabOk H p) (hN : ds.length ≤ N.length) (hp : p ∈ M) (hM : ∀ i ∈ M, i ≠ p → ds.length ≤ i ∧ i < N.length) :
    StOk K (fun a => P a ∨ a ∈ A) M (L2.start N vs) (ds.map some ++ List.replicate (N.length - ds.length) none) H (asSet (fun _ => []) p A) ∧ ∀ a, Ow M (asSet (fun _ => []) p A) a ↔ a ∈ A := by
  have hpl : p < ds.length := (List.getElem?_eq_some_iff.mp hd).1
  have ows : ∀ a, Ow M (asSet (fun _ => []) p A) a ↔ a ∈ A := fun a => by
    constructor
    · rintro ⟨j, hj, h⟩
      unfold asSet at h
      by_cases q : j = p
      · rw [if_pos q] at h; exact h
      · rw [if_neg q] at h; cases h
    · exact fun h => ⟨p, hp, by rw [asSet_self]; exact h⟩
  have out : ∀ (i : Nat) (d : D), (ds.map some ++ List.replicate (N.length - ds.length) none)[i]? = some (some d) → i < ds.length ∧ ds[i]? = some d := fun i d e => by
    by_cases q : i < ds.length
    · rw [List.getElem?_append_left (by simpa using q), List.getElem?_map] at e
      cases q2 : ds[i]? with
      | none => rw [q2] at e; cases e
      | some d' => rw [q2] at e; cases e; exact ⟨q, rfl⟩
    · rw [List.getElem?_append_right (by simpa using q), List.getElem?_replicate] at e
      split at e <;> cases e
  have m : ∀ a, P a → (P a ∨ a ∈ A) ∧ ¬ Ow M (asSet (fun _ => []) p A) a := fun a h => ⟨.inl h, fun z => offA a ((ows a).mp z) h⟩
  refine ⟨⟨by unfold L2.start; simp [hl], fun i y hi e => ?_, fun i hi y e => ?_, fun i hi e => ?_, fun i hi => ?_, fun i hi j hj hij a ha hb => ?_, fun a e => .inl (new a e), fun i hi => ?_, fun i hi a ha => ?_, tab⟩, ows⟩
  · obtain ⟨h1, e⟩ := out i y e
    obtain ⟨u, g1, g2⟩ := r i y (fun z => hi (z ▸ hp)) e
    exact ⟨u, start_at g1, g2.mono m⟩
  · obtain ⟨h1, e⟩ := out i y e
    by_cases q : i = p
    · subst q
      rw [hd] at e
      cases e
      refine ⟨v, start_at hv, ?_⟩
      rw [asSet_self]
      exact ow.mono m
    · have := (hM i hi q).1
      omega
  · by_cases q : i = p
    · subst q
      have e0 : (ds.map some ++ List.replicate (N.length - ds.length) none)[i]? = some (some d) := by
        rw [List.getElem?_append_left (by simpa using hpl), List.getElem?_map, hd]; rfl
      unfold dV at e
      rw [e0] at e
      cases e
    · rw [asSet_ne q]
  · by_cases q : i = p
    · rw [q, asSet_self]; exact nA
    · rw [asSet_ne q]; exact List.nodup_nil
  · by_cases q : i = p
    · have q2 : j ≠ p := fun z => hij (q.trans z.symm)
      rw [asSet_ne q2] at hb; cases hb
    · rw [asSet_ne q] at ha; cases ha
  · by_cases q : i = p
    · simp; omega
    · have := hM i hi q
      simp; omega
  · exact .inr ((ows a).mp ⟨i, hi, ha⟩)
section
variable {P : Program} {w : World} {K : PySem.W.Frag} {mg : Str → Option Value} {base : Heap}
/-- THE RULE for a def that changes its argument at place p -/
theorem fn_okM [Tabs] {x qual : Str} {st : Stmt} {f : Addr} {fd : FuncData} {N ps : List Str} {k n m : Nat} {M : List Nat} {F : Fs} (p : Nat) (Fu : Fun K x qual st f fd) (S : FnScope N ps (defScope st))
    (hb : ∀ (cdv : Value) (A : Around) (outer : List Env) (s : Shared) (H : Hp) (E : XK), Room k (A.deeper (envOfC qual (defScope st) s.heap.objs.size f cdv)) → PSs (cxOf CX0 P w K mg base N qual (defScope st) f cdv A outer s H E).nox (defBody st) (tS K M [p] F))
    (hn : ps.length = n := by rfl) (hm : N.length - n = m := by rfl) (hNl : n ≤ N.length := by decide) (hp : p ∈ M := by decide) (hM : ∀ i ∈ M, i ≠ p → n ≤ i ∧ i < N.length := by decide) : FnOk P w K mg base CX0 (k + 1) f fd ps (spM K n p (callM n m p F)) := by
  subst hn
  refine Fu.ok S spM_len fun cdv A outer s H vs Q E hr h => ⟨_, hb cdv A outer s H E hr, ?_⟩
  obtain ⟨P0, ds, v, A0, d, d', r, hl, hvl, hv, hd, ow, rr, nA, offA, new, e, tab, q⟩ := h
  unfold callM at e
  rw [if_pos hl] at e
  obtain ⟨s0, ows⟩ := start_okM (N := N) (M := M) hv hd (by omega) ow rr nA offA new tab (by rw [hl]; exact hNl) hp (fun i hi hip => by rw [hl]; exact hM i hi hip)
  cases z : F (ds.map some ++ List.replicate m none) with
  | none => rw [z] at e; cases e
  | some o =>
    rw [z] at e
    refine ⟨_, _, _, o, s0, by rw [hl, hm]; exact z, ?_⟩
    have stp : ∀ {H' As'}, Step M H (asSet (fun _ => []) p A0) H' As' → (∀ a o, H a = some o → NT o → a ∉ A0 → H' a = some o) := fun t a o h n z => t.fr a o h n fun w => z ((ows a).mp w)
    have stv : (L2.start N vs)[p]? = some (some v) := start_at hv
    cases o with
    | rt d1 ρ' =>
      simp only at e
      cases e2 : dV p ρ' with
      | none => rw [e2] at e; cases e
      | some dp =>
        rw [e2] at e
        cases e
        intro w1 σ' H' As' B s' o' n1 n2 t n3 fx
        obtain ⟨v', g1, g2⟩ := s'.ow p hp _ (dV_at e2)
        have hvv : v' = v := by
          have h1 := fx p (by simp)
          rw [g1, stv] at h1
          cases h1; rfl
        subst hvv
        refine q w1 H' (As' p) B ⟨stp t, t.tb, t.dm, fun a ha => ((t.gr a ⟨p, hp, ha⟩).imp_left (ows a).mp), fun a ha => (n3 a ha).imp_left (ows a).mp, s'.nd p hp, n1, fun a ha z => n2 a ha ⟨p, hp, z⟩, g2.mono fun a h => ⟨h.1.1, fun z => h.2 ⟨p, hp, z⟩, h.1.2⟩, o'.mono fun a h => ⟨h.1, fun z => h.2.2 ⟨p, hp, z⟩, h.2.1⟩⟩
    | nx ρ' =>
      simp only at e
      cases e2 : dV p ρ' with
      | none => rw [e2] at e; cases e
      | some dp =>
        rw [e2] at e
        cases e
        intro σ' H' As' s' t fx
        obtain ⟨v', g1, g2⟩ := s'.ow p hp _ (dV_at e2)
        have hvv : v' = v := by
          have h1 := fx p (by simp)
          rw [g1, stv] at h1
          cases h1; rfl
        subst hvv
        refine q .non H' (As' p) [] ⟨stp t, t.tb, t.dm, fun a ha => ((t.gr a ⟨p, hp, ha⟩).imp_left (ows a).mp), fun a ha => (nomatch ha), s'.nd p hp, List.nodup_nil, fun a ha => (nomatch ha), g2.mono fun a h => ⟨h.1, fun z => h.2 ⟨p, hp, z⟩, fun z => nomatch z⟩, by simp only [Own]; exact ⟨trivial, trivial⟩⟩
    | br ρ' => cases e
    | ct ρ' => cases e
end
/-! ### bundles -/
/-- a method that changes nothing of its instance -/
def DfP [Tabs] (P : Program) (w : World) (K : PySem.W.Frag) (mg : Str → Option Value) (base : Heap) (k : Nat) (C m : Str) (n : Nat) (g : List D → Option D) : Prop :=
  ∃ a f fd ps, ClsAt K C a ∧ Cls K a ∧ Meth K a m f ∧ FnOk P w K mg base CX0 k f fd ps (spP K n g) ∧ (∀ ds d, g ds = some d → ds.length = n) ∧ L2.Binds K fd ps []
/-- a method that changes its instance -/
def DfM [Tabs] (P : Program) (w : World) (K : PySem.W.Frag) (mg : Str → Option Value) (base : Heap) (k : Nat) (C m : Str) (n : Nat) (g : List D → Option (D × D)) : Prop :=
  ∃ a f fd ps, ClsAt K C a ∧ Cls K a ∧ Meth K a m f ∧ FnOk P w K mg base CX0 k f fd ps (spM K n 0 g) ∧ (∀ ds d, g ds = some d → ds.length = n) ∧ L2.Binds K fd ps []
/-- a class by its __init__ -/
def DfI [Tabs] (P : Program) (w : World) (K : PySem.W.Frag) (mg : Str → Option Value) (base : Heap) (k : Nat) (C : Str) (n : Nat) (g : List D → Option (D × D)) : Prop :=
  ∃ a f fd ps, mg C = some (.ref a) ∧ ClsAt K C a ∧ Mk K a f ∧ FnOk P w K mg base CX0 k f fd ps (spM K n 0 g) ∧ (∀ ds d, g ds = some d → ds.length = n) ∧ L2.Binds K fd ps []
/-- a def that changes its argument at p -/
def DfX [Tabs] (P : Program) (w : World) (K : PySem.W.Frag) (mg : Str → Option Value) (base : Heap) (k : Nat) (x : Str) (n p : Nat) (g : List D → Option (D × D)) : Prop :=
  ∃ f fd ps, FnOk P w K mg base CX0 k f fd ps (spM K n p g) ∧ (∀ ds d, g ds = some d → ds.length = n) ∧ mg x = some (.ref f) ∧ PySem.W.keepIn K (.ref f) = true ∧ L2.Binds K fd ps []
/-- an instance of C, m no field of it -/
def D.hasM (C m : Str) : D → Bool
  | .obj C' ns _ => decide (C' = C) && (fIdx ns m).isNone
  | _ => false
theorem hasM_some {C m : Str} {d : D} (h : d.hasM C m = true) : ∃ ns xs, d = .obj C ns xs ∧ fIdx ns m = none := by
  cases d <;> simp only [D.hasM] at h <;> first | cases h | skip
  rename_i C' ns xs
  rw [Bool.and_eq_true] at h
  have := of_decide_eq_true h.1
  subst this
  exact ⟨ns, xs, rfl, by simpa using h.2⟩
section
variable {X : Cx} {e a b o : Expr} {es : List Expr} {U U' : List Nat} {f fo : Ev} {fs : Es} {M L : List Nat} {i : Nat} {pos apos : Pos} {C m : Str} {k n : Nat}
/-- o.m(..) that changes nothing -/
def dMet (C m : Str) (g : List D → Option D) (fo : Ev) (fs : Es) : Ev := fun ρ => (fo ρ).bind fun d => if d.hasM C m = true then (fs ρ).bind fun ds => g (d :: ds) else none
theorem dMet_some {g : List D → Option D} {ρ : En} {y : D} (h : dMet C m g fo fs ρ = some y) : ∃ d ds, fo ρ = some d ∧ d.hasM C m = true ∧ fs ρ = some ds ∧ g (d :: ds) = some y := by
  unfold dMet at h
  cases q : fo ρ with
  | none => rw [q] at h; cases h
  | some d =>
    rw [q] at h
    simp only [Option.bind_some] at h
    by_cases hm : d.hasM C m = true
    · rw [if_pos hm] at h
      cases q2 : fs ρ with
      | none => rw [q2] at h; cases h
      | some ds => rw [q2] at h; exact ⟨d, ds, rfl, hm, rfl, h⟩
    · rw [if_neg hm] at h; cases h
theorem df_meth [Tabs] {pl : Sem Bool} {g : List D → Option D} (h : DfP X.prog X.w X.K X.mg X.base k C m n g) (hr : Room k X.A) (ho : PE X o (tD X.K U fo)) (ha : PA X (e :: es) (tA X.K U' fs))
    (hst : starEach (e :: es) X.env = (false, eval e X.env) :: starEach es X.env := by rfl) (hpl : (backTo pos (starEach es X.env)).any (·.1) = false := by rfl)
    (ht : eval (.Call (.Attribute o m apos) (e :: es) [] pos) X.env = (do
      let ov ← eval o X.env
      standAt apos.atName
      let (f, first) ← holding [ov] (getMethod ov m pl)
      callWith pos f first (backTo pos (starEach (e :: es) X.env)) (backToKw pos (keywordEach [] X.env))) := by rfl) :
    PE X (.Call (.Attribute o m apos) (e :: es) [] pos) (tF X.K (U ++ U') (dMet C m g fo fs)) := df_of fun ρ y hy => by
  obtain ⟨d, ds, e1, e2, e3, e4⟩ := dMet_some hy
  obtain ⟨ns, xs, rfl, e5⟩ := hasM_some e2
  obtain ⟨ca, ff, fd, ps, c1, c2, c3, F, hn, hb⟩ := h
  refine ⟨_, pe_meth (pl := pl) ho c2 c3 F hr hb .nil pass0 ha hst hpl ht, fun σ H Pf R Q c q => ?_⟩
  refine ⟨ρ, Pf, R, _, c.l, e1, fun v H1 s1 r1 => ?_⟩
  have r1' := r1
  simp only [Rep] at r1'
  obtain ⟨p, dx, vs, rfl, _, ⟨hl, hk⟩, hH, hr'⟩ := r1'
  have hC := hk.one c1
  refine ⟨p, dx.2, _, rfl, by rw [← hC]; exact hH, fIdx_none e5, ρ, Pf, R, ds, (c.same s1).r, e3, fun us H2 s2 r2 => ?_⟩
  show spP X.K n g (.ref p :: (us ++ [])) H2 Q E0
  rw [List.append_nil]
  have s12 := s1.trans s2
  exact ⟨R, .obj C ns xs :: ds, y, hn _ _ e4, .cons (r1.same s2) r2, (c.same s12).new, e4, (c.same s12).tab, fun v2 H3 A s3 o3 n3 z3 => q v2 H3 A (s12.trans s3) o3 n3 fun a ha => s12.free (z3 a ha)⟩
theorem df_meth0 [Tabs] {pl : Sem Bool} {g : List D → Option D} (h : DfP X.prog X.w X.K X.mg X.base k C m n g) (hr : Room k X.A) (ho : PE X o (tD X.K U fo))
    (ht : eval (.Call (.Attribute o m apos) [] [] pos) X.env = (do
      let ov ← eval o X.env
      standAt apos.atName
      let (f, first) ← holding [ov] (getMethod ov m pl)
      callWith pos f first (backTo pos (starEach [] X.env)) (backToKw pos (keywordEach [] X.env))) := by rfl) :
    PE X (.Call (.Attribute o m apos) [] [] pos) (tF X.K U (dMet C m g fo aN)) := df_of fun ρ y hy => by
  obtain ⟨d, ds, e1, e2, e3, e4⟩ := dMet_some hy
  cases e3
  obtain ⟨ns, xs, rfl, e5⟩ := hasM_some e2
  obtain ⟨ca, ff, fd, ps, c1, c2, c3, F, hn, hb⟩ := h
  refine ⟨_, pe_meth0 (pl := pl) ho c2 c3 F hr hb .nil pass0 ht, fun σ H Pf R Q c q => ?_⟩
  refine ⟨ρ, Pf, R, _, c, e1, fun v H1 s1 r1 => ?_⟩
  have r1' := r1
  simp only [Rep] at r1'
  obtain ⟨p, dx, vs, rfl, _, ⟨hl, hk⟩, hH, hr'⟩ := r1'
  have hC := hk.one c1
  refine ⟨p, dx.2, _, rfl, by rw [← hC]; exact hH, fIdx_none e5, ?_⟩
  show spP X.K n g (.ref p :: ([] ++ [])) H1 Q E0
  rw [List.append_nil]
  exact ⟨R, [.obj C ns xs], y, hn _ _ e4, .one r1, (c.same s1).new, e4, (c.same s1).tab, fun v2 H3 A s3 o3 n3 z3 => q v2 H3 A (s1.trans s3) o3 n3 fun a ha => s1.free (z3 a ha)⟩
/-! ### a call that changes slot i -/
/-- from the promise back to the state -/
theorem StOk.mpost [Tabs] {K : PySem.W.Frag} {P : Addr → Prop} {σ : L2.St} {ρ : En} {H H1 H' : Hp} {As : Nat → List Addr} {v : V} {d' r : D} {w : V} {A' B : List Addr} (s : StOk K P M σ ρ H As) (hM : i ∈ M) (hv : σ[i]? = some (some v)) (k : SameT H H1)
    (p : MPost K (fun a => P a ∧ ¬ Ow M As a) (As i) H1 v d' r w H' A' B) : StOk K (fun a => P a ∧ a ∉ B) M σ (ρ.set i (some d')) H' (asSet As i A') ∧ Step M H As H' (asSet As i A') ∧ Own K (fun a => (P a ∧ a ∉ B) ∧ ¬ Ow M (asSet As i A') a) H' r w B ∧ (∀ a ∈ B, ¬ Ow M (asSet As i A') a) ∧ (∀ a ∈ B, Ow M As a ∨ H a = none) := by
  have pm : ∀ a, ((P a ∧ ¬ Ow M As a) ∨ a ∈ As i) ∧ a ∉ A' ∧ a ∉ B → (P a ∧ a ∉ B) ∧ ¬ Ow M (asSet As i A') a := fun a h => by
    refine ⟨⟨h.1.elim (fun z => z.1) (s.pw i hM a), h.2.2⟩, fun ⟨j, hj, z⟩ => ?_⟩
    by_cases q : j = i
    · rw [q, asSet_self] at z; exact h.2.1 z
    · rw [asSet_ne q] at z
      rcases h.1 with g | g
      · exact g.2 ⟨j, hj, z⟩
      · exact s.dj j hj i hM q a z g
  have gA : ∀ a ∈ A', a ∈ As i ∨ H a = none := fun a ha => (p.gA a ha).imp_right k.free
  have gB : ∀ a ∈ B, a ∈ As i ∨ H a = none := fun a ha => (p.gB a ha).imp_right k.free
  have fr : ∀ a o, H a = some o → NT o → a ∉ As i → H' a = some o := fun a o h n z => p.fr a o (k.k _ _ h n) n z
  have tb : ∀ b q, H b = some (.tbl q) → ∃ q', H' b = some (.tbl q') ∧ (TriplesOk q.toList → TriplesOk q'.toList) := fun b q h => by
    obtain ⟨q1, h1, t1⟩ := k.tb b q h
    obtain ⟨q2, h2, t2⟩ := p.tb b q1 h1
    exact ⟨q2, h2, fun z => t2 (t1 z)⟩
  have dm : ∀ a, H a ≠ none → H' a ≠ none := fun a h => p.dm a fun z => h (k.free z)
  obtain ⟨s', t⟩ := s.putT (A := A') (H2 := H') (d := d') (v := v) hM fr tb dm (p.ow.mono fun a h => ⟨(pm a h).1.1, (pm a h).2⟩) p.nA gA
  rw [set_self hv] at s'
  have owB : ∀ a ∈ B, ¬ Ow M (asSet As i A') a := fun a ha ⟨j, hj, z⟩ => by
    by_cases q : j = i
    · rw [q, asSet_self] at z; exact p.dj a ha z
    · rw [asSet_ne q] at z
      rcases gB a ha with g | g
      · exact s.dj j hj i hM q a z g
      · exact mut_some (s.mut ⟨j, hj, z⟩) g
  -- apart from B
  have trB : Tr (fun a => (P a ∧ ¬ Ow M As a) ∧ H a ≠ none) (fun a => (P a ∧ a ∉ B) ∧ ¬ Ow M (asSet As i A') a) H H' := by
    refine ⟨fun a h => ⟨⟨h.1.1, fun z => (gB a z).elim (fun g => h.1.2 ⟨i, hM, g⟩) h.2⟩, not_ow_set h.1.2 fun z => (gA a z).elim (fun g => h.1.2 ⟨i, hM, g⟩) h.2⟩, fun a o e n q => fr a o e n fun z => ?_⟩
    rcases q with q | q
    · exact q.1.2 ⟨i, hM, z⟩
    · have := s.mut (a := a) ⟨i, hM, z⟩
      rw [e] at this
      exact q this
  refine ⟨⟨s'.len, fun j y hj e => ?_, fun j hj y e => ?_, s'.em, s'.nd, s'.dj, fun a e => ⟨s'.new a e, fun z => mut_some (p.ob.mut a z) e⟩, s'.inb, fun j hj a ha => ⟨s'.pw j hj a ha, fun z => owB a z ⟨j, hj, ha⟩⟩, s'.tab⟩, t, p.ob.mono pm, owB, fun a ha => (gB a ha).imp_left fun z => ⟨i, hM, z⟩⟩
  · have q : j ≠ i := fun z => hj (z ▸ hM)
    rw [List.getElem?_set_ne (Ne.symm q)] at e
    obtain ⟨u, g1, g2⟩ := s.sh j y hj e
    exact ⟨u, g1, g2.dom.tr trB⟩
  · rcases set_cases e with ⟨rfl, rfl, hl⟩ | ⟨q, e⟩
    · refine ⟨v, hv, ?_⟩
      rw [asSet_self]
      exact p.ow.mono pm
    · obtain ⟨u, g1, g2⟩ := s.ow j hj y e
      refine ⟨u, g1, ?_⟩
      rw [asSet_ne q]
      exact g2.dom.tr trB fun a ha o h n => fr a o h n (s.dj j hj i hM q a ha)
/-- a result that is dropped -/
theorem StOk.drop [Tabs] {K : PySem.W.Frag} {P : Addr → Prop} {σ : L2.St} {ρ : En} {H : Hp} {As : Nat → List Addr} {B : List Addr} (s : StOk K (fun a => P a ∧ a ∉ B) M σ ρ H As) (hB : ∀ a ∈ B, H a ≠ none) (new : ∀ a, H a = none → P a) : StOk K P M σ ρ H As :=
  ⟨s.len, fun j y hj e => let ⟨u, g1, g2⟩ := s.sh j y hj e; ⟨u, g1, g2.mono fun a h => ⟨h.1.1, h.2⟩⟩, fun j hj y e => let ⟨u, g1, g2⟩ := s.ow j hj y e; ⟨u, g1, g2.mono fun a h => ⟨h.1.1, h.2⟩⟩, s.em, s.nd, s.dj, new, s.inb, fun j hj a ha => (s.pw j hj a ha).1, s.tab⟩
def sMet (i : Nat) (C m : Str) (g : List D → Option (D × D)) (fs : Es) : Fs := fun ρ => (dV i ρ).bind fun d => if d.hasM C m = true then (fs ρ).bind fun ds => (g (d :: ds)).map fun y => .nx (ρ.set i (some y.1)) else none
theorem sMet_some {g : List D → Option (D × D)} {ρ : En} {y : Out} (h : sMet i C m g fs ρ = some y) : ∃ d ds d' r, dV i ρ = some d ∧ d.hasM C m = true ∧ fs ρ = some ds ∧ g (d :: ds) = some (d', r) ∧ y = .nx (ρ.set i (some d')) := by
  unfold sMet at h
  cases q : dV i ρ with
  | none => rw [q] at h; cases h
  | some d =>
    rw [q] at h
    simp only [Option.bind_some] at h
    by_cases hm : d.hasM C m = true
    · rw [if_pos hm] at h
      simp only [Option.bind_eq_some_iff, Option.map_eq_some_iff] at h
      obtain ⟨ds, e1, ⟨d', r⟩, e2, e3⟩ := h
      exact ⟨d, ds, d', r, rfl, hm, e1, e2, e3.symm⟩
    · rw [if_neg hm] at h; cases h
theorem spM_args [Tabs] {K : PySem.W.Frag} {P : Addr → Prop} {σ : L2.St} {ρ : En} {H H2 : Hp} {As : Nat → List Addr} {v : V} {d d' r : D} {ds : List D} {us : List V} {g : List D → Option (D × D)} {Q : VK} (s : StOk K P M σ ρ H As) (hM : i ∈ M) (ow : Own K (fun a => P a ∧ ¬ Ow M As a) H d v (As i)) (k : SameT H H2) (hn : ∀ ds d, g ds = some d → ds.length = n)
    (r2 : Reps K (fun a => P a ∧ ¬ Ow M As a) H2 ds us) (e4 : g (d :: ds) = some (d', r)) (q : ∀ w H' A' B, MPost K (fun a => P a ∧ ¬ Ow M As a) (As i) H2 v d' r w H' A' B → Q w H') : spM K n 0 g (v :: us) H2 Q E0 := by
  have hl := hn _ _ e4
  refine ⟨fun a => P a ∧ ¬ Ow M As a, d :: ds, v, As i, d, d', r, hl, ?_, rfl, rfl, ow.same k, fun j y hj e => ?_, s.nd i hM, fun a ha h => h.2 ⟨i, hM, ha⟩, fun a e => ⟨s.new a (k.free e), fun z => mut_some (s.mut z) (k.free e)⟩, e4, (s.same k).tab, q⟩
  · rw [List.length_cons, r2.length]; simpa using hl
  · cases j with
    | zero => exact absurd rfl hj
    | succ j =>
      obtain ⟨u, g1, g2⟩ := r2.get (i := j) (by simpa using e)
      exact ⟨u, by simpa using g1, g2⟩
theorem ds_meth [Tabs] {x : Str} {pos' spos : Pos} {pl : Sem Bool} {g : List D → Option (D × D)} (h : DfM X.prog X.w X.K X.mg X.base k C m n g) (hr : Room k X.A) (ha : PA X (e :: es) (tA X.K U fs)) (hi : X.N[i]? = some x := by rfl) (hv : Vis X.env.scope x := by first | exact Or.inl rfl | exact Or.inr (Or.inl rfl) | exact Or.inr (Or.inr rfl)) (hM : i ∈ M := by decide) (hU : ∀ j ∈ U, j ∉ M := by decide)
    (hd : (x == ("__debug__" : Str)) = false := by decide) (hcd : (x == ("__classdict__" : Str)) = false := by decide)
    (hst : starEach (e :: es) X.env = (false, eval e X.env) :: starEach es X.env := by rfl) (hpl : (backTo pos (starEach es X.env)).any (·.1) = false := by rfl)
    (ht : eval (.Call (.Attribute (.Name x pos') m apos) (e :: es) [] pos) X.env = (do
      let ov ← eval (.Name x pos') X.env
      standAt apos.atName
      let (f, first) ← holding [ov] (getMethod ov m pl)
      callWith pos f first (backTo pos (starEach (e :: es) X.env)) (backToKw pos (keywordEach [] X.env))) := by rfl) (hs : swapsWith (.Call (.Attribute (.Name x pos') m apos) (e :: es) [] pos) none spos.line X.env = pure false := by rfl) :
    PS X (.Expr (.Call (.Attribute (.Name x pos') m apos) (e :: es) [] pos) spos) (tS X.K M L (sMet i C m g fs)) := ds_of fun ρ y hy => by
  obtain ⟨d, ds, d', r, e1, e2, e3, e4, rfl⟩ := sMet_some hy
  obtain ⟨ns, xs, rfl, e5⟩ := hasM_some e2
  obtain ⟨ca, ff, fd, ps, c1, c2, c3, F, hn, hb⟩ := h
  refine ⟨_, ps_expr (pe_meth (pl := pl) (pv i hi hv hd hcd) c2 c3 F hr hb .nil pass0 ha hst hpl ht) hs, fun E σ H P As s p => ?_⟩
  obtain ⟨v, g1, g2⟩ := s.ow i hM _ (dV_at e1)
  have g2' := g2
  simp only [Own] at g2'
  obtain ⟨l, dx, vs, B0, rfl, eA, ⟨hl, hk⟩, hH, hB⟩ := g2'
  have hC := hk.one c1
  refine ⟨.ref l, g1, l, dx.2, _, rfl, by rw [← hC]; exact hH, fIdx_none e5, ρ, _, _, ds, s.ctx hU, e3, fun us H2 s2 r2 => ?_⟩
  show spM X.K n 0 g (.ref l :: (us ++ [])) H2 _ E0
  rw [List.append_nil]
  refine spM_args s hM g2 s2 hn r2 e4 fun w H' A' B mp => ?_
  obtain ⟨q1, q2, q3, q4, q5⟩ := s.mpost hM g1 s2 mp
  exact p σ H' _ (q1.drop (fun a ha => mut_some (mp.ob.mut a ha)) fun a e => (q1.new a e).1) q2 fun _ _ => rfl
theorem ds_meth0 [Tabs] {x : Str} {pos' spos : Pos} {pl : Sem Bool} {g : List D → Option (D × D)} (h : DfM X.prog X.w X.K X.mg X.base k C m n g) (hr : Room k X.A) (hi : X.N[i]? = some x := by rfl) (hv : Vis X.env.scope x := by first | exact Or.inl rfl | exact Or.inr (Or.inl rfl) | exact Or.inr (Or.inr rfl)) (hM : i ∈ M := by decide)
    (hd : (x == ("__debug__" : Str)) = false := by decide) (hcd : (x == ("__classdict__" : Str)) = false := by decide)
    (ht : eval (.Call (.Attribute (.Name x pos') m apos) [] [] pos) X.env = (do
      let ov ← eval (.Name x pos') X.env
      standAt apos.atName
      let (f, first) ← holding [ov] (getMethod ov m pl)
      callWith pos f first (backTo pos (starEach [] X.env)) (backToKw pos (keywordEach [] X.env))) := by rfl) (hs : swapsWith (.Call (.Attribute (.Name x pos') m apos) [] [] pos) none spos.line X.env = pure false := by rfl) :
    PS X (.Expr (.Call (.Attribute (.Name x pos') m apos) [] [] pos) spos) (tS X.K M L (sMet i C m g aN)) := ds_of fun ρ y hy => by
  obtain ⟨d, ds, d', r, e1, e2, e3, e4, rfl⟩ := sMet_some hy
  cases e3
  obtain ⟨ns, xs, rfl, e5⟩ := hasM_some e2
  obtain ⟨ca, ff, fd, ps, c1, c2, c3, F, hn, hb⟩ := h
  refine ⟨_, ps_expr (pe_meth0 (pl := pl) (pv i hi hv hd hcd) c2 c3 F hr hb .nil pass0 ht) hs, fun E σ H P As s p => ?_⟩
  obtain ⟨v, g1, g2⟩ := s.ow i hM _ (dV_at e1)
  have g2' := g2
  simp only [Own] at g2'
  obtain ⟨l, dx, vs, B0, rfl, eA, ⟨hl, hk⟩, hH, hB⟩ := g2'
  have hC := hk.one c1
  refine ⟨.ref l, g1, l, dx.2, _, rfl, by rw [← hC]; exact hH, fIdx_none e5, ?_⟩
  show spM X.K n 0 g (.ref l :: ([] ++ [])) H _ E0
  rw [List.append_nil]
  refine spM_args s hM g2 (.refl H) hn .nil e4 fun w H' A' B mp => ?_
  obtain ⟨q1, q2, q3, q4, q5⟩ := s.mpost hM g1 (.refl H) mp
  exact p σ H' _ (q1.drop (fun a ha => mut_some (mp.ob.mut a ha)) fun a e => (q1.new a e).1) q2 fun _ _ => rfl
/-! ### an instance made -/
def dMake (C : Str) (g : List D → Option (D × D)) (fs : Es) : Ev := fun ρ => (fs ρ).bind fun ds => (g (.obj C [] [] :: ds)).bind fun y => match y.2 with | .non => some y.1 | _ => none
theorem dMake_some {g : List D → Option (D × D)} {ρ : En} {y : D} (h : dMake C g fs ρ = some y) : ∃ ds, fs ρ = some ds ∧ g (.obj C [] [] :: ds) = some (y, .non) := by
  unfold dMake at h
  cases q : fs ρ with
  | none => rw [q] at h; cases h
  | some ds =>
    rw [q] at h
    simp only [Option.bind_some] at h
    cases q2 : g (.obj C [] [] :: ds) with
    | none => rw [q2] at h; cases h
    | some z =>
      obtain ⟨z1, z2⟩ := z
      rw [q2] at h
      cases z2 <;> first | (cases h; exact ⟨ds, rfl, q2⟩) | cases h
theorem df_make [Tabs] {p : Pos} {g : List D → Option (D × D)} (h : DfI X.prog X.w X.K X.mg X.base k C n g) (hr : Room (k + 1) X.A) (ha : PA X (e :: es) (tA X.K U fs)) (hg : Gl X C := by rfl) (hdb : (C == ("__debug__" : Str)) = false := by decide)
    (he : starEach (e :: es) X.env = (false, eval e X.env) :: starEach es X.env := by rfl) (hpl : (backTo pos (starEach es X.env)).any (·.1) = false := by rfl) :
    PE X (.Call (.Name C p) (e :: es) [] pos) (tF X.K U (dMake C g fs)) := df_of fun ρ y hy => by
  obtain ⟨ds, e1, e2⟩ := dMake_some hy
  obtain ⟨ca, ff, fd, ps, c1, c2, c3, F, hn, hb⟩ := h
  refine ⟨_, pe_make c3 F hr hg c1 hb .nil pass0 ha hdb he hpl, fun σ H Pf R Q c q => ?_⟩
  refine ⟨ρ, Pf, R, ds, c, e1, fun us H1 s1 r1 => ?_⟩
  intro x dx nx ndx nex
  show spM X.K n 0 g (.ref x :: (us ++ [])) _ _ E0
  rw [List.append_nil]
  have s2 : SameT H1 (upd (upd H1 dx (.own x)) x (.ins ca dx [])) := (same_new ndx).trans (same_new (by rw [upd_ne (Ne.symm nex)]; exact nx))
  have s12 := s1.trans s2
  have nx0 : H x = none := s1.free nx
  refine ⟨fun a => R a ∧ a ≠ x, .obj C [] [] :: ds, .ref x, [x], _, y, .non, hn _ _ e2, ?_, rfl, rfl, ?_, fun j yy hj e => ?_, by simp, fun a ha h => h.2 (List.mem_singleton.mp ha), fun a e => ⟨(c.same s12).new a e, fun z => by rw [z, upd_same] at e; cases e⟩, e2, (c.same s12).tab, fun w H' A' B mp => ?_⟩
  · have := hn _ _ e2
    rw [List.length_cons, r1.length]; simpa using this
  · simp only [Own]
    exact ⟨x, (ca, dx), [], [], rfl, rfl, ⟨rfl, c2⟩, upd_same, by simp [Owns]⟩
  · cases j with
    | zero => exact absurd rfl hj
    | succ j =>
      obtain ⟨u, g1, g2⟩ := r1.get (i := j) (by simpa using e)
      exact ⟨u, by simpa using g1, (g2.dom.same s2).mono fun a h => ⟨h.1, fun z => h.2 (by rw [z]; exact nx)⟩⟩
  · have hob := mp.ob
    simp only [Own] at hob
    refine ⟨hob.2, q (.ref x) H' A' ⟨fun b o h n => mp.fr b o (s12.k _ _ h n) n (fun z => by rw [List.mem_singleton.mp z, nx0] at h; cases h), fun b t h => ?_⟩ ?_ mp.nA fun a ha => ?_⟩
    · obtain ⟨t1, h1, k1⟩ := s12.tb b t h
      obtain ⟨t2, h2, k2⟩ := mp.tb b t1 h1
      exact ⟨t2, h2, fun z => k2 (k1 z)⟩
    · refine mp.ow.mono fun a h => ⟨h.1.elim (fun z => z.1) fun z => ?_, h.2.1⟩
      rw [List.mem_singleton.mp z]
      exact c.new x nx0
    · rcases mp.gA a ha with z | z
      · rw [List.mem_singleton.mp z]; exact nx0
      · exact s12.free z
end
end DL

/-! Calls of defs that change one of their arguments: a slot's, or a new one. -/
namespace DL
open PySem PySem.Spec PyProof.Rows L2
/-- arguments, the one at p slot i itself -/
def tAm [Tabs] (K : PySem.W.Frag) (U : List Nat) (i p : Nat) (f : Es) : TA := fun σ H Q => ∃ ρ Pf R v ds, Ctx K U Pf R σ ρ H ∧ σ[i]? = some (some v) ∧ f ρ = some ds ∧ ∀ vs H', SameT H H' → vs.length = ds.length → vs[p]? = some v →
  (∀ (j : Nat) y, j ≠ p → ds[j]? = some y → ∃ u, vs[j]? = some u ∧ Rep K R H' y u) → Q vs H'
/-- arguments, the one at p in new lists -/
def tAf [Tabs] (K : PySem.W.Frag) (U : List Nat) (p : Nat) (f : Es) : TA := fun σ H Q => ∃ ρ Pf R ds, Ctx K U Pf R σ ρ H ∧ f ρ = some ds ∧ ∀ vs H' A v d, SameT H H' → vs.length = ds.length → vs[p]? = some v → ds[p]? = some d → Own K (fun a => R a ∧ a ∉ A) H' d v A → A.Nodup → (∀ a ∈ A, H a = none) →
  (∀ (j : Nat) y, j ≠ p → ds[j]? = some y → ∃ u, vs[j]? = some u ∧ Rep K (fun a => R a ∧ a ∉ A) H' y u) → Q vs H'
theorem Owns.flat {K : PySem.W.Frag} {P : Addr → Prop} {H : Hp} : ∀ {ds : List D} {vs : List V} {A : List Addr}, ds.all D.flat = true → Owns K P H ds vs A → A = [] ∧ Reps K P H ds vs
  | [], vs, A, _, h => by
    simp only [Owns] at h
    exact ⟨h.2, by simp only [Reps]; exact h.1⟩
  | d :: ds, vs, A, f, h => by
    simp only [List.all_cons, Bool.and_eq_true] at f
    simp only [Owns] at h
    obtain ⟨v, r, B, C, rfl, rfl, h1, h2⟩ := h
    obtain ⟨rfl, r2⟩ := Owns.flat f.2 h2
    have hB : B = [] := by
      cases d <;> first | (simp only [Own] at h1; exact h1.1) | exact absurd f.1 (by simp [D.flat])
    subst hB
    exact ⟨rfl, .cons (h1.rep (fun a h => h) fun _ z => nomatch z) r2⟩
section
variable {X : Cx} {e a b o : Expr} {es : List Expr} {U U' : List Nat} {f fo : Ev} {fs : Es} {M L : List Nat} {i j : Nat} {pos p : Pos} {C m x : Str} {k n q : Nat}
theorem pa_imp {t t' : TA} (h : PA X es t) (k : ∀ σ H Q, t' σ H Q → t σ H Q) : PA X es t' := ⟨fun pos pins s σ H Q I w => h.run pos pins s σ H Q I (k σ H Q w)⟩
theorem da_m0 [Tabs] (i : Nat) (ha : PA X es (tA X.K U fs)) (hi : X.N[i]? = some x := by rfl) (hv : Vis X.env.scope x := by first | exact Or.inl rfl | exact Or.inr (Or.inl rfl) | exact Or.inr (Or.inr rfl)) (hd : (x == ("__debug__" : Str)) = false := by decide)
    (hcd : (x == ("__classdict__" : Str)) = false := by decide) (hs : starEach (.Name x pos :: es) X.env = (false, eval (.Name x pos) X.env) :: starEach es X.env := by rfl) : PA X (.Name x pos :: es) (tAm X.K U i 0 (aC (dV i) fs)) :=
  pa_imp (pa_cons (pv i hi hv hd hcd) ha hs) fun σ H Q ⟨ρ, Pf, R, v, ds, c, g1, e1, k⟩ => by
    obtain ⟨y, ys, e2, e3, rfl⟩ := aC_some e1
    refine ⟨v, g1, ρ, Pf, R, ys, c, e3, fun us H' s r => k (v :: us) H' s (by simp [r.length]) rfl fun j y' hj e => ?_⟩
    cases j with
    | zero => exact absurd rfl hj
    | succ j =>
      obtain ⟨u, h1, h2⟩ := r.get (i := j) (by simpa using e)
      exact ⟨u, by simpa using h1, h2⟩
theorem da_mS [Tabs] (he : PE X e (tD X.K U f)) (ha : PA X es (tAm X.K U' i q fs)) (hs : starEach (e :: es) X.env = (false, eval e X.env) :: starEach es X.env := by rfl) : PA X (e :: es) (tAm X.K (U ++ U') i (q + 1) (aC f fs)) :=
  pa_imp (pa_cons he ha hs) fun σ H Q ⟨ρ, Pf, R, v, ds, c, g1, e1, k⟩ => by
    obtain ⟨y, ys, e2, e3, rfl⟩ := aC_some e1
    refine ⟨ρ, Pf, R, y, c.l, e2, fun u H1 s1 r1 => ⟨ρ, Pf, R, v, ys, (c.same s1).r, g1, e3, fun us H2 s2 hl hp hr => k (u :: us) H2 (s1.trans s2) (by simp [hl]) (by simpa using hp) fun j y' hj e => ?_⟩⟩
    cases j with
    | zero =>
      simp only [List.getElem?_cons_zero, Option.some.injEq] at e
      subst e
      exact ⟨u, rfl, r1.same s2⟩
    | succ j =>
      obtain ⟨u', h1, h2⟩ := hr j y' (fun z => hj (by rw [z])) (by simpa using e)
      exact ⟨u', by simpa using h1, h2⟩
theorem da_f0 [Tabs] (he : PE X e (tF X.K U f)) (ha : PA X es (tA X.K U' fs)) (hs : starEach (e :: es) X.env = (false, eval e X.env) :: starEach es X.env := by rfl) : PA X (e :: es) (tAf X.K (U ++ U') 0 (aC f fs)) :=
  pa_imp (pa_cons he ha hs) fun σ H Q ⟨ρ, Pf, R, ds, c, e1, k⟩ => by
    obtain ⟨y, ys, e2, e3, rfl⟩ := aC_some e1
    refine ⟨ρ, Pf, R, y, c.l, e2, fun u H1 A s1 o1 n1 z1 => ?_⟩
    have cd := (c.r).dom
    have c1 : Ctx X.K U' (fun i a => Pf i a ∧ H a ≠ none) (fun a => R a ∧ a ∉ A) σ ρ H1 := by
      have := (cd.same s1).off A (fun a ha => mut_some (o1.mut a ha)) fun i hi a h z => h.2 (z1 a z)
      exact this
    refine ⟨ρ, _, _, ys, c1, e3, fun us H2 s2 r2 => k (u :: us) H2 A u y (s1.trans s2) (by simp [r2.length]) rfl rfl (o1.same s2) n1 z1 fun j y' hj e => ?_⟩
    cases j with
    | zero => exact absurd rfl hj
    | succ j =>
      obtain ⟨u', h1, h2⟩ := r2.get (i := j) (by simpa using e)
      exact ⟨u', by simpa using h1, h2⟩
theorem da_fS [Tabs] (he : PE X e (tD X.K U f)) (ha : PA X es (tAf X.K U' q fs)) (hs : starEach (e :: es) X.env = (false, eval e X.env) :: starEach es X.env := by rfl) : PA X (e :: es) (tAf X.K (U ++ U') (q + 1) (aC f fs)) :=
  pa_imp (pa_cons he ha hs) fun σ H Q ⟨ρ, Pf, R, ds, c, e1, k⟩ => by
    obtain ⟨y, ys, e2, e3, rfl⟩ := aC_some e1
    refine ⟨ρ, Pf, R, y, c.l, e2, fun u H1 s1 r1 => ⟨ρ, Pf, R, ys, (c.same s1).r, e3, fun us H2 A v d s2 hl hp hd o2 n2 z2 hr => k (u :: us) H2 A v d (s1.trans s2) (by simp [hl]) (by simpa using hp) (by simpa using hd) o2 n2 (fun a ha => s1.free (z2 a ha)) fun j y' hj e => ?_⟩⟩
    cases j with
    | zero =>
      simp only [List.getElem?_cons_zero, Option.some.injEq] at e
      subst e
      exact ⟨u, rfl, (r1.dom.same s2).mono fun a h => ⟨h.1, fun z => h.2 (z2 a z)⟩⟩
    | succ j =>
      obtain ⟨u', h1, h2⟩ := hr j y' (fun z => hj (by rw [z])) (by simpa using e)
      exact ⟨u', by simpa using h1, h2⟩
/-- a call that changes slot i -/
def tCM [Tabs] (K : PySem.W.Frag) (M : List Nat) (i : Nat) (g : List D → Option (D × D)) (fs : Es) : TE := fun σ H Q => ∃ ρ P As ds d' r, StOk K P M σ ρ H As ∧ fs ρ = some ds ∧ g ds = some (d', r) ∧ ∀ w H' As' B, StOk K (fun a => P a ∧ a ∉ B) M σ (ρ.set i (some d')) H' As' → Step M H As H' As' →
  Own K (fun a => (P a ∧ a ∉ B) ∧ ¬ Ow M As' a) H' r w B → (∀ a ∈ B, ¬ Ow M As' a) → (∀ a ∈ B, Ow M As a ∨ H a = none) → B.Nodup → Q w H'
theorem px_call [Tabs] {g : List D → Option (D × D)} (h : DfX X.prog X.w X.K X.mg X.base k x n q g) (hr : Room k X.A) (ha : PA X (e :: es) (tAm X.K U i q fs)) (hf : ∀ ρ ds, fs ρ = some ds → ds[q]? = dV i ρ) (hqn : q < n := by decide) (hM : i ∈ M := by decide) (hU : ∀ j ∈ U, j ∉ M := by decide) (hg : Gl X x := by rfl) (hdb : (x == ("__debug__" : Str)) = false := by decide)
    (he : starEach (e :: es) X.env = (false, eval e X.env) :: starEach es X.env := by rfl) (hpl : (backTo pos (starEach es X.env)).any (·.1) = false := by rfl) : PE X (.Call (.Name x p) (e :: es) [] pos) (tCM X.K M i g fs) := by
  obtain ⟨ff, fd, ps, F, hn, hm, hk, hb⟩ := h
  refine pe_imp (pe_call F hr hg hm hk hb .nil pass0 ha hdb he hpl) fun σ H Q ⟨ρ, P, As, ds, d', r, s, e1, e2, kk⟩ => ?_
  have e0 := hf ρ ds e1
  have hl := hn _ _ e2
  cases e3 : dV i ρ with
  | none =>
    -- no datum: the slot's place lies outside
    exfalso
    rw [e3] at e0
    have := List.getElem?_eq_none_iff.mp e0
    have hq : q < n := hqn
    omega
  | some d =>
    obtain ⟨v, g1, g2⟩ := s.ow i hM _ (dV_at e3)
    refine ⟨ρ, _, _, v, ds, s.ctx hU, g1, e1, fun vs H1 s1 hvl hvq hvr => ?_⟩
    show spM X.K n q g (vs ++ []) H1 Q E0
    rw [List.append_nil]
    refine ⟨_, ds, v, As i, d, d', r, hl, by omega, hvq, by rw [e0, e3], g2.same s1, hvr, s.nd i hM, fun a ha h => h.2 ⟨i, hM, ha⟩, fun a e => ⟨s.new a (s1.free e), fun z => mut_some (s.mut z) (s1.free e)⟩, e2, (s.same s1).tab, fun w H' A' B mp => ?_⟩
    obtain ⟨q1, q2, q3, q4, q5⟩ := s.mpost hM g1 s1 mp
    exact kk w H' _ B q1 q2 q3 q4 q5 mp.nB
/-- a call whose changed argument is new -/
def dCallT (g : List D → Option (D × D)) (fs : Es) : Ev := fun ρ => (fs ρ).bind fun ds => (g ds).map (·.2)
theorem df_callT2 [Tabs] {g : List D → Option (D × D)} (h : DfX X.prog X.w X.K X.mg X.base k x n q g) (hr : Room k X.A) (ha : PA X (e :: es) (tAf X.K U q fs)) (hqn : q < n := by decide) (hg : Gl X x := by rfl) (hdb : (x == ("__debug__" : Str)) = false := by decide)
    (he : starEach (e :: es) X.env = (false, eval e X.env) :: starEach es X.env := by rfl) (hpl : (backTo pos (starEach es X.env)).any (·.1) = false := by rfl) : PE X (.Call (.Name x p) (e :: es) [] pos) (tF X.K U (dCallT g fs)) := df_of fun ρ y hy => by
  obtain ⟨ff, fd, ps, F, hn, hm, hk, hb⟩ := h
  unfold dCallT at hy
  simp only [Option.bind_eq_some_iff, Option.map_eq_some_iff] at hy
  obtain ⟨ds, e1, ⟨d', r⟩, e2, e3⟩ := hy
  have e3 : r = y := e3
  subst e3
  have hl := hn _ _ e2
  refine ⟨_, pe_call F hr hg hm hk hb .nil pass0 ha hdb he hpl, fun σ H Pf R Q c qq => ⟨ρ, Pf, R, ds, c, e1, fun vs H1 A v d s1 hvl hvq hdq o1 n1 z1 hvr => ?_⟩⟩
  show spM X.K n q g (vs ++ []) H1 Q E0
  rw [List.append_nil]
  refine ⟨_, ds, v, A, d, d', r, hl, by omega, hvq, hdq, o1, hvr, n1, fun a ha h => h.2 ha, fun a e => ⟨(c.same s1).new a e, fun z => mut_some (o1.mut a z) e⟩, e2, (c.same s1).tab, fun w H' A' B mp => ?_⟩
  refine qq w H' B ⟨fun b o h nt => mp.fr b o (s1.k _ _ h nt) nt (fun z => by rw [z1 b z] at h; cases h), fun b t h => ?_⟩ (mp.ob.mono fun a h => ⟨h.1.elim (fun z => z.1) fun z => c.new a (z1 a z), h.2.2⟩) mp.nB fun a ha => (mp.gB a ha).elim (z1 a) s1.free
  obtain ⟨t1, h1, k1⟩ := s1.tb b t h
  obtain ⟨t2, h2, k2⟩ := mp.tb b t1 h1
  exact ⟨t2, h2, fun z => k2 (k1 z)⟩
/-! ### statements -/
def sCallM (i : Nat) (g : List D → Option (D × D)) (fs : Es) : Fs := fun ρ => (fs ρ).bind fun ds => (g ds).map fun y => .nx (ρ.set i (some y.1))
theorem ds_callM [Tabs] {g : List D → Option (D × D)} (he : PE X e (tCM X.K M i g fs)) (hs : swapsWith e none pos.line X.env = pure false := by rfl) : PS X (.Expr e pos) (tS X.K M L (sCallM i g fs)) := ds_of fun ρ y hy => by
  unfold sCallM at hy
  simp only [Option.bind_eq_some_iff, Option.map_eq_some_iff] at hy
  obtain ⟨ds, e1, ⟨d', r⟩, e2, rfl⟩ := hy
  refine ⟨_, ps_expr he hs, fun E σ H P As s p => ⟨ρ, P, As, ds, d', r, s, e1, e2, fun w H' As' B s' t o n1 n2 n3 => ?_⟩⟩
  exact p σ H' As' (s'.drop (fun a ha => mut_some (o.mut a ha)) fun a e => (s'.new a e).1) t fun _ _ => rfl
/-- x = x + f(..), f's call changes slot i -/
def sCatM (j i : Nat) (g : List D → Option (D × D)) (fs : Es) : Fs := fun ρ => (dV j ρ).bind fun d => match d with
  | .lst xs => (fs ρ).bind fun ds => (g ds).bind fun y => match y.2 with
    | .lst ys => if xs.length + ys.length ≤ 16777216 ∧ (xs ++ ys).all D.flat = true then some (.nx ((ρ.set i (some y.1)).set j (some (.lst (xs ++ ys))))) else none
    | _ => none
  | _ => none
theorem sCatM_some {g : List D → Option (D × D)} {ρ : En} {y : Out} (h : sCatM j i g fs ρ = some y) : ∃ xs ds d' ys, dV j ρ = some (.lst xs) ∧ fs ρ = some ds ∧ g ds = some (d', .lst ys) ∧ xs.length + ys.length ≤ 16777216 ∧ (xs ++ ys).all D.flat = true ∧ y = .nx ((ρ.set i (some d')).set j (some (.lst (xs ++ ys)))) := by
  unfold sCatM at h
  cases q : dV j ρ with
  | none => rw [q] at h; cases h
  | some d =>
    rw [q] at h
    simp only [Option.bind_some] at h
    split at h
    · rename_i xs
      cases q2 : fs ρ with
      | none => rw [q2] at h; cases h
      | some ds =>
        rw [q2] at h
        simp only [Option.bind_some] at h
        cases q3 : g ds with
        | none => rw [q3] at h; cases h
        | some z =>
          obtain ⟨z1, z2⟩ := z
          rw [q3] at h
          simp only [Option.bind_some] at h
          cases z2 <;> first | cases h | skip
          rename_i ys
          simp only at h
          split at h
          · rename_i hh
            cases h
            exact ⟨xs, ds, z1, ys, rfl, rfl, q3, hh.1, hh.2, rfl⟩
          · cases h
    · cases h
theorem ds_catM [Tabs] {g : List D → Option (D × D)} {py px : Pos} (he : PE X e (tCM X.K M i g fs)) (hN : X.N.Nodup) (hj : X.N[j]? = some x := by rfl) (hx : Loc X.env.scope x := by first | exact Or.inl rfl | exact Or.inr rfl) (hv : Vis X.env.scope x := by first | exact Or.inl rfl | exact Or.inr (Or.inl rfl) | exact Or.inr (Or.inr rfl)) (hd : (x == ("__debug__" : Str)) = false := by decide)
    (hcd : (x == ("__classdict__" : Str)) = false := by decide) (hM : j ∈ M := by decide) (hij : j ≠ i := by decide) (hL : j ∉ L := by decide) (hs : swapsWith (.BinOp (.Name x px) .Add e p) (some (.Name x py)) pos.line X.env = pure false := by rfl)
    (hf : X.fn x = true ∨ X.env.scope.names.lookup x = some .local := by first | exact .inl rfl | exact .inr rfl | assumption) : PS X (.Assign [.Name x py] (.BinOp (.Name x px) .Add e p) pos) (tS X.K M L (sCatM j i g fs)) := ds_of fun ρ y hy => by
  obtain ⟨xs, ds, d', ys, e0, e1, e2, hl, hfl, rfl⟩ := sCatM_some hy
  refine ⟨_, ps_set hN hj hx (pe_op op_cat (pv j hj hv hd hcd) he) hs hf, fun E σ H P As s pp => ?_⟩
  obtain ⟨v, g1, g2⟩ := s.ow j hM _ (dV_at e0)
  have g2' := g2
  simp only [Own] at g2'
  obtain ⟨l, vs, B0, rfl, eA, hlen, hH, hB⟩ := g2'
  refine ⟨.ref l, g1, ρ, P, As, ds, d', _, s, e1, e2, fun w H' As' B s' t o n1 n2 n3 => ?_⟩
  have e0' : dV j (ρ.set i (some d')) = some (.lst xs) := by
    unfold dV at e0 ⊢
    rw [List.getElem?_set_ne (Ne.symm hij)]; exact e0
  obtain ⟨v', h1, h2⟩ := s'.ow j hM _ (dV_at e0')
  rw [g1] at h1
  cases h1
  simp only [Own] at h2 o
  obtain ⟨l2, vs2, B2, q1, eA2, _, hH2, hB2⟩ := h2
  cases q1
  obtain ⟨b, ws, Bw, rfl, eB, _, hHb, hBw⟩ := o
  rw [List.all_append, Bool.and_eq_true] at hfl
  obtain ⟨_, r1⟩ := hB2.flat hfl.1
  obtain ⟨_, r2⟩ := hBw.flat hfl.2
  refine ⟨l, b, vs2, ws, rfl, rfl, hH2, hHb, by rw [hB2.length, hBw.length, sizeLine_lit]; exact hl, fun np hnp => ?_⟩
  have s1 := s'.drop (fun a ha => by rw [eB] at ha; exact mut_some ((show Own X.K _ H' (.lst ys) (.ref b) (b :: Bw) from by simp only [Own]; exact ⟨b, ws, Bw, rfl, rfl, (by assumption), hHb, hBw⟩).mut a ha)) fun a e => (s'.new a e).1
  refine own_run (A := [np]) s1 (pp.step t fun _ _ => rfl) hM hL (same_new hnp) ?_ (by simp) fun a ha => by rw [List.mem_singleton.mp ha]; exact hnp
  simp only [Own]
  refine ⟨np, vs2 ++ ws, [], rfl, rfl, by rw [List.length_append, sizeLine_lit]; exact hl, upd_same, ?_⟩
  have rr : Reps X.K (fun a => ((P a ∧ a ∉ B) ∧ ¬ Ow M As' a) ∧ H' a ≠ none) H' (xs ++ ys) (vs2 ++ ws) := (r1.app r2).dom
  exact ((rr.owns (by rw [List.all_append, hfl.1, hfl.2]; rfl)).same (same_new hnp)).mono fun a h => ⟨⟨h.1.1.1, h.1.2⟩, fun z => h.2 (by rw [List.mem_singleton.mp z]; exact hnp)⟩
end
end DL

/-! Comprehensions with two fors. -/
namespace DL
open PySem PySem.Spec PyProof.Rows L2
/-- what a comprehension's loops have made: a list at L, its items own A -/
structure Acc (K : PySem.W.Frag) (R : Addr → Prop) (H1 H : Hp) (L : Addr) (yd : List D) (acc : List V) (A : List Addr) : Prop where
  at_ : H L = some (.lst acc)
  same : SameT H1 H
  own : Owns K (fun a => (R a ∧ a ∉ L :: A) ∧ H a ≠ none) H yd acc A
  nd : (L :: A).Nodup
  new : ∀ a ∈ L :: A, H1 a = none
section
variable {K : PySem.W.Frag} {R : Addr → Prop} {H1 H H' H4 : Hp} {L : Addr} {yd : List D} {acc : List V} {A B : List Addr}
theorem Acc.dom (S : Acc K R H1 H L yd acc A) : ∀ a ∈ L :: A, H a ≠ none := fun a ha => by
  rcases List.mem_cons.mp ha with z | z
  · rw [z, S.at_]; exact fun z => nomatch z
  · exact mut_some (Owns.mut S.own a z)
theorem Acc.step (S : Acc K R H1 H L yd acc A) (s : SameT H H') : Acc K R H1 H' L yd acc A :=
  ⟨s.k _ _ S.at_ trivial, S.same.trans s, (S.own.same s).mono fun a h => ⟨h.1, fun z => h.2 (s.free z)⟩, S.nd, S.new⟩
theorem Acc.push {y0 : D} {v : V} (S : Acc K R H1 H L yd acc A) (s04 : SameT H H4) (o4 : Own K (fun a => (R a ∧ a ∉ L :: A) ∧ a ∉ B) H4 y0 v B) (n4 : B.Nodup) (z4 : ∀ a ∈ B, H a = none) : Acc K R H1 (upd H4 L (.lst (acc ++ [v]))) L (yd ++ [y0]) (acc ++ [v]) (A ++ B) := by
  have hdomL := S.dom
  have hL4 : H4 L = some (.lst acc) := s04.k _ _ S.at_ trivial
  have hB : ∀ a ∈ B, a ∉ L :: A := fun a ha z => hdomL a z (z4 a ha)
  have hBL : L ∉ B := fun z => hB L z List.mem_cons_self
  have up : ∀ b o, b ≠ L → H4 b = some o → (upd H4 L (.lst (acc ++ [v]))) b = some o := fun b o hb h => by rw [upd_ne hb]; exact h
  have nL : H1 L = none := S.new L List.mem_cons_self
  refine ⟨upd_same, (S.same.trans s04).upd nL, ?_, ?_, ?_⟩
  · have o2 := o4.dom
    refine Owns.snoc ?_ ?_
    · refine o2.tr ⟨fun a h => ?_, fun a o h _ q => ?_⟩ fun a ha o h _ => up a o (fun z => hBL (z ▸ ha)) h
      · obtain ⟨⟨⟨h1, h2⟩, h3⟩, h4⟩ := h
        refine ⟨⟨h1, fun z => ?_⟩, fun z => ?_⟩
        · rcases List.mem_cons.mp z with z | z
          · exact h2 (by rw [z]; exact List.mem_cons_self)
          · rcases List.mem_append.mp z with z | z
            · exact h2 (List.mem_cons_of_mem _ z)
            · exact h3 z
        · by_cases hb : a = L
          · exact h2 (by rw [hb]; exact List.mem_cons_self)
          · rw [upd_ne hb] at z; exact h4 z
      · refine up a o (fun z => ?_) h
        rcases q with q | q
        · exact q.1.1.2 (by rw [z]; exact List.mem_cons_self)
        · rw [z, hL4] at h; cases h; exact q trivial
    · refine S.own.tr ⟨fun a h => ?_, fun a o h n q => ?_⟩ fun a ha o h n => up a o (fun z => ?_) (s04.k a o h n)
      · obtain ⟨⟨h1, h2⟩, h3⟩ := h
        have hb : a ≠ L := fun z => h2 (by rw [z]; exact List.mem_cons_self)
        refine ⟨⟨h1, fun z => ?_⟩, fun z => ?_⟩
        · rcases List.mem_cons.mp z with z | z
          · exact hb z
          · rcases List.mem_append.mp z with z | z
            · exact h2 (List.mem_cons_of_mem _ z)
            · exact h3 (z4 a z)
        · rw [upd_ne hb] at z; exact h3 (s04.free z)
      · refine up a o (fun z => ?_) (s04.k a o h n)
        rcases q with q | q
        · exact q.1.2 (by rw [z]; exact List.mem_cons_self)
        · rw [z, S.at_] at h; cases h; exact q trivial
      · rw [z] at ha; exact (List.nodup_cons.mp S.nd).1 ha
  · rw [show L :: (A ++ B) = (L :: A) ++ B from rfl, List.nodup_append]
    exact ⟨S.nd, n4, fun a ha b hb z => hB b hb (z ▸ ha)⟩
  · intro a ha
    rcases List.mem_cons.mp ha with z | z
    · rw [z]; exact nL
    · rcases List.mem_append.mp z with z | z
      · exact S.new a (List.mem_cons_of_mem _ z)
      · exact S.same.free (z4 a z)
end
/-- all that was tracked is as it was, but the list at L, and tables -/
structure Mv (L : Addr) (H H' : Hp) : Prop where
  k : ∀ b o, H b = some o → NT o → b ≠ L → H' b = some o
  tb : ∀ b q, H b = some (.tbl q) → ∃ q', H' b = some (.tbl q') ∧ (TriplesOk q.toList → TriplesOk q'.toList)
  dm : ∀ b, H b ≠ none → H' b ≠ none
theorem Mv.refl (L : Addr) (H : Hp) : Mv L H H := ⟨fun _ _ h _ _ => h, fun _ q h => ⟨q, h, id⟩, fun _ h => h⟩
theorem Mv.trans {L : Addr} {H H1 H2 : Hp} (x : Mv L H H1) (y : Mv L H1 H2) : Mv L H H2 := ⟨fun b o h n z => y.k b o (x.k b o h n z) n z, fun b q h => by
  obtain ⟨q1, h1, t1⟩ := x.tb b q h
  obtain ⟨q2, h2, t2⟩ := y.tb b q1 h1
  exact ⟨q2, h2, fun z => t2 (t1 z)⟩, fun b h => y.dm b (x.dm b h)⟩
theorem Mv.of {L : Addr} {H H' : Hp} (s : SameT H H') : Mv L H H' := ⟨fun b o h n _ => s.k b o h n, s.tb, fun b h z => h (s.free z)⟩
theorem Mv.put {L : Addr} {H : Hp} {xs : List V} {o : HO} (h : H L = some (.lst xs)) : Mv L H (upd H L o) := ⟨fun b o e _ z => by rw [upd_ne z]; exact e, fun b q e => ⟨q, by rw [upd_ne (fun z => by rw [z, h] at e; cases e)]; exact e, id⟩, fun b e z => by
  by_cases q : b = L
  · rw [q, upd_same] at z; cases z
  · rw [upd_ne q] at z; exact e z⟩
theorem Mv.free {L : Addr} {H H' : Hp} (m : Mv L H H') {b : Addr} (h : H' b = none) : H b = none := by
  by_cases q : H b = none
  · exact q
  · exact absurd h (m.dm b q)
theorem Mv.tr {L : Addr} {H H' : Hp} {xs : List V} {P Q : Addr → Prop} (m : Mv L H H') (hL : H L = some (.lst xs)) (h : ∀ a, P a → Q a) (nL : ∀ a, P a → a ≠ L) : Tr P Q H H' := ⟨h, fun a o e n q => m.k a o e n fun z => by
  rcases q with q | q
  · exact nL a q z
  · rw [z, hL] at e; cases e; exact q trivial⟩
/-- one for, from a list that stands -/
theorem lc_in [Tabs] {K : PySem.W.Frag} {vs : List Nat} {ds ys yd0 : List D} {acc0 : List V} {A0 : List Addr} {J : It} {H1 Hs : Hp} {tg : Tg} {t : Et} {fe : Ev} {Ue Ui : List Nat} {Pf : Nat → Addr → Prop} {R : Addr → Prop} {σ : L2.St} {ρ : En} {L : Addr} {Nx : Hp → Prop}
    (S0 : Acc K R H1 Hs L yd0 acc0 A0) (c : Ctx K Ui Pf (fun a => R a ∧ a ∉ L :: A0) σ ρ Hs) (hPL : ∀ i a, Pf i a → a ≠ L) (hsl : ∀ i ∈ tg.sl, i ∈ vs) (hU : ∀ i ∈ Ue, i ∈ tg.sl ∨ i ∈ Ui) (hJ : YS K (fun a => (R a ∧ a ∉ L :: A0) ∧ Hs a ≠ none) J ds Hs) (e : lcL tg t fe (wipeE ρ vs) ds = some ys) (hz : (yd0 ++ ys).length ≤ sizeLine)
    (k : ∀ H' acc' A', Mv L Hs H' → Acc K R H1 H' L (yd0 ++ ys) acc' (A0 ++ A') → (∀ a ∈ A', Hs a = none) → Nx H') :
    ∃ W : Nat → Nat → Hp → Prop, (∃ m, W 0 m Hs) ∧ ∀ i m H, W i m H →
      (J.stop i H ∧ Nx H) ∨ (J.go i H ∧ ∃ Nx1 : Hp → Prop, (∀ H', Nx1 H' → ∃ m', m' < m ∧ W (i + 1) m' H') ∧ ∀ x H', J.yld i H x H' → tg.g K x (wipe σ vs) H' fun σ2 H2 => wipe σ2 vs = wipe σ vs ∧ tT K t σ2 H2 fun b H3 =>
        if b = true then tF K Ue fe σ2 H3 fun y H4 => ∃ acc, H4 L = some (.lst acc) ∧ acc.length < sizeLine ∧ Nx1 (upd H4 L (.lst (acc ++ [y]))) else Nx1 H3) := by
  refine ⟨fun i m H => m = ds.length - i ∧ i ≤ ds.length ∧ ∃ yd r acc A', Mv L Hs H ∧ Acc K R H1 H L (yd0 ++ yd) acc (A0 ++ A') ∧ (∀ a ∈ A', Hs a = none) ∧ lcL tg t fe (wipeE ρ vs) (ds.drop i) = some r ∧ ys = yd ++ r, ⟨_, rfl, Nat.zero_le _, [], ys, acc0, [], .refl _ _, by rw [List.append_nil, List.append_nil]; exact S0, (fun _ z => nomatch z), by simpa using e, rfl⟩, ?_⟩
  rintro i m H ⟨rfl, hi, yd, r, acc, A', mv, S, nA, er, ey⟩
  have hdomL := S.dom
  have toA : ∀ a, (R a ∧ a ∉ L :: A0) → Hs a ≠ none → R a ∧ a ∉ L :: (A0 ++ A') := fun a h hd => ⟨h.1, fun z => by
    rcases List.mem_cons.mp z with z | z
    · exact h.2 (by rw [z]; exact List.mem_cons_self)
    · rcases List.mem_append.mp z with z | z
      · exact h.2 (List.mem_cons_of_mem _ z)
      · exact hd (nA a z)⟩
  have tr : Tr (fun a => (R a ∧ a ∉ L :: A0) ∧ Hs a ≠ none) (fun a => R a ∧ a ∉ L :: (A0 ++ A')) Hs H := mv.tr S0.at_ (fun a h => toA a h.1 h.2) fun a h z => h.1.2 (by rw [z]; exact List.mem_cons_self)
  have y := hJ _ _ tr
  by_cases hlt : i < ds.length
  · have hd : ds[i]? = some ds[i] := List.getElem?_eq_getElem hlt
    obtain ⟨hgo, hyl⟩ := y.1 i _ hd
    refine .inr ⟨hgo, fun H' => i < ds.length ∧ ∃ yd r acc A', Mv L Hs H' ∧ Acc K R H1 H' L (yd0 ++ yd) acc (A0 ++ A') ∧ (∀ a ∈ A', Hs a = none) ∧ lcL tg t fe (wipeE ρ vs) (ds.drop (i + 1)) = some r ∧ ys = yd ++ r, fun H' h => ⟨ds.length - (i + 1), by omega, rfl, hlt, h.2⟩, fun x H' hy => ?_⟩
    obtain ⟨s1, rx⟩ := hyl x H' hy
    rw [List.drop_eq_getElem_cons hlt] at er
    obtain ⟨ρ1, kk, e1, e2, e3⟩ := lcL_cons er
    refine Tg.ok e1 rx (by rw [wipe_length, wipeE_len, c.len]) fun σ2 q1 q2 q3 => ⟨?_, ?_⟩
    · rw [wipe_same q1 (fun j hj => q2 j fun z => hj (hsl j z))]
      exact wipe_same (by rw [wipe_length]) (fun j hj => wipe_out hj)
    have mv1 : Mv L Hs H' := mv.trans (.of s1)
    have ctx : ∀ {U : List Nat} {R' : Addr → Prop} {H2 : Hp}, SameT H' H2 → (∀ i ∈ U, i ∈ tg.sl ∨ i ∈ Ui) → (∀ a, R a ∧ a ∉ L :: (A0 ++ A') → R' a) → (∀ a, H2 a = none → R' a) → Ctx K U (fun i a => if i ∈ tg.sl then R a ∧ a ∉ L :: (A0 ++ A') else Pf i a ∧ Hs a ≠ none) R' σ2 ρ1 H2 := fun {U R' H2} s2 hU' hR hN => by
      have mv2 : Mv L Hs H2 := mv1.trans (.of s2)
      refine ⟨fun j d ej => ?_, fun j hj a ha => ?_, hN, by rw [q1, (Tg.out e1).1, wipe_length, wipeE_len, c.len], fun p hp => ?_⟩
      · by_cases hjs : j ∈ tg.sl
        · obtain ⟨v, g1, g2⟩ := q3 j hjs d ej
          refine ⟨v, g1, ?_⟩
          simp only [if_pos hjs]
          exact g2.same s2
        · rw [(Tg.out e1).2 j hjs] at ej
          obtain ⟨ej1, hjv⟩ := wipeE_some ej
          obtain ⟨v, g1, g2⟩ := c.env j d ej1
          refine ⟨v, ?_, ?_⟩
          · rw [q2 j hjs, wipe_out hjv]; exact g1
          · simp only [if_neg hjs]
            exact g2.dom.tr (mv2.tr S0.at_ (fun a h => h) fun a h => hPL j a h.1)
      · by_cases hjs : j ∈ tg.sl
        · rw [if_pos hjs] at ha
          exact hR a ha
        · rw [if_neg hjs] at ha
          rcases hU' j hj with z | z
          · exact absurd z hjs
          · exact hR a (toA a (c.use j z a ha.1) ha.2)
      · obtain ⟨q, h1, t1⟩ := c.tab p hp
        obtain ⟨q', h2, t2⟩ := mv2.tb p q h1
        exact ⟨q', h2, t2 t1⟩
    refine ⟨ρ1, _, kk, (ctx (U := []) (R' := fun _ => True) (.refl H') (fun _ z => nomatch z) (fun _ _ => trivial) fun _ _ => trivial), e2, fun H3 s3 => ?_⟩
    have s13 := s1.trans s3
    rcases e3 with ⟨rfl, y0, r', e4, e5, rfl⟩ | ⟨rfl, e5⟩
    · refine iteT ⟨ρ1, _, fun a => R a ∧ a ∉ L :: (A0 ++ A'), y0, ctx s3 hU (fun a h => h) (fun a h => ⟨?_, fun z => hdomL a z (s13.free h)⟩), e4, fun v H4 B s4 o4 n4 z4 => ?_⟩
      · have : Hs a = none := mv.free (s13.free h)
        exact (c.new a this).1
      have s04 : SameT H H4 := s13.trans s4
      have hL4 : H4 L = some (.lst acc) := s04.k _ _ S.at_ trivial
      have accl : acc.length = (yd0 ++ yd).length := S.own.length
      refine ⟨acc, hL4, ?_, hlt, yd ++ [y0], r', acc ++ [v], A' ++ B, (mv.trans (.of s04)).trans (Mv.put hL4), ?_, ?_, e5, by rw [ey, List.append_assoc]; rfl⟩
      · rw [accl]
        rw [ey] at hz
        simp only [List.length_append, List.length_cons] at hz ⊢
        omega
      · have := S.push s04 o4 n4 fun a ha => s13.free (z4 a ha)
        rw [List.append_assoc, List.append_assoc] at this
        exact this
      · intro a ha
        rcases List.mem_append.mp ha with z | z
        · exact nA a z
        · exact mv.free (s13.free (z4 a z))
    · exact iteF ⟨hlt, yd, r, acc, A', mv.trans (.of s13), S.step s13, nA, e5, ey⟩
  · have ei : i = ds.length := by omega
    subst ei
    refine .inl ⟨y.2 _ (Nat.le_refl _), ?_⟩
    rw [List.drop_length] at er
    cases er
    rw [List.append_nil] at ey
    subst ey
    exact k H acc A' mv S nA
/-- the items of a comprehension with two fors -/
def lcL2 (tg : Tg) (t : Et) (vs1 : List Nat) (g1 : Ei) (tg1 : Tg) (t1 : Et) (f : Ev) (ρ : En) : List D → Option (List D)
  | [] => some []
  | d :: ds => (tg.set d ρ).bind fun ρ1 => (t ρ1).bind fun k => if k = true then (g1 ρ1).bind fun ds1 => (lcL tg1 t1 f (wipeE ρ1 vs1) ds1).bind fun ys => (lcL2 tg t vs1 g1 tg1 t1 f ρ ds).bind fun r => some (ys ++ r) else lcL2 tg t vs1 g1 tg1 t1 f ρ ds
def dLc2 (vs : List Nat) (g : Ei) (tg : Tg) (t : Et) (vs1 : List Nat) (g1 : Ei) (tg1 : Tg) (t1 : Et) (f : Ev) : Ev := fun ρ => (g ρ).bind fun ds => (lcL2 tg t vs1 g1 tg1 t1 f (wipeE ρ vs) ds).bind fun ys => if ys.length ≤ 16777216 then some (.lst ys) else none
theorem dLc2_some {vs vs1 : List Nat} {g g1 : Ei} {tg tg1 : Tg} {t t1 : Et} {f : Ev} {ρ : En} {d : D} (h : dLc2 vs g tg t vs1 g1 tg1 t1 f ρ = some d) : ∃ ds ys, g ρ = some ds ∧ lcL2 tg t vs1 g1 tg1 t1 f (wipeE ρ vs) ds = some ys ∧ ys.length ≤ 16777216 ∧ d = .lst ys := by
  unfold dLc2 at h
  simp only [Option.bind_eq_some_iff] at h
  obtain ⟨ds, e1, ys, e2, e3⟩ := h
  by_cases q : ys.length ≤ 16777216
  · rw [if_pos q] at e3
    cases e3
    exact ⟨ds, ys, e1, e2, q, rfl⟩
  · rw [if_neg q] at e3; cases e3
theorem lcL2_cons {vs1 : List Nat} {g1 : Ei} {tg tg1 : Tg} {t t1 : Et} {f : Ev} {ρ : En} {d : D} {ds r : List D} (h : lcL2 tg t vs1 g1 tg1 t1 f ρ (d :: ds) = some r) :
    ∃ ρ1 k, tg.set d ρ = some ρ1 ∧ t ρ1 = some k ∧ ((k = true ∧ ∃ ds1 ys r', g1 ρ1 = some ds1 ∧ lcL tg1 t1 f (wipeE ρ1 vs1) ds1 = some ys ∧ lcL2 tg t vs1 g1 tg1 t1 f ρ ds = some r' ∧ r = ys ++ r') ∨ (k = false ∧ lcL2 tg t vs1 g1 tg1 t1 f ρ ds = some r)) := by
  simp only [lcL2, Option.bind_eq_some_iff] at h
  obtain ⟨ρ1, e1, k, e2, e3⟩ := h
  refine ⟨ρ1, k, e1, e2, ?_⟩
  cases k with
  | false => exact .inr ⟨rfl, by simpa using e3⟩
  | true =>
    simp only [if_true, Option.bind_eq_some_iff] at e3
    obtain ⟨ds1, e4, ys, e5, r', e6, e7⟩ := e3
    cases e7
    exact .inl ⟨rfl, ds1, ys, r', e4, e5, e6, rfl⟩
theorem lc2_run [Tabs] {K : PySem.W.Frag} {vs vs1 : List Nat} {ds ys : List D} {J : It} {H1 : Hp} {tg tg1 : Tg} {t t1 : Et} {g1 : Ei} {fe : Ev} {Ue Ui Uj : List Nat} {Pf : Nat → Addr → Prop} {R : Addr → Prop} {σ : L2.St} {ρ : En} {L : Addr} {Q : VK}
    (c : Ctx K Ui Pf R σ ρ H1) (hsl : ∀ i ∈ tg.sl, i ∈ vs) (hsl1 : ∀ i ∈ tg1.sl, i ∈ vs1) (hv1 : ∀ i ∈ vs1, i ∈ vs) (hUj : ∀ i ∈ Uj, i ∈ tg.sl ∨ i ∈ Ui) (hU : ∀ i ∈ Ue, i ∈ tg1.sl ∨ i ∈ tg.sl ∨ i ∈ Ui) (hJ : YS K (fun a => R a ∧ H1 a ≠ none) J ds H1) (nL : H1 L = none)
    (e : lcL2 tg t vs1 g1 tg1 t1 fe (wipeE ρ vs) ds = some ys) (hz : ys.length ≤ sizeLine)
    (k : ∀ v H' A, SameT H1 H' → Own K (fun a => R a ∧ a ∉ A) H' (.lst ys) v A → A.Nodup → (∀ a ∈ A, H1 a = none) → Q v H') :
    ∃ W : Nat → Nat → Hp → Prop, (∃ m, W 0 m (upd H1 L (.lst []))) ∧ ∀ i m H, W i m H →
      (J.stop i H ∧ Q (.ref L) H) ∨ (J.go i H ∧ ∃ Nx : Hp → Prop, (∀ H', Nx H' → ∃ m', m' < m ∧ W (i + 1) m' H') ∧ ∀ x H', J.yld i H x H' → tg.g K x (wipe σ vs) H' fun σ2 H2 => wipe σ2 vs = wipe σ vs ∧ tT K t σ2 H2 fun b H3 =>
        if b = true then tI K Uj g1 σ2 H3 fun J1 H4 => ∃ W1 : Nat → Nat → Hp → Prop, (∃ m, W1 0 m H4) ∧ ∀ j k H, W1 j k H →
          (J1.stop j H ∧ Nx H) ∨ (J1.go j H ∧ ∃ Nx1 : Hp → Prop, (∀ H', Nx1 H' → ∃ k', k' < k ∧ W1 (j + 1) k' H') ∧ ∀ x H', J1.yld j H x H' → tg1.g K x (wipe σ2 vs1) H' fun σ3 H5 => wipe σ3 vs1 = wipe σ2 vs1 ∧ tT K t1 σ3 H5 fun b H6 =>
            if b = true then tF K Ue fe σ3 H6 fun y H7 => ∃ acc, H7 L = some (.lst acc) ∧ acc.length < sizeLine ∧ Nx1 (upd H7 L (.lst (acc ++ [y]))) else Nx1 H6)
        else Nx H3) := by
  have S0 : Acc K R H1 (upd H1 L (.lst [])) L [] [] [] := ⟨upd_same, same_new nL, by simp only [Owns]; exact ⟨trivial, trivial⟩, by simp, fun a ha => by rw [List.mem_singleton.mp ha]; exact nL⟩
  refine ⟨fun i m H => m = ds.length - i ∧ i ≤ ds.length ∧ ∃ yd r acc A, Acc K R H1 H L yd acc A ∧ lcL2 tg t vs1 g1 tg1 t1 fe (wipeE ρ vs) (ds.drop i) = some r ∧ ys = yd ++ r, ⟨_, rfl, Nat.zero_le _, [], ys, [], [], S0, by simpa using e, rfl⟩, ?_⟩
  rintro i m H ⟨rfl, hi, yd, r, acc, A, S, er, ey⟩
  have hdomL := S.dom
  have tr : Tr (fun a => R a ∧ H1 a ≠ none) (fun a => R a ∧ a ∉ L :: A) H1 H := ⟨fun a h => ⟨h.1, fun z => h.2 (S.new a z)⟩, fun a o h n _ => S.same.k a o h n⟩
  have y := hJ _ _ tr
  by_cases hlt : i < ds.length
  · have hd : ds[i]? = some ds[i] := List.getElem?_eq_getElem hlt
    obtain ⟨hgo, hyl⟩ := y.1 i _ hd
    refine .inr ⟨hgo, fun H' => i < ds.length ∧ ∃ yd r acc A, Acc K R H1 H' L yd acc A ∧ lcL2 tg t vs1 g1 tg1 t1 fe (wipeE ρ vs) (ds.drop (i + 1)) = some r ∧ ys = yd ++ r, fun H' h => ⟨ds.length - (i + 1), by omega, rfl, hlt, h.2⟩, fun x H' hy => ?_⟩
    obtain ⟨s1, rx⟩ := hyl x H' hy
    rw [List.drop_eq_getElem_cons hlt] at er
    obtain ⟨ρ1, kk, e1, e2, e3⟩ := lcL2_cons er
    refine Tg.ok e1 rx (by rw [wipe_length, wipeE_len, c.len]) fun σ2 q1 q2 q3 => ⟨?_, ?_⟩
    · rw [wipe_same q1 (fun j hj => q2 j fun z => hj (hsl j z))]
      exact wipe_same (by rw [wipe_length]) (fun j hj => wipe_out hj)
    have sH : SameT H1 H' := S.same.trans s1
    have ctx : ∀ {U : List Nat} {R' : Addr → Prop} {H2 : Hp}, SameT H' H2 → (∀ i ∈ U, i ∈ tg.sl ∨ i ∈ Ui) → (∀ a, R a → a ∉ L :: A → R' a) → (∀ a, H2 a = none → R' a) → Ctx K U (fun i a => if i ∈ tg.sl then R a ∧ a ∉ L :: A else Pf i a ∧ H1 a ≠ none) R' σ2 ρ1 H2 := fun {U R' H2} s2 hU' hR hN => by
      refine ⟨fun j d ej => ?_, fun j hj a ha => ?_, hN, by rw [q1, (Tg.out e1).1, wipe_length, wipeE_len, c.len], fun p hp => (c.tab p hp).same (sH.trans s2)⟩
      · by_cases hjs : j ∈ tg.sl
        · obtain ⟨v, g1, g2⟩ := q3 j hjs d ej
          refine ⟨v, g1, ?_⟩
          simp only [if_pos hjs]
          exact g2.same s2
        · rw [(Tg.out e1).2 j hjs] at ej
          obtain ⟨ej1, hjv⟩ := wipeE_some ej
          obtain ⟨v, g1, g2⟩ := c.env j d ej1
          refine ⟨v, ?_, ?_⟩
          · rw [q2 j hjs, wipe_out hjv]; exact g1
          · simp only [if_neg hjs]
            exact g2.dom.same (sH.trans s2)
      · by_cases hjs : j ∈ tg.sl
        · rw [if_pos hjs] at ha
          exact hR a ha.1 ha.2
        · rw [if_neg hjs] at ha
          rcases hU' j hj with z | z
          · exact absurd z hjs
          · exact hR a (c.use j z a ha.1) fun w => ha.2 (S.new a w)
    refine ⟨ρ1, _, kk, (ctx (U := []) (R' := fun _ => True) (.refl H') (fun _ z => nomatch z) (fun _ _ _ => trivial) fun _ _ => trivial), e2, fun H3 s3 => ?_⟩
    have s13 := s1.trans s3
    rcases e3 with ⟨rfl, ds1, ys1, r', e4, e5, e6, rfl⟩ | ⟨rfl, e6⟩
    · refine iteT ⟨ρ1, _, fun a => R a ∧ a ∉ L :: A, ds1, ctx s3 hUj (fun a h h2 => ⟨h, h2⟩) (fun a h => ⟨c.new a (sH.free (s3.free h)), fun z => hdomL a z (s13.free h)⟩), e4, fun J1 H4 s4 hz1 y1 => ?_⟩
      have s14 := s13.trans s4
      have S4 := S.step s14
      have c4 : Ctx K (tg.sl ++ Ui) (fun i a => if i ∈ tg.sl then R a ∧ a ∉ L :: A else Pf i a ∧ H1 a ≠ none) (fun a => R a ∧ a ∉ L :: A) σ2 ρ1 H4 := ctx (s3.trans s4) (fun i hi => List.mem_append.mp hi) (fun a h h2 => ⟨h, h2⟩) fun a h => ⟨c.new a (S4.same.free h), fun z => S4.dom a z h⟩
      refine lc_in S4 c4 (fun j a h => ?_) hsl1 (fun j hj => (hU j hj).imp_right fun z => List.mem_append.mpr z) y1 e5 ?_ fun H5 acc' A' mv S5 nA => ⟨hlt, yd ++ ys1, r', acc', A ++ A', S5, e6, by rw [ey, List.append_assoc]⟩
      · by_cases hjs : j ∈ tg.sl
        · simp only [if_pos hjs] at h
          exact fun z => h.2 (by rw [z]; exact List.mem_cons_self)
        · simp only [if_neg hjs] at h
          exact fun z => h.2 (by rw [z]; exact nL)
      · rw [ey] at hz
        simp only [List.length_append] at hz ⊢
        omega
    · exact iteF ⟨hlt, yd, r, acc, A, S.step s13, e6, ey⟩
  · have ei : i = ds.length := by omega
    subst ei
    refine .inl ⟨y.2 _ (Nat.le_refl _), ?_⟩
    rw [List.drop_length] at er
    cases er
    rw [List.append_nil] at ey
    subst ey
    refine k (.ref L) H (L :: A) S.same ?_ S.nd S.new
    simp only [Own]
    exact ⟨L, acc, A, rfl, rfl, hz, S.at_, S.own.mono fun a h => h.1⟩
section
variable {X : Cx} {pos : Pos} {M L : List Nat} {i : Nat} {x : Str}
theorem df_lc2 [Tabs] {elt tg iter tg1 iter1 : Expr} {ifs ifs1 : List Expr} {scope : Scope} {own : List (Str × Nat)} {g g1 : Ei} {t t1 : Et} {fe : Ev} {U U1 Uj Ue : List Nat} (vs1 : List Nat) (tgd tgd1 : Tg) (hi : PI X tg iter (tI X.K U1 g)) (ok : BlkOk X.N X.env.scope scope own)
    (hg : ∀ (s : Shared) (H : Hp) (C : Addr) (cl : List (Str × Addr)) (fp : List Addr), PG (X.blk s H scope (compEnvC scope cl C X.env) fp) tg (tgd.g X.K)) (ht : ∀ (s : Shared) (H : Hp) (C : Addr) (cl : List (Str × Addr)) (fp : List Addr), PTs (X.blk s H scope (compEnvC scope cl C X.env) fp) ifs (tT X.K t))
    (hi1 : ∀ (s : Shared) (H : Hp) (C : Addr) (cl : List (Str × Addr)) (fp : List Addr), PI (X.blk s H scope (compEnvC scope cl C X.env) fp) tg1 iter1 (tI X.K Uj g1))
    (hg1 : ∀ (s : Shared) (H : Hp) (C : Addr) (cl : List (Str × Addr)) (fp : List Addr), PG (X.blk s H scope (compEnvC scope cl C X.env) fp) tg1 (tgd1.g X.K)) (ht1 : ∀ (s : Shared) (H : Hp) (C : Addr) (cl : List (Str × Addr)) (fp : List Addr), PTs (X.blk s H scope (compEnvC scope cl C X.env) fp) ifs1 (tT X.K t1))
    (he : ∀ (s : Shared) (H : Hp) (C : Addr) (cl : List (Str × Addr)) (fp : List Addr), PE (X.blk s H scope (compEnvC scope cl C X.env) fp) elt (tF X.K Ue fe)) (hN : X.N.Nodup) (hv1 : ∀ i ∈ vs1, i ∈ own.map (·.2) := by decide) (hsl : ∀ i ∈ tgd.sl, i ∈ own.map (·.2) := by decide) (hsl1 : ∀ i ∈ tgd1.sl, i ∈ vs1 := by decide)
    (h1 : ∀ i ∈ U1, i ∈ U := by decide) (hUj : ∀ i ∈ Uj, i ∈ tgd.sl ∨ i ∈ U := by decide) (hU : ∀ i ∈ Ue, i ∈ tgd1.sl ∨ i ∈ tgd.sl ∨ i ∈ U := by decide) (hc : X.calm = true := by rfl)
    (hs : ∀ x, foldedSetIterable iter X.env x = pure x := by intro _; rfl) (hs1 : ∀ env x, foldedSetIterable iter1 env x = pure x := by intro _ _; rfl) : PE X (.ListComp elt [⟨tg, iter, ifs, 0⟩, ⟨tg1, iter1, ifs1, 0⟩] scope pos) (tF X.K U (dLc2 (own.map (·.2)) g tgd t vs1 g1 tgd1 t1 fe)) := df_of fun ρ d h => by
  obtain ⟨ds, ys, e1, e2, e3, rfl⟩ := dLc2_some h
  refine ⟨_, pe_lc2 (vs1 := vs1) hc hN hi ok hv1 hg ht hi1 hg1 ht1 he hs hs1, fun σ H Pf R Q c q => ⟨ρ, Pf, R, ds, c.sub h1, e1, fun J H1 s1 hz y L nL => lc2_run (c.same s1) hsl hsl1 hv1 hUj hU y nL e2 (by rw [sizeLine_lit]; exact e3) fun v H' A s o n z => q v H' A (s1.trans s) o n fun a ha => s1.free (z a ha)⟩⟩
theorem ds_ownLc2 [Tabs] {elt tg iter tg1 iter1 : Expr} {ifs ifs1 : List Expr} {scope : Scope} {py pc : Pos} {own : List (Str × Nat)} {g g1 : Ei} {t t1 : Et} {fe : Ev} {U1 Uj Ue : List Nat} (U : List Nat) (vs1 : List Nat) (tgd tgd1 : Tg) (hi : PI X tg iter (tI X.K U1 g)) (ok : BlkOk X.N X.env.scope scope own)
    (hg : ∀ (s : Shared) (H : Hp) (C : Addr) (cl : List (Str × Addr)) (fp : List Addr), PG (X.blk s H scope (compEnvC scope cl C X.env) fp) tg (tgd.g X.K)) (ht : ∀ (s : Shared) (H : Hp) (C : Addr) (cl : List (Str × Addr)) (fp : List Addr), PTs (X.blk s H scope (compEnvC scope cl C X.env) fp) ifs (tT X.K t))
    (hi1 : ∀ (s : Shared) (H : Hp) (C : Addr) (cl : List (Str × Addr)) (fp : List Addr), PI (X.blk s H scope (compEnvC scope cl C X.env) fp) tg1 iter1 (tI X.K Uj g1))
    (hg1 : ∀ (s : Shared) (H : Hp) (C : Addr) (cl : List (Str × Addr)) (fp : List Addr), PG (X.blk s H scope (compEnvC scope cl C X.env) fp) tg1 (tgd1.g X.K)) (ht1 : ∀ (s : Shared) (H : Hp) (C : Addr) (cl : List (Str × Addr)) (fp : List Addr), PTs (X.blk s H scope (compEnvC scope cl C X.env) fp) ifs1 (tT X.K t1))
    (he : ∀ (s : Shared) (H : Hp) (C : Addr) (cl : List (Str × Addr)) (fp : List Addr), PE (X.blk s H scope (compEnvC scope cl C X.env) fp) elt (tF X.K Ue fe)) (hN : X.N.Nodup) (hsw : swapsWith (.ListComp elt [⟨tg, iter, ifs, 0⟩, ⟨tg1, iter1, ifs1, 0⟩] scope pc) (some (.Name x py)) pos.line X.env = pure true)
    (hix : X.N[i]? = some x := by rfl) (hyl : X.env.scope.names.lookup x = some .local := by rfl) (hv1 : ∀ i ∈ vs1, i ∈ own.map (·.2) := by decide) (hsl : ∀ i ∈ tgd.sl, i ∈ own.map (·.2) := by decide) (hsl1 : ∀ i ∈ tgd1.sl, i ∈ vs1 := by decide)
    (h1 : ∀ i ∈ U1, i ∈ U := by decide) (hUj : ∀ i ∈ Uj, i ∈ tgd.sl ∨ i ∈ U := by decide) (hU : ∀ i ∈ Ue, i ∈ tgd1.sl ∨ i ∈ tgd.sl ∨ i ∈ U := by decide) (hM : i ∈ M := by decide) (hUM : ∀ j ∈ U, j ∉ M := by decide) (hL : i ∉ L := by decide) (hc : X.calm = true := by rfl)
    (hs : ∀ x, foldedSetIterable iter X.env x = pure x := by intro _; rfl) (hs1 : ∀ env x, foldedSetIterable iter1 env x = pure x := by intro _ _; rfl) : PS X (.Assign [.Name x py] (.ListComp elt [⟨tg, iter, ifs, 0⟩, ⟨tg1, iter1, ifs1, 0⟩] scope pc) pos) (tS X.K M L (sSet i (dLc2 (own.map (·.2)) g tgd t vs1 g1 tgd1 t1 fe))) := ds_of fun ρ o h => by
  obtain ⟨d, e1, rfl⟩ := sSet_some h
  obtain ⟨ds, ys, e2, e3, e4, rfl⟩ := dLc2_some e1
  refine ⟨_, ps_setLc2 (vs1 := vs1) hc hN hix hyl hsw hi ok hv1 hg ht hi1 hg1 ht1 he hs hs1, fun E σ H P As s p => ?_⟩
  exact ⟨ρ, _, _, ds, (s.ctx hUM).sub h1, e2, fun J H1 s1 hz y L nL => lc2_run ((s.ctx hUM).same s1) hsl hsl1 hv1 hUj hU y nL e3 (by rw [sizeLine_lit]; exact e4) fun v H' A k o n z => own_run s p hM hL (s1.trans k) o n fun a ha => s1.free (z a ha)⟩
theorem ds_setLc2 [Tabs] {elt tg iter tg1 iter1 : Expr} {ifs ifs1 : List Expr} {scope : Scope} {py pc : Pos} {own : List (Str × Nat)} {g g1 : Ei} {t t1 : Et} {fe : Ev} {U1 Uj Ue : List Nat} (U : List Nat) (vs1 : List Nat) (tgd tgd1 : Tg) (hi : PI X tg iter (tI X.K U1 g)) (ok : BlkOk X.N X.env.scope scope own)
    (hg : ∀ (s : Shared) (H : Hp) (C : Addr) (cl : List (Str × Addr)) (fp : List Addr), PG (X.blk s H scope (compEnvC scope cl C X.env) fp) tg (tgd.g X.K)) (ht : ∀ (s : Shared) (H : Hp) (C : Addr) (cl : List (Str × Addr)) (fp : List Addr), PTs (X.blk s H scope (compEnvC scope cl C X.env) fp) ifs (tT X.K t))
    (hi1 : ∀ (s : Shared) (H : Hp) (C : Addr) (cl : List (Str × Addr)) (fp : List Addr), PI (X.blk s H scope (compEnvC scope cl C X.env) fp) tg1 iter1 (tI X.K Uj g1))
    (hg1 : ∀ (s : Shared) (H : Hp) (C : Addr) (cl : List (Str × Addr)) (fp : List Addr), PG (X.blk s H scope (compEnvC scope cl C X.env) fp) tg1 (tgd1.g X.K)) (ht1 : ∀ (s : Shared) (H : Hp) (C : Addr) (cl : List (Str × Addr)) (fp : List Addr), PTs (X.blk s H scope (compEnvC scope cl C X.env) fp) ifs1 (tT X.K t1))
    (he : ∀ (s : Shared) (H : Hp) (C : Addr) (cl : List (Str × Addr)) (fp : List Addr), PE (X.blk s H scope (compEnvC scope cl C X.env) fp) elt (tF X.K Ue fe)) (hN : X.N.Nodup) (hsw : swapsWith (.ListComp elt [⟨tg, iter, ifs, 0⟩, ⟨tg1, iter1, ifs1, 0⟩] scope pc) (some (.Name x py)) pos.line X.env = pure true)
    (hix : X.N[i]? = some x := by rfl) (hyl : X.env.scope.names.lookup x = some .local := by rfl) (hv1 : ∀ i ∈ vs1, i ∈ own.map (·.2) := by decide) (hsl : ∀ i ∈ tgd.sl, i ∈ own.map (·.2) := by decide) (hsl1 : ∀ i ∈ tgd1.sl, i ∈ vs1 := by decide)
    (h1 : ∀ i ∈ U1, i ∈ U := by decide) (hUj : ∀ i ∈ Uj, i ∈ tgd.sl ∨ i ∈ U := by decide) (hU : ∀ i ∈ Ue, i ∈ tgd1.sl ∨ i ∈ tgd.sl ∨ i ∈ U := by decide) (hM : i ∉ M := by decide) (hUM : ∀ j ∈ U, j ∉ M := by decide) (hL : i ∉ L := by decide) (hc : X.calm = true := by rfl)
    (hs : ∀ x, foldedSetIterable iter X.env x = pure x := by intro _; rfl) (hs1 : ∀ env x, foldedSetIterable iter1 env x = pure x := by intro _ _; rfl) : PS X (.Assign [.Name x py] (.ListComp elt [⟨tg, iter, ifs, 0⟩, ⟨tg1, iter1, ifs1, 0⟩] scope pc) pos) (tS X.K M L (sSet i (dLc2 (own.map (·.2)) g tgd t vs1 g1 tgd1 t1 fe))) := ds_of fun ρ o h => by
  obtain ⟨d, e1, rfl⟩ := sSet_some h
  obtain ⟨ds, ys, e2, e3, e4, rfl⟩ := dLc2_some e1
  refine ⟨_, ps_setLc2 (vs1 := vs1) hc hN hix hyl hsw hi ok hv1 hg ht hi1 hg1 ht1 he hs hs1, fun E σ H P As s p => ?_⟩
  exact ⟨ρ, _, _, ds, (s.ctx hUM).sub h1, e2, fun J H1 s1 hz y L nL => lc2_run ((s.ctx hUM).same s1) hsl hsl1 hv1 hUj hU y nL e3 (by rw [sizeLine_lit]; exact e4) fun v H' A k o n z => set_run s p hM hL (s1.trans k) (o.rep (fun a h => h.1) fun a ha => ((s.ctx hUM).same s1).new a (z a ha))⟩
end
end DL

/-! x = [..], the new list's items no lists: nothing flows. -/
namespace DL
open PySem PySem.Spec PyProof.Rows L2
theorem dNewP_some {f : Ev} {ρ : En} {d : D} (h : dNewP f ρ = some d) : f ρ = some d ∧ d.newP = true := by
  unfold dNewP at h
  cases q : f ρ with
  | none => rw [q] at h; cases h
  | some d' =>
    rw [q] at h
    simp only [Option.bind_some] at h
    by_cases hf : d'.newP = true
    · rw [if_pos hf] at h; cases h; exact ⟨rfl, hf⟩
    · rw [if_neg hf] at h; cases h
section
variable {X : Cx} {pos : Pos} {M L : List Nat} {i : Nat} {x : Str}
theorem ds_setLcP [Tabs] {elt tg iter : Expr} {ifs : List Expr} {scope : Scope} {py pc : Pos} {own : List (Str × Nat)} {g : Ei} {t : Et} {fe : Ev} {U1 Ue : List Nat} (U : List Nat) (tgd : Tg) (hi : PI X tg iter (tI X.K U1 g)) (ok : BlkOk X.N X.env.scope scope own)
    (hg : ∀ (s : Shared) (H : Hp) (C : Addr) (cl : List (Str × Addr)) (fp : List Addr), PG (X.blk s H scope (compEnvC scope cl C X.env) fp) tg (tgd.g X.K)) (ht : ∀ (s : Shared) (H : Hp) (C : Addr) (cl : List (Str × Addr)) (fp : List Addr), PTs (X.blk s H scope (compEnvC scope cl C X.env) fp) ifs (tT X.K t))
    (he : ∀ (s : Shared) (H : Hp) (C : Addr) (cl : List (Str × Addr)) (fp : List Addr), PE (X.blk s H scope (compEnvC scope cl C X.env) fp) elt (tF X.K Ue fe)) (hN : X.N.Nodup) (hsw : swapsWith (.ListComp elt [⟨tg, iter, ifs, 0⟩] scope pc) (some (.Name x py)) pos.line X.env = pure true)
    (hix : X.N[i]? = some x := by rfl) (hyl : X.env.scope.names.lookup x = some .local := by rfl) (hsl : ∀ i ∈ tgd.sl, i ∈ own.map (·.2) := by decide) (h1 : ∀ i ∈ U1, i ∈ U := by decide) (hU : ∀ i ∈ Ue, i ∈ tgd.sl ∨ i ∈ U := by decide)
    (hM : i ∉ M := by decide) (hL : i ∉ L := by decide) (hc : X.calm = true := by rfl)
    (hs : ∀ x, foldedSetIterable iter X.env x = pure x := by intro _; rfl) : PS X (.Assign [.Name x py] (.ListComp elt [⟨tg, iter, ifs, 0⟩] scope pc) pos) (tS X.K M L (sSet i (dNewP (dLc (own.map (·.2)) g tgd t fe)))) := ds_of fun ρ o h => by
  obtain ⟨d, e0, rfl⟩ := sSet_some h
  obtain ⟨e1, pu⟩ := dNewP_some e0
  obtain ⟨ds, ys, e2, e3, rfl⟩ := dLc_some e1
  refine ⟨_, ps_setLc hc hN hix hyl hsw hi ok hg ht he hs, fun E σ H P As s p => ?_⟩
  exact ⟨ρ, _, _, ds, Ctx.top s.any, e2, fun J H1 s1 hz y L nL => lc_run ((Ctx.top (U' := U) s.any).same s1) hsl hU hz y nL e3 fun v H' A k o n z => set_run s p hM hL (s1.trans k) ((o.newP (P' := fun a => P a ∧ ¬ Ow M As a) pu).rep (fun a h => h) fun a ha => ⟨s.new a (s1.free (z a ha)), fun w => mut_some (s.mut w) (s1.free (z a ha))⟩)⟩
theorem ds_ownLcP [Tabs] {elt tg iter : Expr} {ifs : List Expr} {scope : Scope} {py pc : Pos} {own : List (Str × Nat)} {g : Ei} {t : Et} {fe : Ev} {U1 Ue : List Nat} (U : List Nat) (tgd : Tg) (hi : PI X tg iter (tI X.K U1 g)) (ok : BlkOk X.N X.env.scope scope own)
    (hg : ∀ (s : Shared) (H : Hp) (C : Addr) (cl : List (Str × Addr)) (fp : List Addr), PG (X.blk s H scope (compEnvC scope cl C X.env) fp) tg (tgd.g X.K)) (ht : ∀ (s : Shared) (H : Hp) (C : Addr) (cl : List (Str × Addr)) (fp : List Addr), PTs (X.blk s H scope (compEnvC scope cl C X.env) fp) ifs (tT X.K t))
    (he : ∀ (s : Shared) (H : Hp) (C : Addr) (cl : List (Str × Addr)) (fp : List Addr), PE (X.blk s H scope (compEnvC scope cl C X.env) fp) elt (tF X.K Ue fe)) (hN : X.N.Nodup) (hsw : swapsWith (.ListComp elt [⟨tg, iter, ifs, 0⟩] scope pc) (some (.Name x py)) pos.line X.env = pure true)
    (hix : X.N[i]? = some x := by rfl) (hyl : X.env.scope.names.lookup x = some .local := by rfl) (hsl : ∀ i ∈ tgd.sl, i ∈ own.map (·.2) := by decide) (h1 : ∀ i ∈ U1, i ∈ U := by decide) (hU : ∀ i ∈ Ue, i ∈ tgd.sl ∨ i ∈ U := by decide)
    (hM : i ∈ M := by decide) (hL : i ∉ L := by decide) (hc : X.calm = true := by rfl)
    (hs : ∀ x, foldedSetIterable iter X.env x = pure x := by intro _; rfl) : PS X (.Assign [.Name x py] (.ListComp elt [⟨tg, iter, ifs, 0⟩] scope pc) pos) (tS X.K M L (sSet i (dNewP (dLc (own.map (·.2)) g tgd t fe)))) := ds_of fun ρ o h => by
  obtain ⟨d, e0, rfl⟩ := sSet_some h
  obtain ⟨e1, pu⟩ := dNewP_some e0
  obtain ⟨ds, ys, e2, e3, rfl⟩ := dLc_some e1
  refine ⟨_, ps_setLc hc hN hix hyl hsw hi ok hg ht he hs, fun E σ H P As s p => ?_⟩
  exact ⟨ρ, _, _, ds, Ctx.top s.any, e2, fun J H1 s1 hz y L nL => lc_run ((Ctx.top (U' := U) s.any).same s1) hsl hU hz y nL e3 fun v H' A k o n z => own_run s p hM hL (s1.trans k) (o.newP pu) n fun a ha => s1.free (z a ha)⟩
theorem ds_setLc2P [Tabs] {elt tg iter tg1 iter1 : Expr} {ifs ifs1 : List Expr} {scope : Scope} {py pc : Pos} {own : List (Str × Nat)} {g g1 : Ei} {t t1 : Et} {fe : Ev} {U1 Uj Ue : List Nat} (U : List Nat) (vs1 : List Nat) (tgd tgd1 : Tg) (hi : PI X tg iter (tI X.K U1 g)) (ok : BlkOk X.N X.env.scope scope own)
    (hg : ∀ (s : Shared) (H : Hp) (C : Addr) (cl : List (Str × Addr)) (fp : List Addr), PG (X.blk s H scope (compEnvC scope cl C X.env) fp) tg (tgd.g X.K)) (ht : ∀ (s : Shared) (H : Hp) (C : Addr) (cl : List (Str × Addr)) (fp : List Addr), PTs (X.blk s H scope (compEnvC scope cl C X.env) fp) ifs (tT X.K t))
    (hi1 : ∀ (s : Shared) (H : Hp) (C : Addr) (cl : List (Str × Addr)) (fp : List Addr), PI (X.blk s H scope (compEnvC scope cl C X.env) fp) tg1 iter1 (tI X.K Uj g1))
    (hg1 : ∀ (s : Shared) (H : Hp) (C : Addr) (cl : List (Str × Addr)) (fp : List Addr), PG (X.blk s H scope (compEnvC scope cl C X.env) fp) tg1 (tgd1.g X.K)) (ht1 : ∀ (s : Shared) (H : Hp) (C : Addr) (cl : List (Str × Addr)) (fp : List Addr), PTs (X.blk s H scope (compEnvC scope cl C X.env) fp) ifs1 (tT X.K t1))
    (he : ∀ (s : Shared) (H : Hp) (C : Addr) (cl : List (Str × Addr)) (fp : List Addr), PE (X.blk s H scope (compEnvC scope cl C X.env) fp) elt (tF X.K Ue fe)) (hN : X.N.Nodup) (hsw : swapsWith (.ListComp elt [⟨tg, iter, ifs, 0⟩, ⟨tg1, iter1, ifs1, 0⟩] scope pc) (some (.Name x py)) pos.line X.env = pure true)
    (hix : X.N[i]? = some x := by rfl) (hyl : X.env.scope.names.lookup x = some .local := by rfl) (hv1 : ∀ i ∈ vs1, i ∈ own.map (·.2) := by decide) (hsl : ∀ i ∈ tgd.sl, i ∈ own.map (·.2) := by decide) (hsl1 : ∀ i ∈ tgd1.sl, i ∈ vs1 := by decide)
    (h1 : ∀ i ∈ U1, i ∈ U := by decide) (hUj : ∀ i ∈ Uj, i ∈ tgd.sl ∨ i ∈ U := by decide) (hU : ∀ i ∈ Ue, i ∈ tgd1.sl ∨ i ∈ tgd.sl ∨ i ∈ U := by decide) (hM : i ∉ M := by decide) (hL : i ∉ L := by decide) (hc : X.calm = true := by rfl)
    (hs : ∀ x, foldedSetIterable iter X.env x = pure x := by intro _; rfl) (hs1 : ∀ env x, foldedSetIterable iter1 env x = pure x := by intro _ _; rfl) : PS X (.Assign [.Name x py] (.ListComp elt [⟨tg, iter, ifs, 0⟩, ⟨tg1, iter1, ifs1, 0⟩] scope pc) pos) (tS X.K M L (sSet i (dNewP (dLc2 (own.map (·.2)) g tgd t vs1 g1 tgd1 t1 fe)))) := ds_of fun ρ o h => by
  obtain ⟨d, e0, rfl⟩ := sSet_some h
  obtain ⟨e1, pu⟩ := dNewP_some e0
  obtain ⟨ds, ys, e2, e3, e4, rfl⟩ := dLc2_some e1
  refine ⟨_, ps_setLc2 (vs1 := vs1) hc hN hix hyl hsw hi ok hv1 hg ht hi1 hg1 ht1 he hs hs1, fun E σ H P As s p => ?_⟩
  exact ⟨ρ, _, _, ds, Ctx.top s.any, e2, fun J H1 s1 hz y L nL => lc2_run ((Ctx.top (U' := U) s.any).same s1) hsl hsl1 hv1 hUj hU y nL e3 (by rw [sizeLine_lit]; exact e4) fun v H' A k o n z => set_run s p hM hL (s1.trans k) ((o.newP (P' := fun a => P a ∧ ¬ Ow M As a) pu).rep (fun a h => h) fun a ha => ⟨s.new a (s1.free (z a ha)), fun w => mut_some (s.mut w) (s1.free (z a ha))⟩)⟩
theorem ds_ownLc2P [Tabs] {elt tg iter tg1 iter1 : Expr} {ifs ifs1 : List Expr} {scope : Scope} {py pc : Pos} {own : List (Str × Nat)} {g g1 : Ei} {t t1 : Et} {fe : Ev} {U1 Uj Ue : List Nat} (U : List Nat) (vs1 : List Nat) (tgd tgd1 : Tg) (hi : PI X tg iter (tI X.K U1 g)) (ok : BlkOk X.N X.env.scope scope own)
    (hg : ∀ (s : Shared) (H : Hp) (C : Addr) (cl : List (Str × Addr)) (fp : List Addr), PG (X.blk s H scope (compEnvC scope cl C X.env) fp) tg (tgd.g X.K)) (ht : ∀ (s : Shared) (H : Hp) (C : Addr) (cl : List (Str × Addr)) (fp : List Addr), PTs (X.blk s H scope (compEnvC scope cl C X.env) fp) ifs (tT X.K t))
    (hi1 : ∀ (s : Shared) (H : Hp) (C : Addr) (cl : List (Str × Addr)) (fp : List Addr), PI (X.blk s H scope (compEnvC scope cl C X.env) fp) tg1 iter1 (tI X.K Uj g1))
    (hg1 : ∀ (s : Shared) (H : Hp) (C : Addr) (cl : List (Str × Addr)) (fp : List Addr), PG (X.blk s H scope (compEnvC scope cl C X.env) fp) tg1 (tgd1.g X.K)) (ht1 : ∀ (s : Shared) (H : Hp) (C : Addr) (cl : List (Str × Addr)) (fp : List Addr), PTs (X.blk s H scope (compEnvC scope cl C X.env) fp) ifs1 (tT X.K t1))
    (he : ∀ (s : Shared) (H : Hp) (C : Addr) (cl : List (Str × Addr)) (fp : List Addr), PE (X.blk s H scope (compEnvC scope cl C X.env) fp) elt (tF X.K Ue fe)) (hN : X.N.Nodup) (hsw : swapsWith (.ListComp elt [⟨tg, iter, ifs, 0⟩, ⟨tg1, iter1, ifs1, 0⟩] scope pc) (some (.Name x py)) pos.line X.env = pure true)
    (hix : X.N[i]? = some x := by rfl) (hyl : X.env.scope.names.lookup x = some .local := by rfl) (hv1 : ∀ i ∈ vs1, i ∈ own.map (·.2) := by decide) (hsl : ∀ i ∈ tgd.sl, i ∈ own.map (·.2) := by decide) (hsl1 : ∀ i ∈ tgd1.sl, i ∈ vs1 := by decide)
    (h1 : ∀ i ∈ U1, i ∈ U := by decide) (hUj : ∀ i ∈ Uj, i ∈ tgd.sl ∨ i ∈ U := by decide) (hU : ∀ i ∈ Ue, i ∈ tgd1.sl ∨ i ∈ tgd.sl ∨ i ∈ U := by decide) (hM : i ∈ M := by decide) (hL : i ∉ L := by decide) (hc : X.calm = true := by rfl)
    (hs : ∀ x, foldedSetIterable iter X.env x = pure x := by intro _; rfl) (hs1 : ∀ env x, foldedSetIterable iter1 env x = pure x := by intro _ _; rfl) : PS X (.Assign [.Name x py] (.ListComp elt [⟨tg, iter, ifs, 0⟩, ⟨tg1, iter1, ifs1, 0⟩] scope pc) pos) (tS X.K M L (sSet i (dNewP (dLc2 (own.map (·.2)) g tgd t vs1 g1 tgd1 t1 fe)))) := ds_of fun ρ o h => by
  obtain ⟨d, e0, rfl⟩ := sSet_some h
  obtain ⟨e1, pu⟩ := dNewP_some e0
  obtain ⟨ds, ys, e2, e3, e4, rfl⟩ := dLc2_some e1
  refine ⟨_, ps_setLc2 (vs1 := vs1) hc hN hix hyl hsw hi ok hv1 hg ht hi1 hg1 ht1 he hs hs1, fun E σ H P As s p => ?_⟩
  exact ⟨ρ, _, _, ds, Ctx.top s.any, e2, fun J H1 s1 hz y L nL => lc2_run ((Ctx.top (U' := U) s.any).same s1) hsl hsl1 hv1 hUj hU y nL e3 (by rw [sizeLine_lit]; exact e4) fun v H' A k o n z => own_run s p hM hL (s1.trans k) (o.newP pu) n fun a ha => s1.free (z a ha)⟩
end
theorem aC_at0 {i : Nat} {fs : Es} : ∀ ρ ds, aC (dV i) fs ρ = some ds → ds[0]? = dV i ρ := fun ρ ds h => by
  obtain ⟨x, xs, e1, e2, rfl⟩ := aC_some h
  rw [e1]; rfl
theorem aC_atS {i q : Nat} {f : Ev} {fs : Es} (h : ∀ ρ ds, fs ρ = some ds → ds[q]? = dV i ρ) : ∀ ρ ds, aC f fs ρ = some ds → ds[q + 1]? = dV i ρ := fun ρ ds h0 => by
  obtain ⟨x, xs, e1, e2, rfl⟩ := aC_some h0
  simpa using h ρ xs e2
end DL

/-! xs.index(y), flat items. -/
namespace DL
open PySem PySem.Spec PyProof.Rows L2
def D.index (x y : D) : Option D := match x with
  | .lst xs => y.sc.bind fun v => (D.scs xs).bind fun vs => (vs.findIdx? fun z => eqV z v).map fun j => .int (j : Nat)
  | _ => none
theorem index_some {x y d : D} (h : D.index x y = some d) : ∃ xs v vs j, x = .lst xs ∧ y.sc = some v ∧ D.scs xs = some vs ∧ vs.findIdx? (fun z => eqV z v) = some j ∧ d = .int (j : Nat) := by
  unfold D.index at h
  split at h
  · simp only [Option.bind_eq_some_iff, Option.map_eq_some_iff] at h
    obtain ⟨v, e1, vs, e2, j, e3, e4⟩ := h
    exact ⟨_, v, vs, j, rfl, e1, e2, e3, e4.symm⟩
  · cases h
section
variable {X : Cx} {a b : Expr} {U U' : List Nat} {f f' : Ev} {apos cpos : Pos}
theorem de_index [Tabs] (ha : PE X a (tD X.K U f)) (hb : PE X b (tD X.K U' f')) (hp : ∀ t t', PE X a t → PA X [b] t' → PE X (.Call (.Attribute a "index" apos) [b] [] cpos) (tBM X.K "list" (rIndex X.K) t t') := by exact fun _ _ h k => pe_bm PySem.F.plainAttrs_list PySem.F.slot_list_index PySem.F.type_list_index mt_index h k)
    (hse : starEach [b] X.env = (false, eval b X.env) :: starEach [] X.env := by rfl) : PE X (.Call (.Attribute a "index" apos) [b] [] cpos) (tD X.K [] (d2 D.index f f')) := de_of fun ρ d h => by
  obtain ⟨x, y, e1, e2, e3⟩ := d2_some h
  obtain ⟨xs, v, vs, j, rfl, g1, g2, g3, rfl⟩ := index_some e3
  refine ⟨_, hp _ _ ha (pa_cons hb pa_nil hse), fun σ H Pf R Q c q => ?_⟩
  refine one c e1 fun w1 H1 s1 r1 => ?_
  simp only [Rep] at r1
  obtain ⟨l, ws, rfl, _, hl, hH, hr⟩ := r1
  refine ⟨.inl ⟨rfl, ws, SqL.of hH⟩, one (Ctx.same c s1) e2 fun w2 H2 s2 r2 => ?_⟩
  obtain ⟨rfl, f1⟩ := sc_rep g1 r2
  obtain ⟨rfl, f2⟩ := scs_rep g2 (hr.same s2)
  obtain ⟨k1, k2, k3⟩ := List.findIdx?_eq_some_iff_getElem.mp g3
  refine ⟨l, _, _, j, _, rfl, rfl, SqL.of (s2.k _ _ hH trivial), f1, f2, List.getElem?_eq_getElem k1, k2, fun m z' hm hz => ?_, q _ H2 (s1.trans s2) (by simp only [Rep])⟩
  obtain ⟨h1, h2⟩ := List.getElem?_eq_some_iff.mp hz
  have := k3 m hm
  rw [h2] at this
  simpa using this
end
end DL

/-! A range that goes down by ones. -/
namespace DL
open PySem PySem.Spec PyProof.Rows L2
def rangeDn (lo : Int) (n : Nat) : List D := (List.range n).map fun (i : Nat) => .int (lo - (i : Int))
theorem rangeDn_len (lo : Int) (n : Nat) : (rangeDn lo n).length = n := by unfold rangeDn; rw [List.length_map, List.length_range]
theorem ys_rangeDn {K : PySem.W.Frag} {R : Addr → Prop} {H : Hp} (lo : Int) (n : Nat) : YS K R (Itc lo (-1) n) (rangeDn lo n) H := fun R' H' t => by
  refine ⟨fun i d e => ?_, fun i hi => by rw [rangeDn_len] at hi; exact hi⟩
  have hi : i < n := by
    have := (List.getElem?_eq_some_iff.mp e).1
    rw [rangeDn_len] at this; exact this
  refine ⟨hi, fun x H2 y => ?_⟩
  obtain ⟨rfl, rfl⟩ := y
  refine ⟨.refl _, ?_⟩
  unfold rangeDn at e
  rw [List.getElem?_map, List.getElem?_range hi] at e
  cases e
  simp only [Rep]
  congr 1
  omega
def iRgDn (f f' f'' : Ev) : Ei := fun ρ => (f ρ).bind fun d => (f' ρ).bind fun d' => (f'' ρ).bind fun d'' => match d, d', d'' with
  | .int i, .int j, .int c => if c = -1 ∧ (-(2 ^ 62) ≤ i ∧ i < 2 ^ 62) ∧ (-(2 ^ 62) ≤ j ∧ j < 2 ^ 62) ∧ i - j ≤ 16777216 then some (rangeDn i (i - j).toNat) else none
  | _, _, _ => none
theorem threeT [Tabs] {K : PySem.W.Frag} {V0 U U' U'' : List Nat} {f f' f'' : Ev} {σ : L2.St} {H : Hp} {Pf : Nat → Addr → Prop} {R : Addr → Prop} {ρ : En} {x y z : D} {C : V → V → V → Hp → Prop} (c : Ctx K V0 Pf R σ ρ H) (e1 : f ρ = some x) (e2 : f' ρ = some y) (e3 : f'' ρ = some z)
    (h : ∀ v w u H', SameT H H' → Rep K (fun _ => True) H' x v → Rep K (fun _ => True) H' y w → Rep K (fun _ => True) H' z u → C v w u H') : tD K U f σ H fun v H1 => tD K U' f' σ H1 fun w H2 => tD K U'' f'' σ H2 fun u H3 => C v w u H3 :=
  ⟨ρ, Pf, _, x, Ctx.top c, e1, fun v H1 s1 r1 => ⟨ρ, Pf, _, y, Ctx.top (c.same s1), e2, fun w H2 s2 r2 => ⟨ρ, Pf, _, z, Ctx.top ((c.same s1).same s2), e3, fun u H3 s3 r3 => h v w u H3 ((s1.trans s2).trans s3) (r1.same (s2.trans s3)) (r2.same s3) r3⟩⟩⟩
theorem di_range3 [Tabs] {X : Cx} {a b c : Expr} {U U' U'' : List Nat} {f f' f'' : Ev} {p pos : Pos} {tg : Expr} (hm : X.mg "range" = none) (ha : PE X a (tD X.K U f)) (hb : PE X b (tD X.K U' f')) (hc : PE X c (tD X.K U'' f'')) (hg : Gl X "range" := by rfl)
    (hs : starEach [a, b, c] X.env = (false, eval a X.env) :: starEach [b, c] X.env := by rfl) (hs2 : starEach [b, c] X.env = (false, eval b X.env) :: starEach [c] X.env := by rfl) (hs3 : starEach [c] X.env = [(false, eval c X.env)] := by rfl) (hpl : (backTo pos (starEach [b, c] X.env)).any (·.1) = false := by rfl) :
    PI X tg (.Call (.Name "range" p) [a, b, c] [] pos) (tI X.K [] (iRgDn f f' f'')) := ⟨fun pins s σ H Rr I ⟨ρ, Pf, R, ds, cc, e, k⟩ => by
  unfold iRgDn at e
  cases q : f ρ with
  | none => rw [q] at e; cases e
  | some d =>
    cases q' : f' ρ with
    | none => rw [q, q'] at e; cases e
    | some d' =>
      cases q'' : f'' ρ with
      | none => rw [q, q', q''] at e; cases e
      | some d'' =>
        rw [q, q', q''] at e
        simp only [Option.bind_some] at e
        split at e
        · rename_i i j c0
          split at e
          · rename_i hj
            cases e
            obtain ⟨rfl, hj⟩ := hj
            refine (pi_range3 hg hm (pa_cons ha (pa_cons hb (pa_cons hc pa_nil hs3) (by rw [hs2, hs3])) (by rw [hs, hs2, hs3])) hs hpl).run pins s σ H Rr I (threeT cc q q' q'' fun v w u H' s' r r' r'' => ?_)
            simp only [Rep] at r r' r''
            subst r; subst r'; subst r''
            exact ⟨i, j, -1, _, rfl, RgC.neg hj.1.1 hj.1.2 hj.2.1.1 hj.2.1.2, k _ H' s' (by rw [rangeDn_len, sizeLine_lit]; omega) (ys_rangeDn _ _)⟩
          · cases e
        · cases e⟩
end DL

/-! Running the partial functions: paths, fields, methods, while. -/
namespace DL
open PySem PySem.Spec PyProof.Rows L2
section
variable {F G H : Fs} {ρ ρ' : En} {Q : Out → Prop} {i j n : Nat} {f f' f'' : Ev} {fs : Es} {t t' t'' : Et} {g g' : Ei} {C m fl : Str} {pth : Ep}
@[simp] theorem pSl_ap : pSl ρ = some [] := rfl
@[simp] theorem pFld_ap : pFld i C fl pth ρ = (pth ρ).bind fun p => (dV i ρ).bind fun d => (d.at p).bind fun s => match s with
  | .obj C' ns _ => if C' = C then (fIdx ns fl).map fun j => p ++ [j] else none
  | _ => none := rfl
@[simp] theorem pIx_ap : pIx i pth f ρ = (pth ρ).bind fun p => (dV i ρ).bind fun d => (d.at p).bind fun s => (f ρ).bind fun k => (s.place k).map fun j => p ++ [j] := rfl
@[simp] theorem dFld_ap : dFld C fl f ρ = (f ρ).bind fun d => if d.cls = some C then d.fld fl else none := rfl
@[simp] theorem dMet_ap {g : List D → Option D} : dMet C m g f fs ρ = (f ρ).bind fun d => if d.hasM C m = true then (fs ρ).bind fun ds => g (d :: ds) else none := rfl
@[simp] theorem dMake_ap {g : List D → Option (D × D)} : dMake C g fs ρ = (fs ρ).bind fun ds => (g (.obj C [] [] :: ds)).bind fun y => match y.2 with | .non => some y.1 | _ => none := rfl
@[simp] theorem dCallT_ap {g : List D → Option (D × D)} : dCallT g fs ρ = (fs ρ).bind fun ds => (g ds).map (·.2) := rfl
theorem ok_bind {α : Type} {x : Option α} {k : α → Option Out} {Q : Out → Prop} : Ok (x.bind k) Q ↔ ∃ a, x = some a ∧ Ok (k a) Q := by
  cases x with
  | none => simp
  | some a => simp
theorem ok_map {α : Type} {x : Option α} {k : α → Out} {Q : Out → Prop} : Ok (x.map k) Q ↔ ∃ a, x = some a ∧ Q (k a) := by
  cases x with
  | none => simp
  | some a => simp
/-- a path's list -/
theorem ok_papp : Ok (sPApp i pth f ρ) Q ↔ ∃ d p ds y d', dV i ρ = some d ∧ pth ρ = some p ∧ d.at p = some (.lst ds) ∧ f ρ = some y ∧ ds.length < 16777216 ∧ d.put p (.lst (ds ++ [y])) = some d' ∧ Q (.nx (ρ.set i (some d'))) := by
  constructor
  · rintro ⟨o, e, q⟩
    obtain ⟨d, p, ds, y, d', e1, e2, e3, e4, e5, e6, rfl⟩ := sPApp_some e
    exact ⟨d, p, ds, y, d', e1, e2, e3, e4, e5, e6, q⟩
  · rintro ⟨d, p, ds, y, d', e1, e2, e3, e4, e5, e6, q⟩
    refine ⟨_, ?_, q⟩
    unfold sPApp
    rw [e1, Option.bind_some, e2, Option.bind_some, e3, Option.bind_some]
    simp only [e4, Option.bind_some, e5, if_true, e6, Option.map_some]
theorem ok_pset {fk fv : Ev} : Ok (sPSet i pth fk fv ρ) Q ↔ ∃ y d p c k c' d', fv ρ = some y ∧ dV i ρ = some d ∧ pth ρ = some p ∧ d.at p = some c ∧ fk ρ = some k ∧ c.setIt k y = some c' ∧ d.put p c' = some d' ∧ Q (.nx (ρ.set i (some d'))) := by
  constructor
  · rintro ⟨o, e, q⟩
    obtain ⟨y, d, p, c, k, c', d', e1, e2, e3, e4, e5, e6, e7, rfl⟩ := sPSet_some e
    exact ⟨y, d, p, c, k, c', d', e1, e2, e3, e4, e5, e6, e7, q⟩
  · rintro ⟨y, d, p, c, k, c', d', e1, e2, e3, e4, e5, e6, e7, q⟩
    exact ⟨_, by unfold sPSet; simp only [e1, e2, e3, e4, e5, e6, e7, Option.bind_some, Option.map_some], q⟩
theorem ok_pfld {fv : Ev} : Ok (sPFld i C fl pth fv ρ) Q ↔ ∃ y d p c c' d', fv ρ = some y ∧ dV i ρ = some d ∧ pth ρ = some p ∧ d.at p = some c ∧ D.setF C fl c y = some c' ∧ d.put p c' = some d' ∧ Q (.nx (ρ.set i (some d'))) := by
  constructor
  · rintro ⟨o, e, q⟩
    obtain ⟨y, d, p, c, c', d', e1, e2, e3, e4, e6, e7, rfl⟩ := sPFld_some e
    exact ⟨y, d, p, c, c', d', e1, e2, e3, e4, e6, e7, q⟩
  · rintro ⟨y, d, p, c, c', d', e1, e2, e3, e4, e6, e7, q⟩
    exact ⟨_, by unfold sPFld; simp only [e1, e2, e3, e4, e6, e7, Option.bind_some, Option.map_some], q⟩
theorem ok_prem : Ok (sPRem i pth f ρ) Q ↔ ∃ d p c y c' d', dV i ρ = some d ∧ pth ρ = some p ∧ d.at p = some c ∧ f ρ = some y ∧ c.rem y = some c' ∧ d.put p c' = some d' ∧ Q (.nx (ρ.set i (some d'))) := by
  constructor
  · rintro ⟨o, e, q⟩
    obtain ⟨d, p, c, y, c', d', e1, e2, e3, e4, e5, e6, rfl⟩ := sPRem_some e
    exact ⟨d, p, c, y, c', d', e1, e2, e3, e4, e5, e6, q⟩
  · rintro ⟨d, p, c, y, c', d', e1, e2, e3, e4, e5, e6, q⟩
    exact ⟨_, by unfold sPRem; simp only [e1, e2, e3, e4, e5, e6, Option.bind_some, Option.map_some], q⟩
theorem ok_met {g : List D → Option (D × D)} : Ok (sMet i C m g fs ρ) Q ↔ ∃ d ds d' r, dV i ρ = some d ∧ d.hasM C m = true ∧ fs ρ = some ds ∧ g (d :: ds) = some (d', r) ∧ Q (.nx (ρ.set i (some d'))) := by
  constructor
  · rintro ⟨o, e, q⟩
    obtain ⟨d, ds, d', r, e1, e2, e3, e4, rfl⟩ := sMet_some e
    exact ⟨d, ds, d', r, e1, e2, e3, e4, q⟩
  · rintro ⟨d, ds, d', r, e1, e2, e3, e4, q⟩
    exact ⟨_, by unfold sMet; simp only [e1, e2, e3, e4, Option.bind_some, Option.map_some, if_true], q⟩
theorem ok_callM {g : List D → Option (D × D)} : Ok (sCallM i g fs ρ) Q ↔ ∃ ds d' r, fs ρ = some ds ∧ g ds = some (d', r) ∧ Q (.nx (ρ.set i (some d'))) := by
  unfold sCallM
  rw [ok_bind]
  constructor
  · rintro ⟨ds, e1, h⟩
    obtain ⟨⟨d', r⟩, e2, q⟩ := ok_map.mp h
    exact ⟨ds, d', r, e1, e2, q⟩
  · rintro ⟨ds, d', r, e1, e2, q⟩
    exact ⟨ds, e1, ok_map.mpr ⟨_, e2, q⟩⟩
theorem ok_catM {g : List D → Option (D × D)} : Ok (sCatM j i g fs ρ) Q ↔ ∃ xs ds d' ys, dV j ρ = some (.lst xs) ∧ fs ρ = some ds ∧ g ds = some (d', .lst ys) ∧ xs.length + ys.length ≤ 16777216 ∧ (xs ++ ys).all D.flat = true ∧ Q (.nx ((ρ.set i (some d')).set j (some (.lst (xs ++ ys))))) := by
  constructor
  · rintro ⟨o, e, q⟩
    obtain ⟨xs, ds, d', ys, e1, e2, e3, e4, e5, rfl⟩ := sCatM_some e
    exact ⟨xs, ds, d', ys, e1, e2, e3, e4, e5, q⟩
  · rintro ⟨xs, ds, d', ys, e1, e2, e3, e4, e5, q⟩
    refine ⟨_, ?_, q⟩
    unfold sCatM
    rw [e1, Option.bind_some]
    simp only [e2, e3, Option.bind_some]
    rw [if_pos ⟨e4, e5⟩]
theorem ok_fld {q : Ev} {x y : D} (h : q ρ = some x) (k : x = y) : q ρ = some y := by rw [h, k]
/-- a loop by a measure -/
theorem ok_wh {n : Nat} {fg : List Nat} {B : Fs} (I : Nat → En → Prop) (k : Nat) (hk : k < n) (h0 : I k ρ)
    (hs : ∀ k ρ, I k ρ → ∃ b, t (fgt fg ρ) = some b ∧ (b = true → Ok (B (fgt fg ρ)) fun o => match o with | .nx ρ2 => ∃ k', k' < k ∧ I k' ρ2 | .ct ρ2 => ∃ k', k' < k ∧ I k' ρ2 | .br ρ2 => Q (.nx (fgt fg ρ2)) | .rt d ρ2 => Q (.rt d ρ2)) ∧ (b = false → Q (.nx (fgt fg ρ)))) : Ok (sWh n fg t B ρ) Q := by
  unfold sWh
  induction n generalizing k ρ with
  | zero => omega
  | succ n ih =>
    obtain ⟨b, e1, hT, hF⟩ := hs k ρ h0
    simp only [whN, e1, Option.bind_some]
    cases b with
    | false => simpa using hF rfl
    | true =>
      obtain ⟨o, e2, q⟩ := hT rfl
      simp only [if_true, e2, Option.bind_some]
      cases o with
      | nx ρ2 => obtain ⟨k', hk', h'⟩ := q; exact ih k' (by omega) h'
      | ct ρ2 => obtain ⟨k', hk', h'⟩ := q; exact ih k' (by omega) h'
      | br ρ2 => exact ok_some.mpr q
      | rt d ρ2 => exact ok_some.mpr q
theorem seq_wh {n : Nat} {fg : List Nat} {B : Fs} (I : Nat → En → Prop) (k : Nat) (hk : k < n) (h0 : I k ρ)
    (hs : ∀ k ρ, I k ρ → ∃ b, t (fgt fg ρ) = some b ∧ (b = true → Ok (B (fgt fg ρ)) fun o => match o with | .nx ρ2 => ∃ k', k' < k ∧ I k' ρ2 | .ct ρ2 => ∃ k', k' < k ∧ I k' ρ2 | .br ρ2 => Ok (G (fgt fg ρ2)) Q | .rt d ρ2 => Q (.rt d ρ2)) ∧ (b = false → Ok (G (fgt fg ρ)) Q)) : Ok (sSeq (sWh n fg t B) G ρ) Q :=
  seq_ok.mpr (ok_wh I k hk h0 hs)
theorem callM_eq {n m p : Nat} {F : Fs} {ds : List D} {d r : D} (hl : ds.length = n) (h : Ok (F (ds.map some ++ List.replicate m none)) fun o => match o with | .rt r' ρ => dV p ρ = some d ∧ r' = r | .nx ρ => dV p ρ = some d ∧ r = .non | _ => False) : callM n m p F ds = some (d, r) := by
  obtain ⟨o, e, q⟩ := h
  unfold callM
  rw [if_pos hl, e]
  cases o with
  | rt r' ρ => simp only [q.1, q.2, Option.map_some]
  | nx ρ => simp only [q.1, q.2, Option.map_some]
  | br ρ => exact q.elim
  | ct ρ => exact q.elim
theorem call_ok {n m : Nat} {F : Fs} {ds : List D} {d : D} (hl : ds.length = n) (h : Ok (F (ds.map some ++ List.replicate m none)) fun o => match o with | .rt d' _ => d' = d | .nx _ => d = .non | _ => False) : callF n m F ds = some d := by
  obtain ⟨o, e, q⟩ := h
  unfold callF
  rw [if_pos hl, e]
  cases o with
  | rt d' ρ => simp only [q]
  | nx ρ => simp only [q]
  | br ρ => exact q.elim
  | ct ρ => exact q.elim
/-! comprehensions that keep some -/
theorem lcL_filter {α : Type} {tg : Tg} (enc enc' : α → D) (p : α → Bool) : ∀ (xs : List α), (∀ a ∈ xs, ∃ ρ1, tg.set (enc a) ρ = some ρ1 ∧ t ρ1 = some (p a) ∧ (p a = true → f ρ1 = some (enc' a))) → lcL tg t f ρ (xs.map enc) = some ((xs.filter p).map enc')
  | [], _ => rfl
  | x :: xs, h => by
    obtain ⟨ρ1, e1, e2, e3⟩ := h x List.mem_cons_self
    have ih := lcL_filter enc enc' p xs fun a ha => h a (List.mem_cons_of_mem _ ha)
    cases hp : p x with
    | true => simp only [List.map_cons, lcL, e1, e2, hp, e3 hp, Option.bind_some, if_true, ih, List.filter_cons]
    | false =>
      simp only [List.map_cons, lcL, e1, e2, hp, Option.bind_some, ih, List.filter_cons]
      rfl
theorem dLc_filter {α : Type} {vs : List Nat} {tg : Tg} (enc enc' : α → D) (p : α → Bool) (xs : List α) (hg : g ρ = some (xs.map enc)) (h : ∀ a ∈ xs, ∃ ρ1, tg.set (enc a) (wipeE ρ vs) = some ρ1 ∧ t ρ1 = some (p a) ∧ (p a = true → f ρ1 = some (enc' a))) : dLc vs g tg t f ρ = some (.lst ((xs.filter p).map enc')) := by
  unfold dLc
  rw [hg, Option.bind_some, lcL_filter enc enc' p xs h]
  rfl
theorem lcL2_map {α β : Type} {tg tg1 : Tg} {vs1 : List Nat} {g1 : Ei} {t1 : Et} (enc : α → D) (enc1 enc' : β → D) (sub : α → List β) : ∀ (xs : List α), (∀ a ∈ xs, ∃ ρ1, tg.set (enc a) ρ = some ρ1 ∧ t ρ1 = some true ∧ g1 ρ1 = some ((sub a).map enc1) ∧ ∀ b ∈ sub a, ∃ ρ2, tg1.set (enc1 b) (wipeE ρ1 vs1) = some ρ2 ∧ t1 ρ2 = some true ∧ f ρ2 = some (enc' b)) →
    lcL2 tg t vs1 g1 tg1 t1 f ρ (xs.map enc) = some ((xs.flatMap sub).map enc')
  | [], _ => rfl
  | x :: xs, h => by
    obtain ⟨ρ1, e1, e2, e3, e4⟩ := h x List.mem_cons_self
    simp only [List.map_cons, lcL2, e1, e2, e3, Option.bind_some, if_true, lcL_map enc1 enc' _ e4, lcL2_map enc enc1 enc' sub xs fun a ha => h a (List.mem_cons_of_mem _ ha), List.flatMap_cons, List.map_append]
theorem dLc2_map {α β : Type} {vs vs1 : List Nat} {tg tg1 : Tg} {g1 : Ei} {t1 : Et} (enc : α → D) (enc1 enc' : β → D) (sub : α → List β) (xs : List α) (hg : g ρ = some (xs.map enc)) (hl : (xs.flatMap sub).length ≤ 16777216)
    (h : ∀ a ∈ xs, ∃ ρ1, tg.set (enc a) (wipeE ρ vs) = some ρ1 ∧ t ρ1 = some true ∧ g1 ρ1 = some ((sub a).map enc1) ∧ ∀ b ∈ sub a, ∃ ρ2, tg1.set (enc1 b) (wipeE ρ1 vs1) = some ρ2 ∧ t1 ρ2 = some true ∧ f ρ2 = some (enc' b)) :
    dLc2 vs g tg t vs1 g1 tg1 t1 f ρ = some (.lst ((xs.flatMap sub).map enc')) := by
  unfold dLc2
  rw [hg, Option.bind_some, lcL2_map enc enc1 enc' sub xs h, Option.bind_some, if_pos (by rw [List.length_map]; exact hl)]
end
/-! sorted, by any order -/
theorem ltT_refl : ∀ {ds : List D}, PyData.canLayAll0 (D.pys ds) = true → D.ltT ds ds = some false
  | [], _ => rfl
  | d :: ds, h => by
    simp only [D.pys, PyData.canLayAll0, Bool.and_eq_true] at h
    rw [D.ltT, if_pos (PySem.SeqAt.eqv_refl d.py h.1), ltT_refl h.2]
theorem shaped_of {d : D} (h : d.py.canLay0 = true) (hd : d.py.depth ≤ 64) : d.shaped = true := by
  unfold D.shaped SeqAt.shaped
  rw [h, decide_eq_true hd]; rfl
theorem lay_map {α : Type} {enc : α → D} : ∀ {xs : List α}, (∀ x ∈ xs, (enc x).py.canLay0 = true) → PyData.canLayAll0 (D.pys (xs.map enc)) = true
  | [], _ => rfl
  | x :: xs, h => by simp only [List.map_cons, D.pys, PyData.canLayAll0, h x List.mem_cons_self, lay_map fun y hy => h y (List.mem_cons_of_mem _ hy), Bool.and_self]
theorem plains_map {α : Type} {enc : α → D} (h : ∀ x, (enc x).plain = true) : ∀ xs : List α, D.plains (xs.map enc) = true
  | [] => rfl
  | x :: xs => by simp only [List.map_cons, D.plains, h x, plains_map h xs, Bool.and_self]
theorem depth_map {α : Type} {enc : α → D} {n : Nat} (h : ∀ x, (enc x).py.depth ≤ n) : ∀ xs : List α, PyData.depthAll (D.pys (xs.map enc)) ≤ n
  | [] => by simp [D.pys, PyData.depthAll]
  | x :: xs => by
    have := depth_map h xs
    have := h x
    simp only [List.map_cons, D.pys, PyData.depthAll]
    omega
theorem sorted_swo {α : Type} (enc : α → D) (lt : α → α → Bool) (O : SrtO.Swo lt) (kk : Nat) (xs : List α) (hp : ∀ x ∈ xs, (enc x).plain = true ∧ (enc x).shaped = true ∧ (enc x).kd = some kk) (hlt : ∀ x ∈ xs, ∀ y ∈ xs, D.ltI (enc x) (enc y) = some (lt x y)) :
    D.sorted [.lst (xs.map enc)] = some (.lst ((isort lt xs).map enc)) := by
  have hr : ∀ y ∈ xs, D.rank (xs.map enc) (enc y) = (xs.filter fun x => lt x y).length := fun y hy => by
    unfold D.rank
    rw [List.filter_map, List.length_map]
    congr 1
    refine List.filter_congr fun x hx => ?_
    show (D.ltI (enc x) (enc y) == some true) = _
    rw [hlt x hx y hy]
    cases lt x y <;> rfl
  have mono : ∀ x y : α, lt y x = false → (xs.filter fun z => lt z x).length ≤ (xs.filter fun z => lt z y).length := fun x y h => by
    rw [← List.countP_eq_length_filter, ← List.countP_eq_length_filter]
    exact List.countP_mono_left fun z _ q => O.ltle q h
  have smono : ∀ x ∈ xs, ∀ y : α, lt x y = true → (xs.filter fun z => lt z x).length < (xs.filter fun z => lt z y).length := fun x hx y h => by
    obtain ⟨s, t, rfl⟩ := List.append_of_mem hx
    have h1 : ∀ l : List α, (l.filter fun z => lt z x).length ≤ (l.filter fun z => lt z y).length := fun l => by
      rw [← List.countP_eq_length_filter, ← List.countP_eq_length_filter]
      exact List.countP_mono_left fun z _ q => O.ltle q (O.asym x y h)
    have a := h1 s
    have b := h1 t
    have e1 : lt x x = false := O.refl x
    simp only [List.filter_append, List.filter_cons, e1, h, List.length_append, if_true, List.length_cons]
    simp
    omega
  have hrk : ∀ x ∈ xs, ∀ y ∈ xs, decide (D.rank (xs.map enc) (enc x) < D.rank (xs.map enc) (enc y)) = lt x y := fun x hx y hy => by
    rw [hr x hx, hr y hy]
    cases h : lt x y with
    | true => rw [decide_eq_true (smono x hx y h)]
    | false =>
      have := mono y x h
      rw [decide_eq_false (by omega)]
  have hso : D.sortable (xs.map enc) = true := by
    unfold D.sortable
    rw [Bool.and_eq_true, List.all_eq_true, List.all_eq_true]
    refine ⟨fun d hd => ?_, fun d hd => ?_⟩
    · obtain ⟨x, hx, rfl⟩ := List.mem_map.mp hd
      rw [(hp x hx).1, (hp x hx).2.1]; rfl
    · obtain ⟨x, hx, rfl⟩ := List.mem_map.mp hd
      rw [List.all_eq_true]
      intro e he
      obtain ⟨y, hy, rfl⟩ := List.mem_map.mp he
      rw [(hp x hx).2.2, (hp y hy).2.2, hlt x hx y hy, hrk x hx y hy]
      simp
  unfold D.sorted
  simp only
  rw [if_pos hso, isort_map]
  congr 3
  exact isort_congr fun x hx y hy => hrk x hx y hy
theorem swo_key {α : Type} (k : α → Int) : SrtO.Swo fun x y => decide (k x < k y) := ⟨fun x y h => by simp at h ⊢; omega, fun x y z h1 h2 => by simp at h1 h2 ⊢; omega⟩
theorem swo_key2 {α : Type} (k k' : α → Int) : SrtO.Swo fun x y => decide (k x < k y ∨ (k x = k y ∧ k' x < k' y)) := ⟨fun x y h => by simp at h ⊢; omega, fun x y z h1 h2 => by simp at h1 h2 ⊢; omega⟩
end DL

namespace DL
open PySem PySem.Spec PyProof.Rows L2
def topS (i : Nat) : Stmt := PySem.Challenge.pw_eventsteps_k51_work_and_bounds.main.body.getD i (.Pass ⟨0, 0, 0, 0⟩)
abbrev s_station_names : Stmt := topS 1
theorem sc_station_names : FnScope ["some_model", "station"] ["some_model"] (defScope s_station_names) := ⟨rfl, rfl, rfl, by decide +kernel, rfl, by decide +kernel, by decide +kernel⟩
def B_station_names : Fs :=
 sRet (dLc [1] (dItems (d2 D.idx (dV 0) (dC (.int 0)))) (.nm 1) (tYs) (dFlat (d2 D.idx (dV 1) (dC (.int 0)))))
def F_station_names : List D → Option D := callF 1 1 B_station_names
abbrev s_route_of : Stmt := topS 2
theorem sc_route_of : FnScope ["some_model", "job", "name", "priority", "route"] ["some_model", "job"] (defScope s_route_of) := ⟨rfl, rfl, rfl, by decide +kernel, rfl, by decide +kernel, by decide +kernel⟩
def B_route_of : Fs :=
 sSeq (sFor [2, 3, 4] (dItems (d2 D.idx (dV 0) (dC (.int 1)))) (.tp [2, 3, 4])
 (sIf (t2 D.eqB (dV 2) (d2 D.idx (d2 D.idx (d2 D.idx (dV 0) (dC (.int 3))) (dV 1)) (dC (.int 1))))
 (sRet (dFlat (dV 4)))
 (sNil)))
 (sRet (dFlat (dN D.mkT (aN))))
def F_route_of : List D → Option D := callF 2 3 B_route_of
abbrev s_priority_of : Stmt := topS 3
theorem sc_priority_of : FnScope ["some_model", "job", "name", "priority", "route"] ["some_model", "job"] (defScope s_priority_of) := ⟨rfl, rfl, rfl, by decide +kernel, rfl, by decide +kernel, by decide +kernel⟩
def B_priority_of : Fs :=
 sRet (dFlat (d2 D.idx (dLc [2, 3, 4] (dItems (d2 D.idx (dV 0) (dC (.int 1)))) (.tp [2, 3, 4]) (t2 D.eqB (dV 2) (d2 D.idx (d2 D.idx (d2 D.idx (dV 0) (dC (.int 3))) (dV 1)) (dC (.int 1)))) (dFlat (dV 3))) (dC (.int 0))))
def F_priority_of : List D → Option D := callF 2 3 B_priority_of
abbrev s_is_paused : Stmt := topS 4
theorem sc_is_paused : FnScope ["some_model", "name", "time"] ["some_model", "name", "time"] (defScope s_is_paused) := ⟨rfl, rfl, rfl, by decide +kernel, rfl, by decide +kernel, by decide +kernel⟩
def B_is_paused : Fs :=
 sRet (dPz (d2 D.idx (dV 0) (dC (.int 2))) 1 2)
def F_is_paused : List D → Option D := callF 3 0 B_is_paused
abbrev s_first_state : Stmt := topS 9
theorem sc_first_state : FnScope ["some_model", "empty", "station", "job"] ["some_model"] (defScope s_first_state) := ⟨rfl, rfl, rfl, by decide +kernel, rfl, by decide +kernel, by decide +kernel⟩
def B_first_state : Fs :=
 sSeq (sSet 1 (dN D.tupOf (aC (dLc [2] (dItems (d2 D.idx (dV 0) (dC (.int 0)))) (.nm 2) (tYs) (dFlat (dN D.mkT (aN)))) (aN))))
 (sRet (dFlat (dN D.mkT (aC (dC (.int 0)) (aC (dV 1) (aC (dV 1) (aC (dN D.mkT (aN)) (aC (dN D.tupOf (aC (dLc [3] (dItems (d2 D.idx (dV 0) (dC (.int 3)))) (.nm 3) (tYs) (dFlat (dC (.int (-1))))) (aN))) (aN)))))))))
def F_first_state : List D → Option D := callF 1 3 B_first_state
abbrev s_next_time : Stmt := topS 10
theorem sc_next_time : FnScope ["some_model", "state", "time", "_", "serving", "times", "row", "end", "job", "name", "begin", "later", "other"] ["some_model", "state"] (defScope s_next_time) := ⟨rfl, rfl, rfl, by decide +kernel, rfl, by decide +kernel, by decide +kernel⟩
def B_next_time : Fs :=
 sSeq (sTgt (.tp [2, 3, 4, 3, 3]) (dV 1))
 (sSeq (sSet 5 (dLc2 [6, 7, 8] (dItems (dV 4)) (.nm 6) (tYs) [7, 8] (dItems (dV 6)) (.tp [7, 8]) (tYs) (dFlat (dV 7))))
 (sSeq (sExt 5 (dLc [8] (dItems (d2 D.idx (dV 0) (dC (.int 3)))) (.nm 8) (tYs) (dFlat (d2 D.idx (dV 8) (dC (.int 0))))))
 (sSeq (sExt 5 (dLc [9, 10, 7] (dItems (d2 D.idx (dV 0) (dC (.int 2)))) (.tp [9, 10, 7]) (tYs) (dFlat (dV 7))))
 (sSeq (sSet 11 (dNewP (dLc [12] (dItems (dV 5)) (.nm 12) (t2 D.geB (dV 12) (dV 2)) (dFlat (dV 12)))))
 (sSeq (sIf (t2 D.eqB (dN D.len (aC (dV 11) (aN))) (dC (.int 0)))
 (sRet (dFlat (dC .non)))
 (sNil))
 (sRet (dFlat (dN D.min1 (aC (dV 11) (aN))))))))))
def F_next_time : List D → Option D := callF 2 11 B_next_time
abbrev s_Moment___init__ : Stmt := inClass (topS 11) 0
theorem sc_Moment___init__ : FnScope ["self", "some_model", "state", "row"] ["self", "some_model", "state"] (defScope s_Moment___init__) := ⟨rfl, rfl, rfl, by decide +kernel, rfl, by decide +kernel, by decide +kernel⟩
def B_Moment___init__ : Fs :=
 sSeq (sPFld 0 "Moment" "network" (pSl) (dFlat (dV 1)))
 (sSeq (sPFld 0 "Moment" "names" (pSl) (dN F_station_names (aC (dV 1) (aN))))
 (sSeq (sPFld 0 "Moment" "time" (pSl) (dFlat (d2 D.idx (dV 2) (dC (.int 0)))))
 (sSeq (sPFld 0 "Moment" "waiting" (pSl) (dLc [3] (dItems (d2 D.idx (dV 2) (dC (.int 1)))) (.nm 3) (tYs) (dN D.lstOf (aC (dV 3) (aN)))))
 (sSeq (sPFld 0 "Moment" "serving" (pSl) (dLc [3] (dItems (d2 D.idx (dV 2) (dC (.int 2)))) (.nm 3) (tYs) (dN D.lstOf (aC (dV 3) (aN)))))
 (sSeq (sPFld 0 "Moment" "ready" (pSl) (dN D.lstOf (aC (d2 D.idx (dV 2) (dC (.int 3))) (aN))))
 (sSeq (sPFld 0 "Moment" "steps" (pSl) (dN D.lstOf (aC (d2 D.idx (dV 2) (dC (.int 4))) (aN))))
 (sPFld 0 "Moment" "events" (pSl) (dN D.mkLF (aN)))))))))
def X_Moment___init__ : List D → Option (D × D) := callM 3 1 0 B_Moment___init__
abbrev s_Moment_put : Stmt := inClass (topS 11) 1
theorem sc_Moment_put : FnScope ["self", "word", "job", "name"] ["self", "word", "job", "name"] (defScope s_Moment_put) := ⟨rfl, rfl, rfl, by decide +kernel, rfl, by decide +kernel, by decide +kernel⟩
def B_Moment_put : Fs :=
 sPApp 0 (pFld 0 "Moment" "events" (pSl)) (dNewP (dFlat (dN D.mkT (aC (dFld "Moment" "time" (dV 0)) (aC (dV 1) (aC (dV 2) (aC (dV 3) (aN))))))))
def X_Moment_put : List D → Option (D × D) := callM 4 0 0 B_Moment_put
abbrev s_Moment_here : Stmt := inClass (topS 11) 2
theorem sc_Moment_here : FnScope ["self", "job"] ["self", "job"] (defScope s_Moment_here) := ⟨rfl, rfl, rfl, by decide +kernel, rfl, by decide +kernel, by decide +kernel⟩
def B_Moment_here : Fs :=
 sRet (dFlat (d2 D.idx (d2 D.idx (dN F_route_of (aC (dFld "Moment" "network" (dV 0)) (aC (dV 1) (aN)))) (d2 D.idx (dFld "Moment" "steps" (dV 0)) (dV 1))) (dC (.int 0))))
def F_Moment_here : List D → Option D := callF 2 0 B_Moment_here
abbrev s_Moment_ready_at : Stmt := inClass (topS 11) 3
theorem sc_Moment_ready_at : FnScope ["self", "name", "since", "job"] ["self", "name"] (defScope s_Moment_ready_at) := ⟨rfl, rfl, rfl, by decide +kernel, rfl, by decide +kernel, by decide +kernel⟩
def B_Moment_ready_at : Fs :=
 sRet (dLc [2, 3] (dItems (dFld "Moment" "ready" (dV 0))) (.tp [2, 3]) (t2 D.eqB (dMet "Moment" "here" F_Moment_here (dV 0) (aC (dV 3) (aN))) (dV 1)) (dFlat (dV 3)))
def F_Moment_ready_at : List D → Option D := callF 2 2 B_Moment_ready_at
abbrev s_Moment_is_full : Stmt := inClass (topS 11) 4
theorem sc_Moment_is_full : FnScope ["self", "name", "place", "room", "many"] ["self", "name"] (defScope s_Moment_is_full) := ⟨rfl, rfl, rfl, by decide +kernel, rfl, by decide +kernel, by decide +kernel⟩
def B_Moment_is_full : Fs :=
 sSeq (sSet 2 (d2 D.index (dFld "Moment" "names" (dV 0)) (dV 1)))
 (sSeq (sSet 3 (d2 D.idx (d2 D.idx (d2 D.idx (dFld "Moment" "network" (dV 0)) (dC (.int 0))) (dV 2)) (dC (.int 2))))
 (sSeq (sSet 4 (d2 D.add (d2 D.add (dN D.len (aC (d2 D.idx (dFld "Moment" "waiting" (dV 0)) (dV 2)) (aN))) (dN D.len (aC (d2 D.idx (dFld "Moment" "serving" (dV 0)) (dV 2)) (aN)))) (dN D.len (aC (dMet "Moment" "ready_at" F_Moment_ready_at (dV 0) (aC (dV 1) (aN))) (aN)))))
 (sRet (dFlat (dB (tAn (t2 D.notN (dV 3) (dC .non)) (t2 D.geB (dV 4) (dV 3))))))))
def F_Moment_is_full : List D → Option D := callF 2 3 B_Moment_is_full
abbrev s_Moment_end_services : Stmt := inClass (topS 11) 5
theorem sc_Moment_end_services : FnScope ["self", "over", "place", "pair", "end", "job"] ["self"] (defScope s_Moment_end_services) := ⟨rfl, rfl, rfl, by decide +kernel, rfl, by decide +kernel, by decide +kernel⟩
def B_Moment_end_services : Fs :=
 sSeq (sSet 1 (dN D.mkLF (aN)))
 (sSeq (sFor [2] (iRg1 (dN D.len (aC (dFld "Moment" "names" (dV 0)) (aN)))) (.nm 2)
 (sSeq (sExt 1 (dNewP (dLc [4, 5] (dItems (d2 D.idx (dFld "Moment" "serving" (dV 0)) (dV 2))) (.tp [4, 5]) (t2 D.eqB (dV 4) (dFld "Moment" "time" (dV 0))) (dFlat (dV 5)))))
 (sPSet 0 (pFld 0 "Moment" "serving" (pSl)) (dV 2) (dNewP (dLc [3] (dItems (d2 D.idx (dFld "Moment" "serving" (dV 0)) (dV 2))) (.nm 3) (t2 D.neB (d2 D.idx (dV 3) (dC (.int 0))) (dFld "Moment" "time" (dV 0))) (dFlat (dV 3)))))))
 (sSeq (sFor [5] (dItems (dNewP (dN D.sorted (aC (dV 1) (aN))))) (.nm 5)
 (sSeq (sMet 0 "Moment" "put" X_Moment_put (aC (dC (.str "end")) (aC (dV 5) (aC (dNewP (dMet "Moment" "here" F_Moment_here (dV 0) (aC (dV 5) (aN)))) (aN)))))
 (sPApp 0 (pFld 0 "Moment" "ready" (pSl)) (dNewP (dFlat (dN D.mkT (aC (dFld "Moment" "time" (dV 0)) (aC (dV 5) (aN)))))))))
 (sPFld 0 "Moment" "ready" (pSl) (dNewP (dN D.sorted (aC (dFld "Moment" "ready" (dV 0)) (aN)))))))
def X_Moment_end_services : List D → Option (D × D) := callM 1 5 0 B_Moment_end_services
abbrev s_Moment_go_on : Stmt := inClass (topS 11) 6
theorem sc_Moment_go_on : FnScope ["self", "pair", "job", "route", "name"] ["self", "pair"] (defScope s_Moment_go_on) := ⟨rfl, rfl, rfl, by decide +kernel, rfl, by decide +kernel, by decide +kernel⟩
def B_Moment_go_on : Fs :=
 sSeq (sSet 2 (d2 D.idx (dV 1) (dC (.int 1))))
 (sSeq (sSet 3 (dNewP (dN F_route_of (aC (dFld "Moment" "network" (dV 0)) (aC (dV 2) (aN))))))
 (sSeq (sIf (t2 D.eqB (d2 D.add (d2 D.idx (dFld "Moment" "steps" (dV 0)) (dV 2)) (dC (.int 1))) (dN D.len (aC (dV 3) (aN))))
 (sSeq (sMet 0 "Moment" "put" X_Moment_put (aC (dC (.str "leave")) (aC (dV 2) (aC (dNewP (dMet "Moment" "here" F_Moment_here (dV 0) (aC (dV 2) (aN)))) (aN)))))
 (sSeq (sPRem 0 (pFld 0 "Moment" "ready" (pSl)) (dV 1))
 (sSeq (sPSet 0 (pFld 0 "Moment" "steps" (pSl)) (dV 2) (dFlat (dC (.int (-2)))))
 (sRet (dC .non)))))
 (sNil))
 (sSeq (sSet 4 (d2 D.idx (d2 D.idx (dV 3) (d2 D.add (d2 D.idx (dFld "Moment" "steps" (dV 0)) (dV 2)) (dC (.int 1)))) (dC (.int 0))))
 (sIf (tNt (tV (dMet "Moment" "is_full" F_Moment_is_full (dV 0) (aC (dV 4) (aN)))))
 (sSeq (sMet 0 "Moment" "put" X_Moment_put (aC (dC (.str "move")) (aC (dV 2) (aC (dV 4) (aN)))))
 (sSeq (sPRem 0 (pFld 0 "Moment" "ready" (pSl)) (dV 1))
 (sSeq (sPSet 0 (pFld 0 "Moment" "steps" (pSl)) (dV 2) (dNewP (d2 D.addF (d2 D.idx (dFld "Moment" "steps" (dV 0)) (dV 2)) (dC (.int 1)))))
 (sPApp 0 (pIx 0 (pFld 0 "Moment" "waiting" (pSl)) (d2 D.index (dFld "Moment" "names" (dV 0)) (dV 4))) (dFlat (dV 2))))))
 (sNil)))))
def X_Moment_go_on : List D → Option (D × D) := callM 2 3 0 B_Moment_go_on
abbrev s_Moment_chosen : Stmt := inClass (topS 11) 7
theorem sc_Moment_chosen : FnScope ["self", "place", "row", "discipline", "highest", "job"] ["self", "place"] (defScope s_Moment_chosen) := ⟨rfl, rfl, rfl, by decide +kernel, rfl, by decide +kernel, by decide +kernel⟩
def B_Moment_chosen : Fs :=
 sSeq (sSet 2 (d2 D.idx (dFld "Moment" "waiting" (dV 0)) (dV 1)))
 (sSeq (sSet 3 (d2 D.idx (d2 D.idx (d2 D.idx (dFld "Moment" "network" (dV 0)) (dC (.int 0))) (dV 1)) (dC (.int 3))))
 (sSeq (sIf (t2 D.eqB (dV 3) (dC (.str "first")))
 (sRet (dFlat (d2 D.idx (dV 2) (dC (.int 0)))))
 (sNil))
 (sSeq (sIf (t2 D.eqB (dV 3) (dC (.str "last")))
 (sRet (dFlat (d2 D.idx (dV 2) (d1 D.neg (dC (.int 1))))))
 (sNil))
 (sSeq (sSet 4 (dN D.max1 (aC (dLc [5] (dItems (dV 2)) (.nm 5) (tYs) (dN F_priority_of (aC (dFld "Moment" "network" (dV 0)) (aC (dV 5) (aN))))) (aN))))
 (sRet (dFlat (d2 D.idx (dLc [5] (dItems (dV 2)) (.nm 5) (t2 D.eqB (dN F_priority_of (aC (dFld "Moment" "network" (dV 0)) (aC (dV 5) (aN)))) (dV 4)) (dFlat (dV 5))) (dC (.int 0)))))))))
def F_Moment_chosen : List D → Option D := callF 2 4 B_Moment_chosen
abbrev s_Moment_begin_services : Stmt := inClass (topS 11) 8
theorem sc_Moment_begin_services : FnScope ["self", "place", "name", "servers", "job"] ["self", "place"] (defScope s_Moment_begin_services) := ⟨rfl, rfl, rfl, by decide +kernel, rfl, by decide +kernel, by decide +kernel⟩
def B_Moment_begin_services : Fs :=
 sSeq (sSet 2 (dPure (d2 D.idx (dFld "Moment" "names" (dV 0)) (dV 1))))
 (sSeq (sSet 3 (dPure (d2 D.idx (d2 D.idx (d2 D.idx (dFld "Moment" "network" (dV 0)) (dC (.int 0))) (dV 1)) (dC (.int 1)))))
 (sSeq (sWh 1000000000 [4] (tAn (t2 D.gtB (dN D.len (aC (d2 D.idx (dFld "Moment" "waiting" (dV 0)) (dV 1)) (aN))) (dC (.int 0))) (t2 D.ltB (d2 D.add (dN D.len (aC (d2 D.idx (dFld "Moment" "serving" (dV 0)) (dV 1)) (aN))) (dN D.len (aC (dMet "Moment" "ready_at" F_Moment_ready_at (dV 0) (aC (dV 2) (aN))) (aN)))) (dV 3)))
 (sSeq (sSet 4 (dNewP (dMet "Moment" "chosen" F_Moment_chosen (dV 0) (aC (dV 1) (aN)))))
 (sSeq (sMet 0 "Moment" "put" X_Moment_put (aC (dC (.str "begin")) (aC (dV 4) (aC (dV 2) (aN)))))
 (sSeq (sPRem 0 (pIx 0 (pFld 0 "Moment" "waiting" (pSl)) (dV 1)) (dV 4))
 (sPApp 0 (pIx 0 (pFld 0 "Moment" "serving" (pSl)) (dV 1)) (dNewP (dFlat (dN D.mkT (aC (d2 D.add (dFld "Moment" "time" (dV 0)) (d2 D.idx (d2 D.idx (dN F_route_of (aC (dFld "Moment" "network" (dV 0)) (aC (dV 4) (aN)))) (d2 D.idx (dFld "Moment" "steps" (dV 0)) (dV 4))) (dC (.int 1)))) (aC (dV 4) (aN)))))))))))
 (sPSet 0 (pFld 0 "Moment" "serving" (pSl)) (dV 1) (dNewP (dN D.sorted (aC (d2 D.idx (dFld "Moment" "serving" (dV 0)) (dV 1)) (aN)))))))
def X_Moment_begin_services : List D → Option (D × D) := callM 2 3 0 B_Moment_begin_services
abbrev s_Moment_settle : Stmt := inClass (topS 11) 9
theorem sc_Moment_settle : FnScope ["self", "many", "pair", "place"] ["self"] (defScope s_Moment_settle) := ⟨rfl, rfl, rfl, by decide +kernel, rfl, by decide +kernel, by decide +kernel⟩
def B_Moment_settle : Fs :=
 sSeq (sSet 1 (d1 D.neg (dC (.int 1))))
 (sWh 1000000000 [2, 3] (t2 D.ltB (dV 1) (dN D.len (aC (dFld "Moment" "events" (dV 0)) (aN))))
 (sSeq (sSet 1 (dN D.len (aC (dFld "Moment" "events" (dV 0)) (aN))))
 (sSeq (sFor [2] (dItems (dNewP (dN D.lstOf (aC (dFld "Moment" "ready" (dV 0)) (aN))))) (.nm 2)
 (sMet 0 "Moment" "go_on" X_Moment_go_on (aC (dV 2) (aN))))
 (sFor [3] (iRg1 (dN D.len (aC (dFld "Moment" "names" (dV 0)) (aN)))) (.nm 3)
 (sIf (tNt (tV (dN F_is_paused (aC (dFld "Moment" "network" (dV 0)) (aC (d2 D.idx (dFld "Moment" "names" (dV 0)) (dV 3)) (aC (dFld "Moment" "time" (dV 0)) (aN)))))))
 (sMet 0 "Moment" "begin_services" X_Moment_begin_services (aC (dV 3) (aN)))
 (sNil))))))
def X_Moment_settle : List D → Option (D × D) := callM 1 3 0 B_Moment_settle
abbrev s_Moment_arrive : Stmt := inClass (topS 11) 10
theorem sc_Moment_arrive : FnScope ["self", "job", "name"] ["self"] (defScope s_Moment_arrive) := ⟨rfl, rfl, rfl, by decide +kernel, rfl, by decide +kernel, by decide +kernel⟩
def B_Moment_arrive : Fs :=
 sFor [1, 2] (iRg1 (dN D.len (aC (d2 D.idx (dFld "Moment" "network" (dV 0)) (dC (.int 3))) (aN)))) (.nm 1)
 (sIf (t2 D.eqB (d2 D.idx (d2 D.idx (d2 D.idx (dFld "Moment" "network" (dV 0)) (dC (.int 3))) (dV 1)) (dC (.int 0))) (dFld "Moment" "time" (dV 0)))
 (sSeq (sSet 2 (dPure (d2 D.idx (d2 D.idx (dN F_route_of (aC (dFld "Moment" "network" (dV 0)) (aC (dV 1) (aN)))) (dC (.int 0))) (dC (.int 0)))))
 (sIf (tV (dMet "Moment" "is_full" F_Moment_is_full (dV 0) (aC (dV 2) (aN))))
 (sSeq (sMet 0 "Moment" "put" X_Moment_put (aC (dC (.str "lost")) (aC (dV 1) (aC (dV 2) (aN)))))
 (sPSet 0 (pFld 0 "Moment" "steps" (pSl)) (dV 1) (dFlat (dC (.int (-3))))))
 (sSeq (sMet 0 "Moment" "put" X_Moment_put (aC (dC (.str "come")) (aC (dV 1) (aC (dV 2) (aN)))))
 (sSeq (sPSet 0 (pFld 0 "Moment" "steps" (pSl)) (dV 1) (dFlat (dC (.int 0))))
 (sPApp 0 (pIx 0 (pFld 0 "Moment" "waiting" (pSl)) (d2 D.index (dFld "Moment" "names" (dV 0)) (dV 2))) (dFlat (dV 1)))))))
 (sNil))
def X_Moment_arrive : List D → Option (D × D) := callM 1 2 0 B_Moment_arrive
abbrev s_Moment_told_state : Stmt := inClass (topS 11) 11
theorem sc_Moment_told_state : FnScope ["self", "waiting", "row", "serving"] ["self"] (defScope s_Moment_told_state) := ⟨rfl, rfl, rfl, by decide +kernel, rfl, by decide +kernel, by decide +kernel⟩
def B_Moment_told_state : Fs :=
 sSeq (sSet 1 (dN D.tupOf (aC (dLc [2] (dItems (dFld "Moment" "waiting" (dV 0))) (.nm 2) (tYs) (dFlat (dN D.tupOf (aC (dV 2) (aN))))) (aN))))
 (sSeq (sSet 3 (dN D.tupOf (aC (dLc [2] (dItems (dFld "Moment" "serving" (dV 0))) (.nm 2) (tYs) (dFlat (dN D.tupOf (aC (dV 2) (aN))))) (aN))))
 (sRet (dFlat (dN D.mkT (aC (d2 D.add (dFld "Moment" "time" (dV 0)) (dC (.int 1))) (aC (dV 1) (aC (dV 3) (aC (dN D.tupOf (aC (dFld "Moment" "ready" (dV 0)) (aN))) (aC (dN D.tupOf (aC (dFld "Moment" "steps" (dV 0)) (aN))) (aN))))))))))
def F_Moment_told_state : List D → Option D := callF 1 3 B_Moment_told_state
abbrev s_happen : Stmt := topS 12
theorem sc_happen : FnScope ["some_model", "state", "moment", "since", "job"] ["some_model", "state"] (defScope s_happen) := ⟨rfl, rfl, rfl, by decide +kernel, rfl, by decide +kernel, by decide +kernel⟩
def B_happen : Fs :=
 sSeq (sSet 2 (dMake "Moment" X_Moment___init__ (aC (dV 0) (aC (dV 1) (aN)))))
 (sSeq (sMet 2 "Moment" "end_services" X_Moment_end_services aN)
 (sSeq (sMet 2 "Moment" "settle" X_Moment_settle aN)
 (sSeq (sMet 2 "Moment" "arrive" X_Moment_arrive aN)
 (sSeq (sMet 2 "Moment" "settle" X_Moment_settle aN)
 (sSeq (sFor [3, 4] (dItems (dNewP (dN D.lstOf (aC (dFld "Moment" "ready" (dV 2)) (aN))))) (.tp [3, 4])
 (sIf (t2 D.eqB (dV 3) (dFld "Moment" "time" (dV 2)))
 (sMet 2 "Moment" "put" X_Moment_put (aC (dC (.str "block")) (aC (dV 4) (aC (dNewP (dMet "Moment" "here" F_Moment_here (dV 2) (aC (dV 4) (aN)))) (aN)))))
 (sNil)))
 (sFz 2 (sRet (dFlat (dN D.mkT (aC (dFld "Moment" "events" (dV 2)) (aC (dMet "Moment" "told_state" F_Moment_told_state (dV 2) (aN)) (aN))))))))))))
def F_happen : List D → Option D := callF 2 3 B_happen
abbrev s_last_state : Stmt := topS 14
theorem sc_last_state : FnScope ["some_model", "state", "time", "_"] ["some_model"] (defScope s_last_state) := ⟨rfl, rfl, rfl, by decide +kernel, rfl, by decide +kernel, by decide +kernel⟩
def B_last_state : Fs :=
 sSeq (sSet 1 (dN F_first_state (aC (dV 0) (aN))))
 (sSeq (sSet 2 (dN F_next_time (aC (dV 0) (aC (dV 1) (aN)))))
 (sSeq (sWh 1000000000 [3] (t2 D.notN (dV 2) (dC .non))
 (sSeq (sTgt (.tp [3, 1]) (dN F_happen (aC (dV 0) (aC (d2 D.add (dN D.mkT (aC (dV 2) (aN))) (dCut (dV 1) (oSo (dC (.int 1))) oNo)) (aN)))))
 (sSet 2 (dN F_next_time (aC (dV 0) (aC (dV 1) (aN)))))))
 (sRet (dFlat (dV 1)))))
def F_last_state : List D → Option D := callF 1 3 B_last_state
abbrev s_stuck : Stmt := topS 15
theorem sc_stuck : FnScope ["some_model", "steps", "job"] ["some_model"] (defScope s_stuck) := ⟨rfl, rfl, rfl, by decide +kernel, rfl, by decide +kernel, by decide +kernel⟩
def B_stuck : Fs :=
 sSeq (sSet 1 (d2 D.idx (dN F_last_state (aC (dV 0) (aN))) (dC (.int 4))))
 (sRet (dLc [2] (iRg1 (dN D.len (aC (dV 1) (aN)))) (.nm 2) (t2 D.geB (d2 D.idx (dV 1) (dV 2)) (d1 D.neg (dC (.int 1)))) (dFlat (dV 2))))
def F_stuck : List D → Option D := callF 1 2 B_stuck
abbrev s_moved_to : Stmt := topS 17
theorem sc_moved_to : FnScope ["state", "time"] ["state", "time"] (defScope s_moved_to) := ⟨rfl, rfl, rfl, by decide +kernel, rfl, by decide +kernel, by decide +kernel⟩
def B_moved_to : Fs :=
 sRet (d2 D.addF (dN D.mkT (aC (dV 1) (aN))) (dCut (dV 0) (oSo (dC (.int 1))) oNo))
def F_moved_to : List D → Option D := callF 2 0 B_moved_to
abbrev s_run_from : Stmt := topS 18
theorem sc_run_from : FnScope ["some_model", "state", "events", "time", "more"] ["some_model", "state"] (defScope s_run_from) := ⟨rfl, rfl, rfl, by decide +kernel, rfl, by decide +kernel, by decide +kernel⟩
def B_run_from : Fs :=
 sSeq (sSet 2 (dN D.mkLF (aN)))
 (sSeq (sSet 3 (dN F_next_time (aC (dV 0) (aC (dV 1) (aN)))))
 (sSeq (sWh 1000000000 [4] (t2 D.notN (dV 3) (dC .non))
 (sSeq (sTgt (.tp [4, 1]) (dN F_happen (aC (dV 0) (aC (dN F_moved_to (aC (dV 1) (aC (dV 3) (aN)))) (aN)))))
 (sSeq (sExt 2 (dV 4))
 (sSet 3 (dN F_next_time (aC (dV 0) (aC (dV 1) (aN))))))))
 (sRetO 2)))
def F_run_from : List D → Option D := callF 2 3 B_run_from
abbrev s_event_run : Stmt := topS 19
theorem sc_event_run : FnScope ["some_model"] ["some_model"] (defScope s_event_run) := ⟨rfl, rfl, rfl, by decide +kernel, rfl, by decide +kernel, by decide +kernel⟩
def B_event_run : Fs :=
 sRet (dN F_run_from (aC (dV 0) (aC (dN F_first_state (aC (dV 0) (aN))) (aN))))
def F_event_run : List D → Option D := callF 1 0 B_event_run
abbrev s_steps_at : Stmt := topS 21
theorem sc_steps_at : FnScope ["some_model", "name", "found", "job", "route", "lengths", "k", "early", "at", "length"] ["some_model", "name"] (defScope s_steps_at) := ⟨rfl, rfl, rfl, by decide +kernel, rfl, by decide +kernel, by decide +kernel⟩
def B_steps_at : Fs :=
 sSeq (sSet 2 (dN D.mkLF (aN)))
 (sSeq (sFor [3, 4, 5, 6, 7] (iRg1 (dN D.len (aC (d2 D.idx (dV 0) (dC (.int 3))) (aN)))) (.nm 3)
 (sSeq (sSet 4 (dN F_route_of (aC (dV 0) (aC (dV 3) (aN)))))
 (sSeq (sSet 5 (dLc [8, 9] (dItems (dV 4)) (.tp [8, 9]) (tYs) (dFlat (dV 9))))
 (sFor [6, 7] (iRg1 (dN D.len (aC (dV 4) (aN)))) (.nm 6)
 (sIf (t2 D.eqB (d2 D.idx (d2 D.idx (dV 4) (dV 6)) (dC (.int 0))) (dV 1))
 (sSeq (sSet 7 (d2 D.add (d2 D.idx (d2 D.idx (d2 D.idx (dV 0) (dC (.int 3))) (dV 3)) (dC (.int 0))) (dN D.sum1 (aC (dCut (dV 5) oNo (oSo (dV 6))) (aN)))))
 (sApp 2 (dFlat (dN D.mkT (aC (dV 7) (aC (d2 D.idx (dV 5) (dV 6)) (aC (dN D.sum1 (aC (dCut (dV 5) (oSo (d2 D.add (dV 6) (dC (.int 1)))) oNo) (aN))) (aN))))))))
 (sNil))))))
 (sRetO 2))
def F_steps_at : List D → Option D := callF 2 8 B_steps_at
abbrev s_work : Stmt := topS 22
theorem sc_work : FnScope ["some_model", "name", "early", "length", "late"] ["some_model", "name"] (defScope s_work) := ⟨rfl, rfl, rfl, by decide +kernel, rfl, by decide +kernel, by decide +kernel⟩
def B_work : Fs :=
 sRet (dFlat (dN D.sum1 (aC (dLc [2, 3, 4] (dItems (dN F_steps_at (aC (dV 0) (aC (dV 1) (aN))))) (.tp [2, 3, 4]) (tYs) (dFlat (dV 3))) (aN))))
def F_work : List D → Option D := callF 2 3 B_work
abbrev s_station_bound : Stmt := topS 23
theorem sc_station_bound : FnScope ["some_model", "name", "steps", "servers", "row", "full", "early", "length", "late"] ["some_model", "name"] (defScope s_station_bound) := ⟨rfl, rfl, rfl, by decide +kernel, rfl, by decide +kernel, by decide +kernel⟩
def B_station_bound : Fs :=
 sSeq (sSet 2 (dN F_steps_at (aC (dV 0) (aC (dV 1) (aN)))))
 (sSeq (sIf (t2 D.eqB (dN D.len (aC (dV 2) (aN))) (dC (.int 0)))
 (sRet (dFlat (dC .non)))
 (sNil))
 (sSeq (sSet 3 (d2 D.idx (dLc [4] (dItems (d2 D.idx (dV 0) (dC (.int 0)))) (.nm 4) (t2 D.eqB (d2 D.idx (dV 4) (dC (.int 0))) (dV 1)) (dFlat (d2 D.idx (dV 4) (dC (.int 1))))) (dC (.int 0))))
 (sSeq (sSet 5 (d2 D.fdiv (d2 D.sub (d2 D.add (dN F_work (aC (dV 0) (aC (dV 1) (aN)))) (dV 3)) (dC (.int 1))) (dV 3)))
 (sRet (d2 D.addF (d2 D.add (dN D.min1 (aC (dLc [6, 7, 8] (dItems (dV 2)) (.tp [6, 7, 8]) (tYs) (dFlat (dV 6))) (aN))) (dV 5)) (dN D.min1 (aC (dLc [6, 7, 8] (dItems (dV 2)) (.tp [6, 7, 8]) (tYs) (dFlat (dV 8))) (aN))))))))
def F_station_bound : List D → Option D := callF 2 7 B_station_bound
abbrev s_job_bound : Stmt := topS 24
theorem sc_job_bound : FnScope ["some_model", "job", "at", "length"] ["some_model", "job"] (defScope s_job_bound) := ⟨rfl, rfl, rfl, by decide +kernel, rfl, by decide +kernel, by decide +kernel⟩
def B_job_bound : Fs :=
 sRet (d2 D.addF (d2 D.idx (d2 D.idx (d2 D.idx (dV 0) (dC (.int 3))) (dV 1)) (dC (.int 0))) (dN D.sum1 (aC (dLc [2, 3] (dItems (dN F_route_of (aC (dV 0) (aC (dV 1) (aN))))) (.tp [2, 3]) (tYs) (dFlat (dV 3))) (aN))))
def F_job_bound : List D → Option D := callF 2 2 B_job_bound
abbrev s_bottleneck : Stmt := topS 25
theorem sc_bottleneck : FnScope ["some_model", "best", "name", "bound", "job"] ["some_model"] (defScope s_bottleneck) := ⟨rfl, rfl, rfl, by decide +kernel, rfl, by decide +kernel, by decide +kernel⟩
def B_bottleneck : Fs :=
 sSeq (sSet 1 (dC .non))
 (sSeq (sFor [2, 3] (dItems (dN F_station_names (aC (dV 0) (aN)))) (.nm 2)
 (sSeq (sSet 3 (dN F_station_bound (aC (dV 0) (aC (dV 2) (aN)))))
 (sIf (tAn (t2 D.notN (dV 3) (dC .non)) (tOrr (t2 D.isN (dV 1) (dC .non)) (t2 D.gtB (dV 3) (d2 D.idx (dV 1) (dC (.int 2))))))
 (sSet 1 (dN D.mkT (aC (dC (.str "station")) (aC (dV 2) (aC (dV 3) (aN))))))
 (sNil))))
 (sSeq (sFor [4, 3] (iRg1 (dN D.len (aC (d2 D.idx (dV 0) (dC (.int 3))) (aN)))) (.nm 4)
 (sSeq (sSet 3 (dN F_job_bound (aC (dV 0) (aC (dV 4) (aN)))))
 (sIf (t2 D.gtB (dV 3) (d2 D.idx (dV 1) (dC (.int 2))))
 (sSet 1 (dN D.mkT (aC (dC (.str "job")) (aC (dV 4) (aC (dV 3) (aN))))))
 (sNil))))
 (sRet (dFlat (dV 1)))))
def F_bottleneck : List D → Option D := callF 1 4 B_bottleneck
abbrev s_slack : Stmt := topS 26
theorem sc_slack : FnScope ["some_model", "events", "lost", "event"] ["some_model"] (defScope s_slack) := ⟨rfl, rfl, rfl, by decide +kernel, rfl, by decide +kernel, by decide +kernel⟩
def B_slack : Fs :=
 sSeq (sSet 1 (dN F_event_run (aC (dV 0) (aN))))
 (sSeq (sSet 2 (dLc [3] (dItems (dV 1)) (.nm 3) (t2 D.eqB (d2 D.idx (dV 3) (dC (.int 1))) (dC (.str "lost"))) (dFlat (dV 3))))
 (sSeq (sIf (tOrr (t2 D.eqB (dN D.len (aC (dV 1) (aN))) (dC (.int 0))) (tOrr (t2 D.gtB (dN D.len (aC (dV 2) (aN))) (dC (.int 0))) (t2 D.gtB (dN D.len (aC (dN F_stuck (aC (dV 0) (aN))) (aN))) (dC (.int 0)))))
 (sRet (dFlat (dC .non)))
 (sNil))
 (sRet (dFlat (d2 D.sub (d2 D.idx (d2 D.idx (dV 1) (d1 D.neg (dC (.int 1)))) (dC (.int 0))) (d2 D.idx (dN F_bottleneck (aC (dV 0) (aN))) (dC (.int 2))))))))
def F_slack : List D → Option D := callF 1 3 B_slack
abbrev s_L_cell : Stmt := topS 28
theorem sc_L_cell : FnScope ["_law_script", "_law_k"] ["_law_script", "_law_k"] (defScope s_L_cell) := ⟨rfl, rfl, rfl, by decide +kernel, rfl, by decide +kernel, by decide +kernel⟩
def B_L_cell : Fs :=
 sSeq (sIf (t2 D.ltB (dV 1) (dN D.len (aC (dV 0) (aN))))
 (sRet (dFlat (d2 D.idx (dV 0) (dV 1))))
 (sNil))
 (sRet (dFlat (dC (.int 0))))
def F_L_cell : List D → Option D := callF 2 0 B_L_cell
abbrev s_L_draw : Stmt := topS 29
theorem sc_L_draw : FnScope ["_law_script", "_law_k", "_law_sizes", "_law_cell_here", "_law_drawn", "_law_size", "_law_mixed", "_law_j"] ["_law_script", "_law_k", "_law_sizes"] (defScope s_L_draw) := ⟨rfl, rfl, rfl, by decide +kernel, rfl, by decide +kernel, by decide +kernel⟩
def B_L_draw : Fs :=
 sSeq (sSet 3 (dN F_L_cell (aC (dV 0) (aC (dV 1) (aN)))))
 (sSeq (sIf (t2 D.ltB (dV 3) (dC (.int 0)))
 (sSet 3 (d1 D.neg (dV 3)))
 (sNil))
 (sSeq (sSet 4 (dN D.mkLF (aN)))
 (sSeq (sIf (t2 D.geB (dV 3) (d2 D.pow (dC (.int 10)) (dC (.int 18))))
 (sSeq (sSet 3 (d2 D.sub (dV 3) (d2 D.pow (dC (.int 10)) (dC (.int 18)))))
 (sSeq (sFor [5] (dItems (dV 2)) (.nm 5)
 (sSeq (sApp 4 (dFlat (d2 D.mod (dV 3) (dV 5))))
 (sSet 3 (d2 D.fdiv (dV 3) (dV 5)))))
 (sRetO 4)))
 (sNil))
 (sSeq (sSet 6 (d2 D.mod (d2 D.add (d2 D.add (dV 3) (dC (.int 1))) (d2 D.mul (dC (.int 31)) (dV 1))) (dC (.int 2147483647))))
 (sSeq (sFor [7] (iRg1 (dN D.len (aC (dV 2) (aN)))) (.nm 7)
 (sSeq (sSet 6 (d2 D.mod (d2 D.add (d2 D.add (d2 D.mul (dV 6) (dC (.int 48271))) (dC (.int 11))) (dV 7)) (dC (.int 2147483647))))
 (sSeq (sSet 6 (d2 D.mod (d2 D.add (d2 D.mul (dV 6) (dC (.int 69621))) (dC (.int 3))) (dC (.int 2147483647))))
 (sApp 4 (dFlat (d2 D.mod (d2 D.fdiv (dV 6) (dC (.int 7))) (d2 D.idx (dV 2) (dV 7))))))))
 (sRetO 4))))))
def F_L_draw : List D → Option D := callF 3 5 B_L_draw
abbrev s_L_stations : Stmt := topS 30
theorem sc_L_stations : FnScope ["_law_script", "_law_k", "_law_digits", "_law_stations_here", "_law_j", "_law_servers", "_law_room"] ["_law_script", "_law_k"] (defScope s_L_stations) := ⟨rfl, rfl, rfl, by decide +kernel, rfl, by decide +kernel, by decide +kernel⟩
def B_L_stations : Fs :=
 sSeq (sSet 2 (dN F_L_draw (aC (dV 0) (aC (dV 1) (aC (dN D.mkL (aC (dC (.int 4)) (aC (dC (.int 2)) (aC (dC (.int 4)) (aC (dC (.int 3)) (aC (dC (.int 2)) (aC (dC (.int 4)) (aC (dC (.int 3)) (aC (dC (.int 2)) (aC (dC (.int 4)) (aC (dC (.int 3)) (aC (dC (.int 2)) (aC (dC (.int 4)) (aC (dC (.int 3)) (aN))))))))))))))) (aN))))))
 (sSeq (sSet 3 (dN D.mkLF (aN)))
 (sSeq (sFor [4, 5, 6] (iRg1 (d2 D.add (dC (.int 1)) (d2 D.idx (dV 2) (dC (.int 0))))) (.nm 4)
 (sSeq (sSet 5 (d2 D.add (dC (.int 1)) (d2 D.idx (dV 2) (d2 D.add (dC (.int 1)) (d2 D.mul (dC (.int 3)) (dV 4))))))
 (sSeq (sSet 6 (d2 D.idx (dN D.mkL (aC (dC .non) (aC (dV 5) (aC (d2 D.add (dV 5) (dC (.int 1))) (aC (d2 D.add (dV 5) (dC (.int 3))) (aN)))))) (d2 D.idx (dV 2) (d2 D.add (dC (.int 2)) (d2 D.mul (dC (.int 3)) (dV 4))))))
 (sApp 3 (dFlat (dN D.mkT (aC (d2 D.idx (dN D.mkL (aC (dC (.str "a")) (aC (dC (.str "b1")) (aC (dC (.str "c")) (aC (dC (.str "d")) (aN)))))) (dV 4)) (aC (dV 5) (aC (dV 6) (aC (d2 D.idx (dN D.mkL (aC (dC (.str "first")) (aC (dC (.str "last")) (aC (dC (.str "priority")) (aN))))) (d2 D.idx (dV 2) (d2 D.add (dC (.int 3)) (d2 D.mul (dC (.int 3)) (dV 4))))) (aN)))))))))))
 (sRetO 3)))
def F_L_stations : List D → Option D := callF 2 5 B_L_stations
abbrev s_L_kinds : Stmt := topS 31
theorem sc_L_kinds : FnScope ["_law_script", "_law_k", "_law_many", "_law_kinds_here", "_law_head", "_law_digits", "_law_j", "_law_route_here", "_law_i", "_law_part"] ["_law_script", "_law_k", "_law_many"] (defScope s_L_kinds) := ⟨rfl, rfl, rfl, by decide +kernel, rfl, by decide +kernel, by decide +kernel⟩
def B_L_kinds : Fs :=
 sSeq (sSet 3 (dN D.mkLF (aN)))
 (sSeq (sSet 4 (dN F_L_draw (aC (dV 0) (aC (dV 1) (aC (dN D.mkL (aC (dC (.int 3)) (aC (dC (.int 3)) (aC (dC (.int 3)) (aC (dC (.int 3)) (aC (dC (.int 3)) (aC (dC (.int 3)) (aC (dC (.int 3)) (aN))))))))) (aN))))))
 (sSeq (sSet 5 (dN F_L_draw (aC (dV 0) (aC (d2 D.add (dV 1) (dC (.int 1))) (aC (d2 D.repF (dN D.mkL (aC (dC (.int 4)) (aC (dC (.int 6)) (aN)))) (dC (.int 9))) (aN))))))
 (sSeq (sFor [6, 7, 8, 9] (iRg1 (d2 D.add (dC (.int 1)) (d2 D.idx (dV 4) (dC (.int 0))))) (.nm 6)
 (sSeq (sSet 7 (dN D.mkLF (aN)))
 (sSeq (sFor [8, 9] (iRg1 (d2 D.add (dC (.int 1)) (d2 D.idx (dV 4) (d2 D.add (dC (.int 1)) (dV 6))))) (.nm 8)
 (sSeq (sSet 9 (dCut (dV 5) (oSo (d2 D.add (d2 D.mul (dC (.int 6)) (dV 6)) (d2 D.mul (dC (.int 2)) (dV 8)))) (oSo (d2 D.add (d2 D.add (d2 D.mul (dC (.int 6)) (dV 6)) (d2 D.mul (dC (.int 2)) (dV 8))) (dC (.int 2))))))
 (sApp 7 (dFlat (dN D.mkT (aC (d2 D.idx (dN D.mkL (aC (dC (.str "a")) (aC (dC (.str "b1")) (aC (dC (.str "c")) (aC (dC (.str "d")) (aN)))))) (d2 D.mod (d2 D.idx (dV 9) (dC (.int 0))) (dV 2))) (aC (d2 D.add (dC (.int 1)) (d2 D.idx (dV 9) (dC (.int 1)))) (aN))))))))
 (sApp 3 (dNewP (dFlat (dN D.mkT (aC (d2 D.idx (dN D.mkL (aC (dC (.str "x")) (aC (dC (.str "y")) (aC (dC (.str "z9")) (aN))))) (dV 6)) (aC (d2 D.idx (dV 4) (d2 D.add (dC (.int 4)) (dV 6))) (aC (dN D.tupOf (aC (dV 7) (aN))) (aN)))))))))))
 (sRetO 3))))
def F_L_kinds : List D → Option D := callF 3 7 B_L_kinds
abbrev s_L_model : Stmt := topS 32
theorem sc_L_model : FnScope ["_law_script", "_law_k", "_law_stations_here", "_law_kinds_here", "_law_digits", "_law_pauses", "_law_j", "_law_begin", "_law_more", "_law_jobs", "_law_time"] ["_law_script", "_law_k"] (defScope s_L_model) := ⟨rfl, rfl, rfl, by decide +kernel, rfl, by decide +kernel, by decide +kernel⟩
def B_L_model : Fs :=
 sSeq (sSet 2 (dN F_L_stations (aC (dV 0) (aC (dV 1) (aN)))))
 (sSeq (sSet 3 (dN F_L_kinds (aC (dV 0) (aC (d2 D.add (dV 1) (dC (.int 1))) (aC (dN D.len (aC (dV 2) (aN))) (aN))))))
 (sSeq (sSet 4 (dN F_L_draw (aC (dV 0) (aC (d2 D.add (dV 1) (dC (.int 3))) (aC (dN D.mkL (aC (dC (.int 4)) (aC (dC (.int 4)) (aC (dC (.int 2)) (aC (dC (.int 3)) (aC (dC (.int 4)) (aC (dC (.int 2)) (aC (dC (.int 3)) (aC (dC (.int 4)) (aC (dC (.int 2)) (aC (dC (.int 3)) (aN)))))))))))) (aN))))))
 (sSeq (sSet 5 (dN D.mkLF (aN)))
 (sSeq (sFor [6, 7] (iRg1 (d2 D.idx (dV 4) (dC (.int 0)))) (.nm 6)
 (sSeq (sSet 7 (d2 D.add (d2 D.mul (dC (.int 6)) (dV 6)) (d2 D.idx (dV 4) (d2 D.add (dC (.int 2)) (d2 D.mul (dC (.int 3)) (dV 6))))))
 (sApp 5 (dFlat (dN D.mkT (aC (d2 D.idx (d2 D.idx (dV 2) (d2 D.mod (d2 D.idx (dV 4) (d2 D.add (dC (.int 1)) (d2 D.mul (dC (.int 3)) (dV 6)))) (dN D.len (aC (dV 2) (aN))))) (dC (.int 0))) (aC (dV 7) (aC (d2 D.add (d2 D.add (dV 7) (dC (.int 1))) (d2 D.idx (dV 4) (d2 D.add (dC (.int 3)) (d2 D.mul (dC (.int 3)) (dV 6))))) (aN)))))))))
 (sSeq (sSet 8 (dN F_L_draw (aC (dV 0) (aC (d2 D.add (dV 1) (dC (.int 4))) (aC (d2 D.add (dN D.mkL (aC (dC (.int 9)) (aN))) (d2 D.repF (dN D.mkL (aC (dC (.int 4)) (aC (dC (.int 3)) (aN)))) (dC (.int 8)))) (aN))))))
 (sSeq (sSet 9 (dN D.mkLF (aN)))
 (sSeq (sSet 10 (dC (.int 0)))
 (sSeq (sFor [6] (iRg1 (d2 D.idx (dV 8) (dC (.int 0)))) (.nm 6)
 (sSeq (sSet 10 (d2 D.add (dV 10) (d2 D.idx (dV 8) (d2 D.add (dC (.int 1)) (d2 D.mul (dC (.int 2)) (dV 6))))))
 (sApp 9 (dFlat (dN D.mkT (aC (dV 10) (aC (d2 D.idx (d2 D.idx (dV 3) (d2 D.mod (d2 D.idx (dV 8) (d2 D.add (dC (.int 2)) (d2 D.mul (dC (.int 2)) (dV 6)))) (dN D.len (aC (dV 3) (aN))))) (dC (.int 0))) (aN))))))))
 (sFz 9 (sFz 5 (sRet (dFlat (dN D.mkT (aC (dN D.tupOf (aC (dV 2) (aN))) (aC (dN D.tupOf (aC (dV 3) (aN))) (aC (dN D.tupOf (aC (dN D.sorted (aC (dV 5) (aN))) (aN))) (aC (dN D.tupOf (aC (dV 9) (aN))) (aN))))))))))))))))))
def F_L_model : List D → Option D := callF 2 9 B_L_model
abbrev s_L_end : Stmt := topS 33
theorem sc_L_end : FnScope ["_law_events"] ["_law_events"] (defScope s_L_end) := ⟨rfl, rfl, rfl, by decide +kernel, rfl, by decide +kernel, by decide +kernel⟩
def B_L_end : Fs :=
 sSeq (sIf (t2 D.eqB (dN D.len (aC (dV 0) (aN))) (dC (.int 0)))
 (sRet (dFlat (dC (.int 0))))
 (sNil))
 (sRet (d2 D.addF (d2 D.idx (d2 D.idx (dV 0) (d1 D.neg (dC (.int 1)))) (dC (.int 0))) (dC (.int 1))))
def F_L_end : List D → Option D := callF 1 0 B_L_end
abbrev s_L_route : Stmt := topS 34
theorem sc_L_route : FnScope ["_law_model_here", "_law_job", "_law_name", "_law_priority", "_law_route_here"] ["_law_model_here", "_law_job"] (defScope s_L_route) := ⟨rfl, rfl, rfl, by decide +kernel, rfl, by decide +kernel, by decide +kernel⟩
def B_L_route : Fs :=
 sRet (dFlat (d2 D.idx (dLc [2, 3, 4] (dItems (d2 D.idx (dV 0) (dC (.int 1)))) (.tp [2, 3, 4]) (t2 D.eqB (dV 2) (d2 D.idx (d2 D.idx (d2 D.idx (dV 0) (dC (.int 3))) (dV 1)) (dC (.int 1)))) (dFlat (dV 4))) (dC (.int 0))))
def F_L_route : List D → Option D := callF 2 3 B_L_route
abbrev s_L_bound : Stmt := topS 35
theorem sc_L_bound : FnScope ["_law_model_here", "_law_name", "_law_servers", "_law_visits", "_law_job", "_law_route_here", "_law_i", "_law_ahead", "_law_step", "_law_whole", "_law_visit", "_law_full"] ["_law_model_here", "_law_name", "_law_servers"] (defScope s_L_bound) := ⟨rfl, rfl, rfl, by decide +kernel, rfl, by decide +kernel, by decide +kernel⟩
def B_L_bound : Fs :=
 sSeq (sSet 3 (dN D.mkLF (aN)))
 (sSeq (sFor [4, 5, 6, 7] (iRg1 (dN D.len (aC (d2 D.idx (dV 0) (dC (.int 3))) (aN)))) (.nm 4)
 (sSeq (sSet 5 (dN F_L_route (aC (dV 0) (aC (dV 4) (aN)))))
 (sFor [6, 7] (iRg1 (dN D.len (aC (dV 5) (aN)))) (.nm 6)
 (sIf (t2 D.eqB (d2 D.idx (d2 D.idx (dV 5) (dV 6)) (dC (.int 0))) (dV 1))
 (sSeq (sSet 7 (d2 D.add (d2 D.idx (d2 D.idx (d2 D.idx (dV 0) (dC (.int 3))) (dV 4)) (dC (.int 0))) (dN D.sum1 (aC (dLc [8] (dItems (dCut (dV 5) oNo (oSo (dV 6)))) (.nm 8) (tYs) (dFlat (d2 D.idx (dV 8) (dC (.int 1))))) (aN)))))
 (sApp 3 (dFlat (dN D.mkT (aC (dV 7) (aC (d2 D.idx (d2 D.idx (dV 5) (dV 6)) (dC (.int 1))) (aC (dN D.sum1 (aC (dLc [8] (dItems (dCut (dV 5) (oSo (d2 D.add (dV 6) (dC (.int 1)))) oNo)) (.nm 8) (tYs) (dFlat (d2 D.idx (dV 8) (dC (.int 1))))) (aN))) (aN))))))))
 (sNil)))))
 (sSeq (sIf (t2 D.eqB (dN D.len (aC (dV 3) (aN))) (dC (.int 0)))
 (sRet (dFlat (dN D.mkT (aC (dC (.int 0)) (aC (dC .non) (aN))))))
 (sNil))
 (sSeq (sSet 9 (dN D.sum1 (aC (dLc [10] (dItems (dV 3)) (.nm 10) (tYs) (dFlat (d2 D.idx (dV 10) (dC (.int 1))))) (aN))))
 (sSeq (sSet 11 (d2 D.fdiv (d2 D.sub (d2 D.add (dV 9) (dV 2)) (dC (.int 1))) (dV 2)))
 (sRet (dFlat (dN D.mkT (aC (dV 9) (aC (d2 D.add (d2 D.add (dN D.min1 (aC (dLc [10] (dItems (dV 3)) (.nm 10) (tYs) (dFlat (d2 D.idx (dV 10) (dC (.int 0))))) (aN))) (dV 11)) (dN D.min1 (aC (dLc [10] (dItems (dV 3)) (.nm 10) (tYs) (dFlat (d2 D.idx (dV 10) (dC (.int 2))))) (aN)))) (aN))))))))))
def F_L_bound : List D → Option D := callF 3 9 B_L_bound
abbrev s_law : Stmt := topS 36
theorem sc_law : FnScope ["_law_script", "_law_w", "_law_model_here", "_law_best", "_law_job", "_law_events", "_law_left", "_law_late", "_law_name", "_law_servers", "_law_room", "_law_discipline", "_law_due", "_law_event", "_law_step"] ["_law_script"] (defScope s_law) := ⟨rfl, rfl, rfl, by decide +kernel, rfl, by decide +kernel, by decide +kernel⟩
def B_law : Fs :=
 sSeq (sFor [1, 2, 3, 8, 9, 10, 11, 4, 5, 6, 7, 12] (iRg1 (dN D.min2 (aC (dC (.int 5)) (aC (d2 D.add (dC (.int 1)) (d2 D.fdiv (dN D.len (aC (dV 0) (aN))) (dC (.int 6)))) (aN))))) (.nm 1)
 (sSeq (sSet 2 (dN F_L_model (aC (dV 0) (aC (d2 D.mul (dC (.int 6)) (dV 1)) (aN)))))
 (sSeq (sSet 3 (dC .non))
 (sSeq (sFor [8, 9, 10, 11, 12] (dItems (d2 D.idx (dV 2) (dC (.int 0)))) (.tp [8, 9, 10, 11])
 (sSeq (sSet 12 (dN F_L_bound (aC (dV 2) (aC (dV 8) (aC (dV 9) (aN))))))
 (sSeq (sIf (tOrr (t2 D.neB (dN F_work (aC (dV 2) (aC (dV 8) (aN)))) (d2 D.idx (dV 12) (dC (.int 0)))) (t2 D.neB (dN F_station_bound (aC (dV 2) (aC (dV 8) (aN)))) (d2 D.idx (dV 12) (dC (.int 1)))))
 (sRet (dFlat (dC (.bl false))))
 (sNil))
 (sIf (tAn (t2 D.notN (d2 D.idx (dV 12) (dC (.int 1))) (dC .non)) (tOrr (t2 D.isN (dV 3) (dC .non)) (t2 D.gtB (d2 D.idx (dV 12) (dC (.int 1))) (d2 D.idx (dV 3) (dC (.int 2))))))
 (sSet 3 (dN D.mkT (aC (dC (.str "station")) (aC (dV 8) (aC (d2 D.idx (dV 12) (dC (.int 1))) (aN))))))
 (sNil)))))
 (sSeq (sFor [4, 12] (iRg1 (dN D.len (aC (d2 D.idx (dV 2) (dC (.int 3))) (aN)))) (.nm 4)
 (sSeq (sSet 12 (d2 D.add (d2 D.idx (d2 D.idx (d2 D.idx (dV 2) (dC (.int 3))) (dV 4)) (dC (.int 0))) (dN D.sum1 (aC (dLc [14] (dItems (dN F_L_route (aC (dV 2) (aC (dV 4) (aN))))) (.nm 14) (tYs) (dFlat (d2 D.idx (dV 14) (dC (.int 1))))) (aN)))))
 (sSeq (sIf (t2 D.neB (dN F_job_bound (aC (dV 2) (aC (dV 4) (aN)))) (dV 12))
 (sRet (dFlat (dC (.bl false))))
 (sNil))
 (sIf (tOrr (t2 D.isN (dV 3) (dC .non)) (t2 D.gtB (dV 12) (d2 D.idx (dV 3) (dC (.int 2)))))
 (sSet 3 (dN D.mkT (aC (dC (.str "job")) (aC (dV 4) (aC (dV 12) (aN))))))
 (sNil)))))
 (sSeq (sIf (t2 D.neB (dN F_bottleneck (aC (dV 2) (aN))) (dV 3))
 (sRet (dFlat (dC (.bl false))))
 (sNil))
 (sSeq (sSet 5 (dN F_event_run (aC (dV 2) (aN))))
 (sSeq (sSet 6 (dN D.len (aC (dLc [13] (dItems (dV 5)) (.nm 13) (t2 D.eqB (d2 D.idx (dV 13) (dC (.int 1))) (dC (.str "leave"))) (dFlat (dC (.int 1)))) (aN))))
 (sSeq (sSet 7 (dC .non))
 (sSeq (sIf (tAn (t2 D.notN (dV 3) (dC .non)) (t2 D.eqB (dV 6) (dN D.len (aC (d2 D.idx (dV 2) (dC (.int 3))) (aN)))))
 (sSet 7 (d2 D.sub (d2 D.idx (d2 D.idx (dV 5) (d1 D.neg (dC (.int 1)))) (dC (.int 0))) (d2 D.idx (dV 3) (dC (.int 2)))))
 (sNil))
 (sIf (t2 D.neB (dN F_slack (aC (dV 2) (aN))) (dV 7))
 (sRet (dFlat (dC (.bl false))))
 (sNil))))))))))))
 (sRet (dFlat (dC (.bl true))))
def F_law : List D → Option D := callF 1 14 B_law
section
variable {P : Program} {w : World} {K : PySem.W.Frag} {mg : Str → Option Value} {base : Heap} [Tabs]
theorem ok_station_names {f : Addr} {fd : FuncData} (Fu : Fun K "station_names" "station_names" s_station_names f fd) (B : BI mg) : FnOk P w K mg base CX0 1 f fd ["some_model"] (spP K 1 F_station_names) :=
 fn_ok (M := []) Fu sc_station_names fun cdv A outer s H E hr =>
 dss_one (ds_ret (df_lc (own := [("station", 1)]) (U := [0]) (.nm 1) (di_seq (de_idx hr.hu1 (de_var 0) (de_int))) (blkOk_by (by kernel_rfl)) (fun _ _ _ _ _ => pg_name (i := 1) sc_station_names.nd rfl (by first | exact .inl rfl | exact .inr rfl)) (fun _ _ _ _ _ => dt_yes) (fun _ _ _ _ _ => df_flat (de_idx hr.hu1 (de_var 1) (de_int))) sc_station_names.nd))
theorem ok_route_of {f : Addr} {fd : FuncData} (Fu : Fun K "route_of" "route_of" s_route_of f fd) (B : BI mg) : FnOk P w K mg base CX0 1 f fd ["some_model", "job"] (spP K 2 F_route_of) :=
 fn_ok (M := []) Fu sc_route_of fun cdv A outer s H E hr =>
 dss_cons (ds_for [2, 3, 4] (.tp [2, 3, 4]) (di_seq (de_idx hr.hu1 (de_var 0) (de_int))) (pg_tup rfl (pgs_cons (pg_name (i := 2) sc_route_of.nd rfl (by first | exact .inl rfl | exact .inr rfl)) (pgs_cons (pg_name (i := 3) sc_route_of.nd rfl (by first | exact .inl rfl | exact .inr rfl)) (pgs_cons (pg_name (i := 4) sc_route_of.nd rfl (by first | exact .inl rfl | exact .inr rfl)) (pgs_nil)))))
 (dss_one (ds_if (dt_cmp (cmp_eq hr.hu64) (de_var 2) (de_idx hr.hu1 (de_idx hr.hu1 (de_idx hr.hu1 (de_var 0) (de_int)) (de_var 1)) (de_int)))
 (dss_one (ds_ret (df_flat (de_var 4))))
 (dss_nil))))
 (dss_one (ds_ret (df_flat (de_tup (da_nil)))))
theorem ok_priority_of {f : Addr} {fd : FuncData} (Fu : Fun K "priority_of" "priority_of" s_priority_of f fd) (B : BI mg) : FnOk P w K mg base CX0 1 f fd ["some_model", "job"] (spP K 2 F_priority_of) :=
 fn_ok (M := []) Fu sc_priority_of fun cdv A outer s H E hr =>
 dss_one (ds_ret (df_flat (de_idx hr.hu1 (de_own (df_lc (own := [("name", 2), ("priority", 3), ("route", 4)]) (U := [0]) (.tp [2, 3, 4]) (di_seq (de_idx hr.hu1 (de_var 0) (de_int))) (blkOk_by (by kernel_rfl)) (fun _ _ _ _ _ => pg_tup rfl (pgs_cons (pg_name (i := 2) sc_priority_of.nd rfl (by first | exact .inl rfl | exact .inr rfl)) (pgs_cons (pg_name (i := 3) sc_priority_of.nd rfl (by first | exact .inl rfl | exact .inr rfl)) (pgs_cons (pg_name (i := 4) sc_priority_of.nd rfl (by first | exact .inl rfl | exact .inr rfl)) (pgs_nil))))) (fun _ _ _ _ _ => dt_one (dt_cmp (cmp_eq hr.hu64) (de_var 2) (de_idx hr.hu1 (de_idx hr.hu1 (de_idx hr.hu1 (de_var 0) (de_int)) (de_var 1)) (de_int)))) (fun _ _ _ _ _ => df_flat (de_var 3)) sc_priority_of.nd)) (de_int))))
theorem ok_is_paused {f c P0 : Addr} {fd : FuncData} (Fu : FunC K "is_paused" "is_paused" s_is_paused f fd c) (B : BI mg) (TB : GxR.TabB base mg c P0) (hP : P0 ∈ Tabs.T) : FnOk P w K mg base CX0 1 f fd ["some_model", "name", "time"] (spP K 3 F_is_paused) :=
 fn_okC (M := []) Fu sc_is_paused fun A outer s H E hr =>
 dss_one (ds_ret (df_pz (i := 1) (j := 2) hr B.any_ TB hP rfl (de_idx hr.hu1 (de_var 0) (de_int)) (fr := by show ∀ y : Str × NameKind, y ∈ _ → y.2 = _ → List.lookup y.1 (defScope s_is_paused).names = _ ∨ List.lookup y.1 (defScope s_is_paused).names = _; decide +kernel)))
theorem ok_first_state {f : Addr} {fd : FuncData} (Fu : Fun K "first_state" "first_state" s_first_state f fd) (B : BI mg) (g_ABSENT : ∃ t, mg "ABSENT" = some (.int (-1) t)) : FnOk P w K mg base CX0 1 f fd ["some_model"] (spP K 1 F_first_state) :=
 fn_ok (M := []) Fu sc_first_state fun cdv A outer s H E hr =>
 dss_cons (ds_set (i := 1) (de_callTD c_tupOf rfl B.tuple_ (by decide +kernel) (da_cons (de_own (df_lc (own := [("station", 2)]) (U := [0]) (.nm 2) (di_seq (de_idx hr.hu1 (de_var 0) (de_int))) (blkOk_by (by kernel_rfl)) (fun _ _ _ _ _ => pg_name (i := 2) sc_first_state.nd rfl (by first | exact .inl rfl | exact .inr rfl)) (fun _ _ _ _ _ => dt_yes) (fun _ _ _ _ _ => df_flat (de_tup (da_nil))) sc_first_state.nd)) (da_nil))) sc_first_state.nd)
 (dss_one (ds_ret (df_flat (de_tup (da_cons (de_int) (da_cons (de_var 1) (da_cons (de_var 1) (da_cons (de_tup (da_nil)) (da_cons (de_callTD c_tupOf rfl B.tuple_ (by decide +kernel) (da_cons (de_own (df_lc (own := [("job", 3)]) (U := [0]) (.nm 3) (di_seq (de_idx hr.hu1 (de_var 0) (de_int))) (blkOk_by (by kernel_rfl)) (fun _ _ _ _ _ => pg_name (i := 3) sc_first_state.nd rfl (by first | exact .inl rfl | exact .inr rfl)) (fun _ _ _ _ _ => dt_yes) (fun _ _ _ _ _ => df_flat (de_gint g_ABSENT)) sc_first_state.nd)) (da_nil))) (da_nil))))))))))
theorem ok_next_time {f : Addr} {fd : FuncData} (Fu : Fun K "next_time" "next_time" s_next_time f fd) (B : BI mg) : FnOk P w K mg base CX0 1 f fd ["some_model", "state"] (spP K 2 F_next_time) :=
 fn_ok (M := [5]) Fu sc_next_time fun cdv A outer s H E hr =>
 dss_cons (ds_tgt (.tp [2, 3, 4, 3, 3]) (de_var 1) (pg_tup rfl (pgs_cons (pg_name (i := 2) sc_next_time.nd rfl (by first | exact .inl rfl | exact .inr rfl)) (pgs_cons (pg_name (i := 3) sc_next_time.nd rfl (by first | exact .inl rfl | exact .inr rfl)) (pgs_cons (pg_name (i := 4) sc_next_time.nd rfl (by first | exact .inl rfl | exact .inr rfl)) (pgs_cons (pg_name (i := 3) sc_next_time.nd rfl (by first | exact .inl rfl | exact .inr rfl)) (pgs_cons (pg_name (i := 3) sc_next_time.nd rfl (by first | exact .inl rfl | exact .inr rfl)) (pgs_nil))))))))
 (dss_cons (ds_ownLc2 (i := 5) (own := [("row", 6), ("end", 7), ("job", 8)]) [4] [7, 8] (.nm 6) (.tp [7, 8]) (di_seq (de_var 4)) (blkOk_by (by kernel_rfl)) (fun _ _ _ _ _ => pg_name (i := 6) sc_next_time.nd rfl (by first | exact .inl rfl | exact .inr rfl)) (fun _ _ _ _ _ => dt_yes) (fun _ _ _ _ _ => di_seq (de_var 6)) (fun _ _ _ _ _ => pg_tup rfl (pgs_cons (pg_name (i := 7) sc_next_time.nd rfl (by first | exact .inl rfl | exact .inr rfl)) (pgs_cons (pg_name (i := 8) sc_next_time.nd rfl (by first | exact .inl rfl | exact .inr rfl)) (pgs_nil)))) (fun _ _ _ _ _ => dt_yes) (fun _ _ _ _ _ => df_flat (de_var 7)) sc_next_time.nd (sw_true rfl rfl rfl (by decide +kernel)))
 (dss_cons (ds_ext (i := 5) (de_own (df_lc (own := [("job", 8)]) (U := [0]) (.nm 8) (di_seq (de_idx hr.hu1 (de_var 0) (de_int))) (blkOk_by (by kernel_rfl)) (fun _ _ _ _ _ => pg_name (i := 8) sc_next_time.nd rfl (by first | exact .inl rfl | exact .inr rfl)) (fun _ _ _ _ _ => dt_yes) (fun _ _ _ _ _ => df_flat (de_idx hr.hu1 (de_var 8) (de_int))) sc_next_time.nd)) (hp := fun _ h => pe_bm PySem.F.plainAttrs_list PySem.F.slot_list_extend PySem.F.type_list_extend mt_extend (pv 5) h))
 (dss_cons (ds_ext (i := 5) (de_own (df_lc (own := [("name", 9), ("begin", 10), ("end", 7)]) (U := [0]) (.tp [9, 10, 7]) (di_seq (de_idx hr.hu1 (de_var 0) (de_int))) (blkOk_by (by kernel_rfl)) (fun _ _ _ _ _ => pg_tup rfl (pgs_cons (pg_name (i := 9) sc_next_time.nd rfl (by first | exact .inl rfl | exact .inr rfl)) (pgs_cons (pg_name (i := 10) sc_next_time.nd rfl (by first | exact .inl rfl | exact .inr rfl)) (pgs_cons (pg_name (i := 7) sc_next_time.nd rfl (by first | exact .inl rfl | exact .inr rfl)) (pgs_nil))))) (fun _ _ _ _ _ => dt_yes) (fun _ _ _ _ _ => df_flat (de_var 7)) sc_next_time.nd)) (hp := fun _ h => pe_bm PySem.F.plainAttrs_list PySem.F.slot_list_extend PySem.F.type_list_extend mt_extend (pv 5) h))
 (dss_cons (ds_setLcP (i := 11) (own := [("other", 12)]) [5] (.nm 12) (di_seq (de_var 5)) (blkOk_by (by kernel_rfl)) (fun _ _ _ _ _ => pg_name (i := 12) sc_next_time.nd rfl (by first | exact .inl rfl | exact .inr rfl)) (fun _ _ _ _ _ => dt_one (dt_cmp (cmp_ge) (de_var 12) (de_var 2))) (fun _ _ _ _ _ => df_flat (de_var 12)) sc_next_time.nd (sw_true rfl rfl rfl (by decide +kernel)))
 (dss_cons (ds_if (dt_cmp (cmp_eq hr.hu64) (de_callB c_len rfl B.len_ (by decide +kernel) (da_cons (de_var 11) (da_nil))) (de_int))
 (dss_one (ds_ret (df_flat (de_non))))
 (dss_nil))
 (dss_one (ds_ret (df_flat (de_callB c_min1 rfl B.min_ (by decide +kernel) (da_cons (de_var 11) (da_nil)))))))))))
theorem ok_Moment___init__ {f : Addr} {fd : FuncData} (Fu : Fun K "__init__" "Moment.__init__" s_Moment___init__ f fd) (B : BI mg) (d_station_names : Df P w K mg base 1 "station_names" 1 F_station_names) (c_Moment : ClsOk K "Moment" ["network", "names", "time", "waiting", "serving", "ready", "steps", "events"]) : FnOk P w K mg base CX0 2 f fd ["self", "some_model", "state"] (spM K 3 0 X_Moment___init__) :=
 fn_okM 0 (M := [0]) Fu sc_Moment___init__ fun cdv A outer s H E hr =>
 dss_cons (ds_pfld (i := 0) c_Moment (dx_var 0) (df_flat (de_var 1)))
 (dss_cons (ds_pfld (i := 0) c_Moment (dx_var 0) (df_callD d_station_names (hr.mono (by decide)) (da_cons (de_var 1) (da_nil))))
 (dss_cons (ds_pfld (i := 0) c_Moment (dx_var 0) (df_flat (de_idx hr.hu1 (de_var 2) (de_int))))
 (dss_cons (ds_pfld (i := 0) c_Moment (dx_var 0) (df_lc (own := [("row", 3)]) (U := [2]) (.nm 3) (di_seq (de_idx hr.hu1 (de_var 2) (de_int))) (blkOk_by (by kernel_rfl)) (fun _ _ _ _ _ => pg_name (i := 3) sc_Moment___init__.nd rfl (by first | exact .inl rfl | exact .inr rfl)) (fun _ _ _ _ _ => dt_yes) (fun _ _ _ _ _ => df_callT c_lstOf rfl B.list_ (by decide +kernel) (da_cons (de_var 3) (da_nil))) sc_Moment___init__.nd))
 (dss_cons (ds_pfld (i := 0) c_Moment (dx_var 0) (df_lc (own := [("row", 3)]) (U := [2]) (.nm 3) (di_seq (de_idx hr.hu1 (de_var 2) (de_int))) (blkOk_by (by kernel_rfl)) (fun _ _ _ _ _ => pg_name (i := 3) sc_Moment___init__.nd rfl (by first | exact .inl rfl | exact .inr rfl)) (fun _ _ _ _ _ => dt_yes) (fun _ _ _ _ _ => df_callT c_lstOf rfl B.list_ (by decide +kernel) (da_cons (de_var 3) (da_nil))) sc_Moment___init__.nd))
 (dss_cons (ds_pfld (i := 0) c_Moment (dx_var 0) (df_callT c_lstOf rfl B.list_ (by decide +kernel) (da_cons (de_idx hr.hu1 (de_var 2) (de_int)) (da_nil))))
 (dss_cons (ds_pfld (i := 0) c_Moment (dx_var 0) (df_callT c_lstOf rfl B.list_ (by decide +kernel) (da_cons (de_idx hr.hu1 (de_var 2) (de_int)) (da_nil))))
 (dss_one (ds_pfld (i := 0) c_Moment (dx_var 0) (df_lst (da_nil))))))))))
theorem ok_Moment_put {f : Addr} {fd : FuncData} (Fu : Fun K "put" "Moment.put" s_Moment_put f fd) (B : BI mg) (c_Moment : ClsOk K "Moment" ["network", "names", "time", "waiting", "serving", "ready", "steps", "events"]) : FnOk P w K mg base CX0 1 f fd ["self", "word", "job", "name"] (spM K 4 0 X_Moment_put) :=
 fn_okM 0 (M := [0]) Fu sc_Moment_put fun cdv A outer s H E hr =>
 dss_one (ds_papp (i := 0) (df_pure (df_flat (de_tup (da_cons (de_fld c_Moment (de_var 0)) (da_cons (de_var 1) (da_cons (de_var 2) (da_cons (de_var 3) (da_nil)))))))) (hp := fun _ h => pe_bm PySem.F.plainAttrs_list PySem.F.slot_list_append PySem.F.type_list_append mt_append (dx_fld c_Moment (dx_var 0)) h))
theorem ok_Moment_here {f : Addr} {fd : FuncData} (Fu : Fun K "here" "Moment.here" s_Moment_here f fd) (B : BI mg) (d_route_of : Df P w K mg base 1 "route_of" 2 F_route_of) (c_Moment : ClsOk K "Moment" ["network", "names", "time", "waiting", "serving", "ready", "steps", "events"]) : FnOk P w K mg base CX0 2 f fd ["self", "job"] (spP K 2 F_Moment_here) :=
 fn_ok (M := []) Fu sc_Moment_here fun cdv A outer s H E hr =>
 dss_one (ds_ret (df_flat (de_idx hr.hu1 (de_idx hr.hu1 (de_own (df_callD d_route_of (hr.mono (by decide)) (da_cons (de_fld c_Moment (de_var 0)) (da_cons (de_var 1) (da_nil))))) (de_idx hr.hu1 (de_fld c_Moment (de_var 0)) (de_var 1))) (de_int))))
theorem ok_Moment_ready_at {f : Addr} {fd : FuncData} (Fu : Fun K "ready_at" "Moment.ready_at" s_Moment_ready_at f fd) (B : BI mg) (m_Moment_here : DfP P w K mg base 2 "Moment" "here" 2 F_Moment_here) (c_Moment : ClsOk K "Moment" ["network", "names", "time", "waiting", "serving", "ready", "steps", "events"]) : FnOk P w K mg base CX0 3 f fd ["self", "name"] (spP K 2 F_Moment_ready_at) :=
 fn_ok (M := []) Fu sc_Moment_ready_at fun cdv A outer s H E hr =>
 dss_one (ds_ret (df_lc (own := [("since", 2), ("job", 3)]) (U := [0]) (.tp [2, 3]) (di_seq (de_fld c_Moment (de_var 0))) (blkOk_by (by kernel_rfl)) (fun _ _ _ _ _ => pg_tup rfl (pgs_cons (pg_name (i := 2) sc_Moment_ready_at.nd rfl (by first | exact .inl rfl | exact .inr rfl)) (pgs_cons (pg_name (i := 3) sc_Moment_ready_at.nd rfl (by first | exact .inl rfl | exact .inr rfl)) (pgs_nil)))) (fun _ _ _ _ _ => dt_one (dt_cmp (cmp_eq hr.hu64) (de_own (df_meth m_Moment_here (hr.mono (by decide)) (de_var 0) (da_cons (de_var 3) (da_nil)))) (de_var 1))) (fun _ _ _ _ _ => df_flat (de_var 3)) sc_Moment_ready_at.nd))
theorem ok_Moment_is_full {f : Addr} {fd : FuncData} (Fu : Fun K "is_full" "Moment.is_full" s_Moment_is_full f fd) (B : BI mg) (m_Moment_ready_at : DfP P w K mg base 3 "Moment" "ready_at" 2 F_Moment_ready_at) (c_Moment : ClsOk K "Moment" ["network", "names", "time", "waiting", "serving", "ready", "steps", "events"]) : FnOk P w K mg base CX0 4 f fd ["self", "name"] (spP K 2 F_Moment_is_full) :=
 fn_ok (M := []) Fu sc_Moment_is_full fun cdv A outer s H E hr =>
 dss_cons (ds_set (i := 2) (de_index (de_fld c_Moment (de_var 0)) (de_var 1)) sc_Moment_is_full.nd)
 (dss_cons (ds_set (i := 3) (de_idx hr.hu1 (de_idx hr.hu1 (de_idx hr.hu1 (de_fld c_Moment (de_var 0)) (de_int)) (de_var 2)) (de_int)) sc_Moment_is_full.nd)
 (dss_cons (ds_set (i := 4) (de_add (de_add (de_callB c_len rfl B.len_ (by decide +kernel) (da_cons (de_idx hr.hu1 (de_fld c_Moment (de_var 0)) (de_var 2)) (da_nil))) (de_callB c_len rfl B.len_ (by decide +kernel) (da_cons (de_idx hr.hu1 (de_fld c_Moment (de_var 0)) (de_var 2)) (da_nil)))) (de_callB c_len rfl B.len_ (by decide +kernel) (da_cons (de_own (df_meth m_Moment_ready_at (hr.mono (by decide)) (de_var 0) (da_cons (de_var 1) (da_nil)))) (da_nil)))) sc_Moment_is_full.nd)
 (dss_one (ds_ret (df_flat (de_and (de_cmp (cmp_notN) (de_var 3) (de_non)) (de_b1 (de_cmp (cmp_ge) (de_var 4) (de_var 3)))))))))
theorem ok_Moment_end_services {f : Addr} {fd : FuncData} (Fu : Fun K "end_services" "Moment.end_services" s_Moment_end_services f fd) (B : BI mg) (m_Moment_put : DfM P w K mg base 1 "Moment" "put" 4 X_Moment_put) (m_Moment_here : DfP P w K mg base 2 "Moment" "here" 2 F_Moment_here) (c_Moment : ClsOk K "Moment" ["network", "names", "time", "waiting", "serving", "ready", "steps", "events"]) : FnOk P w K mg base CX0 3 f fd ["self"] (spM K 1 0 X_Moment_end_services) :=
 fn_okM 0 (M := [0, 1]) Fu sc_Moment_end_services fun cdv A outer s H E hr =>
 dss_cons (ds_own (i := 1) (df_lst (da_nil)) sc_Moment_end_services.nd)
 (dss_cons (ds_for [2] (.nm 2) (di_range1 B.range_ (de_callB c_len rfl B.len_ (by decide +kernel) (da_cons (de_fld c_Moment (de_var 0)) (da_nil)))) (pg_name (i := 2) sc_Moment_end_services.nd rfl (by first | exact .inl rfl | exact .inr rfl))
 (dss_cons (ds_ext (i := 1) (de_own (df_pure (df_lc (own := [("end", 4), ("job", 5)]) (U := [0]) (.tp [4, 5]) (di_seq (de_idx hr.hu1 (de_fld c_Moment (de_var 0)) (de_var 2))) (blkOk_by (by kernel_rfl)) (fun _ _ _ _ _ => pg_tup rfl (pgs_cons (pg_name (i := 4) sc_Moment_end_services.nd rfl (by first | exact .inl rfl | exact .inr rfl)) (pgs_cons (pg_name (i := 5) sc_Moment_end_services.nd rfl (by first | exact .inl rfl | exact .inr rfl)) (pgs_nil)))) (fun _ _ _ _ _ => dt_one (dt_cmp (cmp_eq hr.hu64) (de_var 4) (de_fld c_Moment (de_var 0)))) (fun _ _ _ _ _ => df_flat (de_var 5)) sc_Moment_end_services.nd))) (hp := fun _ h => pe_bm PySem.F.plainAttrs_list PySem.F.slot_list_extend PySem.F.type_list_extend mt_extend (pv 1) h))
 (dss_one (ds_pset (i := 0) hr.hu1 (dx_fld c_Moment (dx_var 0)) (de_var 2) (df_pure (df_lc (own := [("pair", 3)]) (U := [0]) (.nm 3) (di_seq (de_idx hr.hu1 (de_fld c_Moment (de_var 0)) (de_var 2))) (blkOk_by (by kernel_rfl)) (fun _ _ _ _ _ => pg_name (i := 3) sc_Moment_end_services.nd rfl (by first | exact .inl rfl | exact .inr rfl)) (fun _ _ _ _ _ => dt_one (dt_cmp (cmp_ne hr.hu64) (de_idx hr.hu1 (de_var 3) (de_int)) (de_fld c_Moment (de_var 0)))) (fun _ _ _ _ _ => df_flat (de_var 3)) sc_Moment_end_services.nd))))))
 (dss_cons (ds_for [5] (.nm 5) (di_seq (de_own (df_pure (df_callB (c_sorted hr.hu100) rfl B.sorted_ (by decide +kernel) (da_cons (de_var 1) (da_nil)))))) (pg_name (i := 5) sc_Moment_end_services.nd rfl (by first | exact .inl rfl | exact .inr rfl))
 (dss_cons (ds_meth (i := 0) m_Moment_put (hr.mono (by decide)) (da_cons (de_str) (da_cons (de_var 5) (da_cons (de_own (df_pure (df_meth m_Moment_here (hr.mono (by decide)) (de_var 0) (da_cons (de_var 5) (da_nil))))) (da_nil)))))
 (dss_one (ds_papp (i := 0) (df_pure (df_flat (de_tup (da_cons (de_fld c_Moment (de_var 0)) (da_cons (de_var 5) (da_nil)))))) (hp := fun _ h => pe_bm PySem.F.plainAttrs_list PySem.F.slot_list_append PySem.F.type_list_append mt_append (dx_fld c_Moment (dx_var 0)) h)))))
 (dss_one (ds_pfld (i := 0) c_Moment (dx_var 0) (df_pure (df_callB (c_sorted hr.hu100) rfl B.sorted_ (by decide +kernel) (da_cons (de_fld c_Moment (de_var 0)) (da_nil))))))))
theorem ok_Moment_go_on {f : Addr} {fd : FuncData} (Fu : Fun K "go_on" "Moment.go_on" s_Moment_go_on f fd) (B : BI mg) (d_route_of : Df P w K mg base 1 "route_of" 2 F_route_of) (m_Moment_put : DfM P w K mg base 1 "Moment" "put" 4 X_Moment_put) (m_Moment_here : DfP P w K mg base 2 "Moment" "here" 2 F_Moment_here) (m_Moment_is_full : DfP P w K mg base 4 "Moment" "is_full" 2 F_Moment_is_full) (c_Moment : ClsOk K "Moment" ["network", "names", "time", "waiting", "serving", "ready", "steps", "events"]) (g_LEFT : ∃ t, mg "LEFT" = some (.int (-2) t)) : FnOk P w K mg base CX0 5 f fd ["self", "pair"] (spM K 2 0 X_Moment_go_on) :=
 fn_okM 0 (M := [0]) Fu sc_Moment_go_on fun cdv A outer s H E hr =>
 dss_cons (ds_set (i := 2) (de_idx hr.hu1 (de_var 1) (de_int)) sc_Moment_go_on.nd)
 (dss_cons (ds_set (i := 3) (de_own (df_pure (df_callD d_route_of (hr.mono (by decide)) (da_cons (de_fld c_Moment (de_var 0)) (da_cons (de_var 2) (da_nil)))))) sc_Moment_go_on.nd)
 (dss_cons (ds_if (dt_cmp (cmp_eq hr.hu64) (de_add (de_idx hr.hu1 (de_fld c_Moment (de_var 0)) (de_var 2)) (de_int)) (de_callB c_len rfl B.len_ (by decide +kernel) (da_cons (de_var 3) (da_nil))))
 (dss_cons (ds_meth (i := 0) m_Moment_put (hr.mono (by decide)) (da_cons (de_str) (da_cons (de_var 2) (da_cons (de_own (df_pure (df_meth m_Moment_here (hr.mono (by decide)) (de_var 0) (da_cons (de_var 2) (da_nil))))) (da_nil)))))
 (dss_cons (ds_prem (i := 0) (de_var 1) (hp := fun _ h => pe_bm PySem.F.plainAttrs_list PySem.F.slot_list_remove PySem.F.type_list_remove (mt_removeD hr.hu65) (dx_fld c_Moment (dx_var 0)) h))
 (dss_cons (ds_pset (i := 0) hr.hu1 (dx_fld c_Moment (dx_var 0)) (de_var 2) (df_flat (de_gint g_LEFT)))
 (dss_one (ds_retN)))))
 (dss_nil))
 (dss_cons (ds_set (i := 4) (de_idx hr.hu1 (de_idx hr.hu1 (de_var 3) (de_add (de_idx hr.hu1 (de_fld c_Moment (de_var 0)) (de_var 2)) (de_int))) (de_int)) sc_Moment_go_on.nd)
 (dss_one (ds_if (dt_not (dt_val (de_own (df_meth m_Moment_is_full (hr.mono (by decide)) (de_var 0) (da_cons (de_var 4) (da_nil))))))
 (dss_cons (ds_meth (i := 0) m_Moment_put (hr.mono (by decide)) (da_cons (de_str) (da_cons (de_var 2) (da_cons (de_var 4) (da_nil)))))
 (dss_cons (ds_prem (i := 0) (de_var 1) (hp := fun _ h => pe_bm PySem.F.plainAttrs_list PySem.F.slot_list_remove PySem.F.type_list_remove (mt_removeD hr.hu65) (dx_fld c_Moment (dx_var 0)) h))
 (dss_cons (ds_pset (i := 0) hr.hu1 (dx_fld c_Moment (dx_var 0)) (de_var 2) (df_pure (df_add (de_idx hr.hu1 (de_fld c_Moment (de_var 0)) (de_var 2)) (de_int))))
 (dss_one (ds_papp (i := 0) (df_flat (de_var 2)) (hp := fun _ h => pe_bm PySem.F.plainAttrs_list PySem.F.slot_list_append PySem.F.type_list_append mt_append (dx_ix hr.hu1 (dx_fld c_Moment (dx_var 0)) (de_index (de_fld c_Moment (de_var 0)) (de_var 4))) h))))))
 (dss_nil))))))
theorem ok_Moment_chosen {f : Addr} {fd : FuncData} (Fu : Fun K "chosen" "Moment.chosen" s_Moment_chosen f fd) (B : BI mg) (d_priority_of : Df P w K mg base 1 "priority_of" 2 F_priority_of) (c_Moment : ClsOk K "Moment" ["network", "names", "time", "waiting", "serving", "ready", "steps", "events"]) : FnOk P w K mg base CX0 2 f fd ["self", "place"] (spP K 2 F_Moment_chosen) :=
 fn_ok (M := []) Fu sc_Moment_chosen fun cdv A outer s H E hr =>
 dss_cons (ds_set (i := 2) (de_idx hr.hu1 (de_fld c_Moment (de_var 0)) (de_var 1)) sc_Moment_chosen.nd)
 (dss_cons (ds_set (i := 3) (de_idx hr.hu1 (de_idx hr.hu1 (de_idx hr.hu1 (de_fld c_Moment (de_var 0)) (de_int)) (de_var 1)) (de_int)) sc_Moment_chosen.nd)
 (dss_cons (ds_if (dt_cmp (cmp_eq hr.hu64) (de_var 3) (de_str))
 (dss_one (ds_ret (df_flat (de_idx hr.hu1 (de_var 2) (de_int)))))
 (dss_nil))
 (dss_cons (ds_if (dt_cmp (cmp_eq hr.hu64) (de_var 3) (de_str))
 (dss_one (ds_ret (df_flat (de_idx hr.hu1 (de_var 2) (de_neg (de_int))))))
 (dss_nil))
 (dss_cons (ds_set (i := 4) (de_callB c_max1 rfl B.max_ (by decide +kernel) (da_cons (de_own (df_lc (own := [("job", 5)]) (U := [0, 2]) (.nm 5) (di_seq (de_var 2)) (blkOk_by (by kernel_rfl)) (fun _ _ _ _ _ => pg_name (i := 5) sc_Moment_chosen.nd rfl (by first | exact .inl rfl | exact .inr rfl)) (fun _ _ _ _ _ => dt_yes) (fun _ _ _ _ _ => df_callD d_priority_of (hr.mono (by decide)) (da_cons (de_fld c_Moment (de_var 0)) (da_cons (de_var 5) (da_nil)))) sc_Moment_chosen.nd)) (da_nil))) sc_Moment_chosen.nd)
 (dss_one (ds_ret (df_flat (de_idx hr.hu1 (de_own (df_lc (own := [("job", 5)]) (U := [2]) (.nm 5) (di_seq (de_var 2)) (blkOk_by (by kernel_rfl)) (fun _ _ _ _ _ => pg_name (i := 5) sc_Moment_chosen.nd rfl (by first | exact .inl rfl | exact .inr rfl)) (fun _ _ _ _ _ => dt_one (dt_cmp (cmp_eq hr.hu64) (de_own (df_callD d_priority_of (hr.mono (by decide)) (da_cons (de_fld c_Moment (de_var 0)) (da_cons (de_var 5) (da_nil))))) (de_var 4))) (fun _ _ _ _ _ => df_flat (de_var 5)) sc_Moment_chosen.nd)) (de_int)))))))))
theorem ok_Moment_begin_services {f : Addr} {fd : FuncData} (Fu : Fun K "begin_services" "Moment.begin_services" s_Moment_begin_services f fd) (B : BI mg) (m_Moment_ready_at : DfP P w K mg base 3 "Moment" "ready_at" 2 F_Moment_ready_at) (m_Moment_chosen : DfP P w K mg base 2 "Moment" "chosen" 2 F_Moment_chosen) (m_Moment_put : DfM P w K mg base 1 "Moment" "put" 4 X_Moment_put) (d_route_of : Df P w K mg base 1 "route_of" 2 F_route_of) (c_Moment : ClsOk K "Moment" ["network", "names", "time", "waiting", "serving", "ready", "steps", "events"]) : FnOk P w K mg base CX0 4 f fd ["self", "place"] (spM K 2 0 X_Moment_begin_services) :=
 fn_okM 0 (M := [0]) Fu sc_Moment_begin_services fun cdv A outer s H E hr =>
 dss_cons (ds_set (i := 2) (de_pure (de_idx hr.hu1 (de_fld c_Moment (de_var 0)) (de_var 1))) sc_Moment_begin_services.nd)
 (dss_cons (ds_set (i := 3) (de_pure (de_idx hr.hu1 (de_idx hr.hu1 (de_idx hr.hu1 (de_fld c_Moment (de_var 0)) (de_int)) (de_var 1)) (de_int))) sc_Moment_begin_services.nd)
 (dss_cons (ds_wh 1000000000 [4] (PW.pt (dw_and (dt_cmp (cmp_gt) (de_callB c_len rfl B.len_ (by decide +kernel) (da_cons (de_idx hr.hu1 (de_fld c_Moment (de_var 0)) (de_var 1)) (da_nil))) (de_int)) (dw_and1 (dt_cmp (cmp_lt) (de_add (de_callB c_len rfl B.len_ (by decide +kernel) (da_cons (de_idx hr.hu1 (de_fld c_Moment (de_var 0)) (de_var 1)) (da_nil))) (de_callB c_len rfl B.len_ (by decide +kernel) (da_cons (de_own (df_meth m_Moment_ready_at (hr.mono (by decide)) (de_var 0) (da_cons (de_var 2) (da_nil)))) (da_nil)))) (de_var 3)))))
 (dss_cons (ds_set (i := 4) (de_own (df_pure (df_meth m_Moment_chosen (hr.mono (by decide)) (de_var 0) (da_cons (de_var 1) (da_nil))))) sc_Moment_begin_services.nd)
 (dss_cons (ds_meth (i := 0) m_Moment_put (hr.mono (by decide)) (da_cons (de_str) (da_cons (de_var 4) (da_cons (de_var 2) (da_nil)))))
 (dss_cons (ds_prem (i := 0) (de_var 4) (hp := fun _ h => pe_bm PySem.F.plainAttrs_list PySem.F.slot_list_remove PySem.F.type_list_remove (mt_removeD hr.hu65) (dx_ix hr.hu1 (dx_fld c_Moment (dx_var 0)) (de_var 1)) h))
 (dss_one (ds_papp (i := 0) (df_pure (df_flat (de_tup (da_cons (de_add (de_fld c_Moment (de_var 0)) (de_idx hr.hu1 (de_idx hr.hu1 (de_own (df_callD d_route_of (hr.mono (by decide)) (da_cons (de_fld c_Moment (de_var 0)) (da_cons (de_var 4) (da_nil))))) (de_idx hr.hu1 (de_fld c_Moment (de_var 0)) (de_var 4))) (de_int))) (da_cons (de_var 4) (da_nil)))))) (hp := fun _ h => pe_bm PySem.F.plainAttrs_list PySem.F.slot_list_append PySem.F.type_list_append mt_append (dx_ix hr.hu1 (dx_fld c_Moment (dx_var 0)) (de_var 1)) h)))))))
 (dss_one (ds_pset (i := 0) hr.hu1 (dx_fld c_Moment (dx_var 0)) (de_var 1) (df_pure (df_callB (c_sorted hr.hu100) rfl B.sorted_ (by decide +kernel) (da_cons (de_idx hr.hu1 (de_fld c_Moment (de_var 0)) (de_var 1)) (da_nil))))))))
theorem ok_Moment_settle {f : Addr} {fd : FuncData} (Fu : Fun K "settle" "Moment.settle" s_Moment_settle f fd) (B : BI mg) (m_Moment_go_on : DfM P w K mg base 5 "Moment" "go_on" 2 X_Moment_go_on) (d_is_paused : Df P w K mg base 1 "is_paused" 3 F_is_paused) (m_Moment_begin_services : DfM P w K mg base 4 "Moment" "begin_services" 2 X_Moment_begin_services) (c_Moment : ClsOk K "Moment" ["network", "names", "time", "waiting", "serving", "ready", "steps", "events"]) : FnOk P w K mg base CX0 6 f fd ["self"] (spM K 1 0 X_Moment_settle) :=
 fn_okM 0 (M := [0]) Fu sc_Moment_settle fun cdv A outer s H E hr =>
 dss_cons (ds_set (i := 1) (de_neg (de_int)) sc_Moment_settle.nd)
 (dss_one (ds_wh 1000000000 [2, 3] (dt_cmp (cmp_lt) (de_var 1) (de_callB c_len rfl B.len_ (by decide +kernel) (da_cons (de_fld c_Moment (de_var 0)) (da_nil))))
 (dss_cons (ds_set (i := 1) (de_callB c_len rfl B.len_ (by decide +kernel) (da_cons (de_fld c_Moment (de_var 0)) (da_nil))) sc_Moment_settle.nd)
 (dss_cons (ds_for [2] (.nm 2) (di_seq (de_own (df_pure (df_callT c_lstOf rfl B.list_ (by decide +kernel) (da_cons (de_fld c_Moment (de_var 0)) (da_nil)))))) (pg_name (i := 2) sc_Moment_settle.nd rfl (by first | exact .inl rfl | exact .inr rfl))
 (dss_one (ds_meth (i := 0) m_Moment_go_on (hr.mono (by decide)) (da_cons (de_var 2) (da_nil)))))
 (dss_one (ds_for [3] (.nm 3) (di_range1 B.range_ (de_callB c_len rfl B.len_ (by decide +kernel) (da_cons (de_fld c_Moment (de_var 0)) (da_nil)))) (pg_name (i := 3) sc_Moment_settle.nd rfl (by first | exact .inl rfl | exact .inr rfl))
 (dss_one (ds_if (dt_not (dt_val (de_own (df_callD d_is_paused (hr.mono (by decide)) (da_cons (de_fld c_Moment (de_var 0)) (da_cons (de_idx hr.hu1 (de_fld c_Moment (de_var 0)) (de_var 3)) (da_cons (de_fld c_Moment (de_var 0)) (da_nil))))))))
 (dss_one (ds_meth (i := 0) m_Moment_begin_services (hr.mono (by decide)) (da_cons (de_var 3) (da_nil))))
 (dss_nil)))))))))
theorem ok_Moment_arrive {f : Addr} {fd : FuncData} (Fu : Fun K "arrive" "Moment.arrive" s_Moment_arrive f fd) (B : BI mg) (d_route_of : Df P w K mg base 1 "route_of" 2 F_route_of) (m_Moment_is_full : DfP P w K mg base 4 "Moment" "is_full" 2 F_Moment_is_full) (m_Moment_put : DfM P w K mg base 1 "Moment" "put" 4 X_Moment_put) (c_Moment : ClsOk K "Moment" ["network", "names", "time", "waiting", "serving", "ready", "steps", "events"]) (g_LOST : ∃ t, mg "LOST" = some (.int (-3) t)) : FnOk P w K mg base CX0 5 f fd ["self"] (spM K 1 0 X_Moment_arrive) :=
 fn_okM 0 (M := [0]) Fu sc_Moment_arrive fun cdv A outer s H E hr =>
 dss_one (ds_for [1, 2] (.nm 1) (di_range1 B.range_ (de_callB c_len rfl B.len_ (by decide +kernel) (da_cons (de_idx hr.hu1 (de_fld c_Moment (de_var 0)) (de_int)) (da_nil)))) (pg_name (i := 1) sc_Moment_arrive.nd rfl (by first | exact .inl rfl | exact .inr rfl))
 (dss_one (ds_if (dt_cmp (cmp_eq hr.hu64) (de_idx hr.hu1 (de_idx hr.hu1 (de_idx hr.hu1 (de_fld c_Moment (de_var 0)) (de_int)) (de_var 1)) (de_int)) (de_fld c_Moment (de_var 0)))
 (dss_cons (ds_set (i := 2) (de_pure (de_idx hr.hu1 (de_idx hr.hu1 (de_own (df_callD d_route_of (hr.mono (by decide)) (da_cons (de_fld c_Moment (de_var 0)) (da_cons (de_var 1) (da_nil))))) (de_int)) (de_int))) sc_Moment_arrive.nd)
 (dss_one (ds_if (dt_val (de_own (df_meth m_Moment_is_full (hr.mono (by decide)) (de_var 0) (da_cons (de_var 2) (da_nil)))))
 (dss_cons (ds_meth (i := 0) m_Moment_put (hr.mono (by decide)) (da_cons (de_str) (da_cons (de_var 1) (da_cons (de_var 2) (da_nil)))))
 (dss_one (ds_pset (i := 0) hr.hu1 (dx_fld c_Moment (dx_var 0)) (de_var 1) (df_flat (de_gint g_LOST)))))
 (dss_cons (ds_meth (i := 0) m_Moment_put (hr.mono (by decide)) (da_cons (de_str) (da_cons (de_var 1) (da_cons (de_var 2) (da_nil)))))
 (dss_cons (ds_pset (i := 0) hr.hu1 (dx_fld c_Moment (dx_var 0)) (de_var 1) (df_flat (de_int)))
 (dss_one (ds_papp (i := 0) (df_flat (de_var 1)) (hp := fun _ h => pe_bm PySem.F.plainAttrs_list PySem.F.slot_list_append PySem.F.type_list_append mt_append (dx_ix hr.hu1 (dx_fld c_Moment (dx_var 0)) (de_index (de_fld c_Moment (de_var 0)) (de_var 2))) h))))))))
 (dss_nil))))
theorem ok_Moment_told_state {f : Addr} {fd : FuncData} (Fu : Fun K "told_state" "Moment.told_state" s_Moment_told_state f fd) (B : BI mg) (c_Moment : ClsOk K "Moment" ["network", "names", "time", "waiting", "serving", "ready", "steps", "events"]) : FnOk P w K mg base CX0 1 f fd ["self"] (spP K 1 F_Moment_told_state) :=
 fn_ok (M := []) Fu sc_Moment_told_state fun cdv A outer s H E hr =>
 dss_cons (ds_set (i := 1) (de_callTD c_tupOf rfl B.tuple_ (by decide +kernel) (da_cons (de_own (df_lc (own := [("row", 2)]) (U := [0]) (.nm 2) (di_seq (de_fld c_Moment (de_var 0))) (blkOk_by (by kernel_rfl)) (fun _ _ _ _ _ => pg_name (i := 2) sc_Moment_told_state.nd rfl (by first | exact .inl rfl | exact .inr rfl)) (fun _ _ _ _ _ => dt_yes) (fun _ _ _ _ _ => df_flat (de_callTD c_tupOf rfl B.tuple_ (by decide +kernel) (da_cons (de_var 2) (da_nil)))) sc_Moment_told_state.nd)) (da_nil))) sc_Moment_told_state.nd)
 (dss_cons (ds_set (i := 3) (de_callTD c_tupOf rfl B.tuple_ (by decide +kernel) (da_cons (de_own (df_lc (own := [("row", 2)]) (U := [0]) (.nm 2) (di_seq (de_fld c_Moment (de_var 0))) (blkOk_by (by kernel_rfl)) (fun _ _ _ _ _ => pg_name (i := 2) sc_Moment_told_state.nd rfl (by first | exact .inl rfl | exact .inr rfl)) (fun _ _ _ _ _ => dt_yes) (fun _ _ _ _ _ => df_flat (de_callTD c_tupOf rfl B.tuple_ (by decide +kernel) (da_cons (de_var 2) (da_nil)))) sc_Moment_told_state.nd)) (da_nil))) sc_Moment_told_state.nd)
 (dss_one (ds_ret (df_flat (de_tup (da_cons (de_add (de_fld c_Moment (de_var 0)) (de_int)) (da_cons (de_var 1) (da_cons (de_var 3) (da_cons (de_callTD c_tupOf rfl B.tuple_ (by decide +kernel) (da_cons (de_fld c_Moment (de_var 0)) (da_nil))) (da_cons (de_callTD c_tupOf rfl B.tuple_ (by decide +kernel) (da_cons (de_fld c_Moment (de_var 0)) (da_nil))) (da_nil)))))))))))
theorem ok_happen {f : Addr} {fd : FuncData} (Fu : Fun K "happen" "happen" s_happen f fd) (B : BI mg) (m_Moment_told_state : DfP P w K mg base 1 "Moment" "told_state" 1 F_Moment_told_state) (i_Moment : DfI P w K mg base 2 "Moment" 3 X_Moment___init__) (m_Moment_end_services : DfM P w K mg base 3 "Moment" "end_services" 1 X_Moment_end_services) (m_Moment_settle : DfM P w K mg base 6 "Moment" "settle" 1 X_Moment_settle) (m_Moment_arrive : DfM P w K mg base 5 "Moment" "arrive" 1 X_Moment_arrive) (m_Moment_put : DfM P w K mg base 1 "Moment" "put" 4 X_Moment_put) (m_Moment_here : DfP P w K mg base 2 "Moment" "here" 2 F_Moment_here) (c_Moment : ClsOk K "Moment" ["network", "names", "time", "waiting", "serving", "ready", "steps", "events"]) : FnOk P w K mg base CX0 7 f fd ["some_model", "state"] (spP K 2 F_happen) :=
 fn_ok (M := [2]) Fu sc_happen fun cdv A outer s H E hr =>
 dss_cons (ds_own (i := 2) (df_make i_Moment (hr.mono (by decide)) (da_cons (de_var 0) (da_cons (de_var 1) (da_nil)))) sc_happen.nd)
 (dss_cons (ds_meth0 (i := 2) m_Moment_end_services (hr.mono (by decide)))
 (dss_cons (ds_meth0 (i := 2) m_Moment_settle (hr.mono (by decide)))
 (dss_cons (ds_meth0 (i := 2) m_Moment_arrive (hr.mono (by decide)))
 (dss_cons (ds_meth0 (i := 2) m_Moment_settle (hr.mono (by decide)))
 (dss_cons (ds_for [3, 4] (.tp [3, 4]) (di_seq (de_own (df_pure (df_callT c_lstOf rfl B.list_ (by decide +kernel) (da_cons (de_fld c_Moment (de_var 2)) (da_nil)))))) (pg_tup rfl (pgs_cons (pg_name (i := 3) sc_happen.nd rfl (by first | exact .inl rfl | exact .inr rfl)) (pgs_cons (pg_name (i := 4) sc_happen.nd rfl (by first | exact .inl rfl | exact .inr rfl)) (pgs_nil))))
 (dss_one (ds_if (dt_cmp (cmp_eq hr.hu64) (de_var 3) (de_fld c_Moment (de_var 2)))
 (dss_one (ds_meth (i := 2) m_Moment_put (hr.mono (by decide)) (da_cons (de_str) (da_cons (de_var 4) (da_cons (de_own (df_pure (df_meth m_Moment_here (hr.mono (by decide)) (de_var 2) (da_cons (de_var 4) (da_nil))))) (da_nil))))))
 (dss_nil))))
 (dss_fz 2 [] (dss_one (ds_ret (df_flat (de_tup (da_cons (de_fld c_Moment (de_var 2)) (da_cons (de_own (df_meth0 m_Moment_told_state (hr.mono (by decide)) (de_var 2))) (da_nil)))))))))))))
theorem ok_last_state {f : Addr} {fd : FuncData} (Fu : Fun K "last_state" "last_state" s_last_state f fd) (B : BI mg) (d_first_state : Df P w K mg base 1 "first_state" 1 F_first_state) (d_next_time : Df P w K mg base 1 "next_time" 2 F_next_time) (d_happen : Df P w K mg base 7 "happen" 2 F_happen) : FnOk P w K mg base CX0 8 f fd ["some_model"] (spP K 1 F_last_state) :=
 fn_ok (M := []) Fu sc_last_state fun cdv A outer s H E hr =>
 dss_cons (ds_set (i := 1) (de_own (df_callD d_first_state (hr.mono (by decide)) (da_cons (de_var 0) (da_nil)))) sc_last_state.nd)
 (dss_cons (ds_set (i := 2) (de_own (df_callD d_next_time (hr.mono (by decide)) (da_cons (de_var 0) (da_cons (de_var 1) (da_nil))))) sc_last_state.nd)
 (dss_cons (ds_wh 1000000000 [3] (dt_cmp (cmp_notN) (de_var 2) (de_non))
 (dss_cons (ds_tgt (.tp [3, 1]) (de_own (df_callD d_happen (hr.mono (by decide)) (da_cons (de_var 0) (da_cons (de_add (de_tup (da_cons (de_var 2) (da_nil))) (de_slice (de_var 1) (do_so (de_int)) do_no)) (da_nil))))) (pg_tup rfl (pgs_cons (pg_name (i := 3) sc_last_state.nd rfl (by first | exact .inl rfl | exact .inr rfl)) (pgs_cons (pg_name (i := 1) sc_last_state.nd rfl (by first | exact .inl rfl | exact .inr rfl)) (pgs_nil)))))
 (dss_one (ds_set (i := 2) (de_own (df_callD d_next_time (hr.mono (by decide)) (da_cons (de_var 0) (da_cons (de_var 1) (da_nil))))) sc_last_state.nd))))
 (dss_one (ds_ret (df_flat (de_var 1))))))
theorem ok_stuck {f : Addr} {fd : FuncData} (Fu : Fun K "stuck" "stuck" s_stuck f fd) (B : BI mg) (d_last_state : Df P w K mg base 8 "last_state" 1 F_last_state) : FnOk P w K mg base CX0 9 f fd ["some_model"] (spP K 1 F_stuck) :=
 fn_ok (M := []) Fu sc_stuck fun cdv A outer s H E hr =>
 dss_cons (ds_set (i := 1) (de_idx hr.hu1 (de_own (df_callD d_last_state (hr.mono (by decide)) (da_cons (de_var 0) (da_nil)))) (de_int)) sc_stuck.nd)
 (dss_one (ds_ret (df_lc (own := [("job", 2)]) (U := []) (.nm 2) (di_range1 B.range_ (de_callB c_len rfl B.len_ (by decide +kernel) (da_cons (de_var 1) (da_nil)))) (blkOk_by (by kernel_rfl)) (fun _ _ _ _ _ => pg_name (i := 2) sc_stuck.nd rfl (by first | exact .inl rfl | exact .inr rfl)) (fun _ _ _ _ _ => dt_one (dt_cmp (cmp_ge) (de_idx hr.hu1 (de_var 1) (de_var 2)) (de_neg (de_int)))) (fun _ _ _ _ _ => df_flat (de_var 2)) sc_stuck.nd)))
theorem ok_moved_to {f : Addr} {fd : FuncData} (Fu : Fun K "moved_to" "moved_to" s_moved_to f fd) (B : BI mg) : FnOk P w K mg base CX0 1 f fd ["state", "time"] (spP K 2 F_moved_to) :=
 fn_ok (M := []) Fu sc_moved_to fun cdv A outer s H E hr =>
 dss_one (ds_ret (df_add (de_tup (da_cons (de_var 1) (da_nil))) (de_slice (de_var 0) (do_so (de_int)) do_no)))
theorem ok_run_from {f : Addr} {fd : FuncData} (Fu : Fun K "run_from" "run_from" s_run_from f fd) (B : BI mg) (d_next_time : Df P w K mg base 1 "next_time" 2 F_next_time) (d_moved_to : Df P w K mg base 1 "moved_to" 2 F_moved_to) (d_happen : Df P w K mg base 7 "happen" 2 F_happen) : FnOk P w K mg base CX0 8 f fd ["some_model", "state"] (spP K 2 F_run_from) :=
 fn_ok (M := [2]) Fu sc_run_from fun cdv A outer s H E hr =>
 dss_cons (ds_own (i := 2) (df_lst (da_nil)) sc_run_from.nd)
 (dss_cons (ds_set (i := 3) (de_own (df_callD d_next_time (hr.mono (by decide)) (da_cons (de_var 0) (da_cons (de_var 1) (da_nil))))) sc_run_from.nd)
 (dss_cons (ds_wh 1000000000 [4] (dt_cmp (cmp_notN) (de_var 3) (de_non))
 (dss_cons (ds_tgt (.tp [4, 1]) (de_own (df_callD d_happen (hr.mono (by decide)) (da_cons (de_var 0) (da_cons (de_own (df_callD d_moved_to (hr.mono (by decide)) (da_cons (de_var 1) (da_cons (de_var 3) (da_nil))))) (da_nil))))) (pg_tup rfl (pgs_cons (pg_name (i := 4) sc_run_from.nd rfl (by first | exact .inl rfl | exact .inr rfl)) (pgs_cons (pg_name (i := 1) sc_run_from.nd rfl (by first | exact .inl rfl | exact .inr rfl)) (pgs_nil)))))
 (dss_cons (ds_ext (i := 2) (de_var 4) (hp := fun _ h => pe_bm PySem.F.plainAttrs_list PySem.F.slot_list_extend PySem.F.type_list_extend mt_extend (pv 2) h))
 (dss_one (ds_set (i := 3) (de_own (df_callD d_next_time (hr.mono (by decide)) (da_cons (de_var 0) (da_cons (de_var 1) (da_nil))))) sc_run_from.nd)))))
 (dss_one (ds_retO (i := 2)))))
theorem ok_event_run {f : Addr} {fd : FuncData} (Fu : Fun K "event_run" "event_run" s_event_run f fd) (B : BI mg) (d_first_state : Df P w K mg base 1 "first_state" 1 F_first_state) (d_run_from : Df P w K mg base 8 "run_from" 2 F_run_from) : FnOk P w K mg base CX0 9 f fd ["some_model"] (spP K 1 F_event_run) :=
 fn_ok (M := []) Fu sc_event_run fun cdv A outer s H E hr =>
 dss_one (ds_ret (df_callD d_run_from (hr.mono (by decide)) (da_cons (de_var 0) (da_cons (de_own (df_callD d_first_state (hr.mono (by decide)) (da_cons (de_var 0) (da_nil)))) (da_nil)))))
theorem ok_steps_at {f : Addr} {fd : FuncData} (Fu : Fun K "steps_at" "steps_at" s_steps_at f fd) (B : BI mg) (d_route_of : Df P w K mg base 1 "route_of" 2 F_route_of) : FnOk P w K mg base CX0 2 f fd ["some_model", "name"] (spP K 2 F_steps_at) :=
 fn_ok (M := [2]) Fu sc_steps_at fun cdv A outer s H E hr =>
 dss_cons (ds_own (i := 2) (df_lst (da_nil)) sc_steps_at.nd)
 (dss_cons (ds_for [3, 4, 5, 6, 7] (.nm 3) (di_range1 B.range_ (de_callB c_len rfl B.len_ (by decide +kernel) (da_cons (de_idx hr.hu1 (de_var 0) (de_int)) (da_nil)))) (pg_name (i := 3) sc_steps_at.nd rfl (by first | exact .inl rfl | exact .inr rfl))
 (dss_cons (ds_set (i := 4) (de_own (df_callD d_route_of (hr.mono (by decide)) (da_cons (de_var 0) (da_cons (de_var 3) (da_nil))))) sc_steps_at.nd)
 (dss_cons (ds_setLc (i := 5) (own := [("at", 8), ("length", 9)]) [4] (.tp [8, 9]) (di_seq (de_var 4)) (blkOk_by (by kernel_rfl)) (fun _ _ _ _ _ => pg_tup rfl (pgs_cons (pg_name (i := 8) sc_steps_at.nd rfl (by first | exact .inl rfl | exact .inr rfl)) (pgs_cons (pg_name (i := 9) sc_steps_at.nd rfl (by first | exact .inl rfl | exact .inr rfl)) (pgs_nil)))) (fun _ _ _ _ _ => dt_yes) (fun _ _ _ _ _ => df_flat (de_var 9)) sc_steps_at.nd (sw_true rfl rfl rfl (by decide +kernel)))
 (dss_one (ds_for [6, 7] (.nm 6) (di_range1 B.range_ (de_callB c_len rfl B.len_ (by decide +kernel) (da_cons (de_var 4) (da_nil)))) (pg_name (i := 6) sc_steps_at.nd rfl (by first | exact .inl rfl | exact .inr rfl))
 (dss_one (ds_if (dt_cmp (cmp_eq hr.hu64) (de_idx hr.hu1 (de_idx hr.hu1 (de_var 4) (de_var 6)) (de_int)) (de_var 1))
 (dss_cons (ds_set (i := 7) (de_add (de_idx hr.hu1 (de_idx hr.hu1 (de_idx hr.hu1 (de_var 0) (de_int)) (de_var 3)) (de_int)) (de_callB c_sum rfl B.sum_ (by decide +kernel) (da_cons (de_slice (de_var 5) do_no (do_so (de_var 6))) (da_nil)))) sc_steps_at.nd)
 (dss_one (ds_app (i := 2) (df_flat (de_tup (da_cons (de_var 7) (da_cons (de_idx hr.hu1 (de_var 5) (de_var 6)) (da_cons (de_callB c_sum rfl B.sum_ (by decide +kernel) (da_cons (de_slice (de_var 5) (do_so (de_add (de_var 6) (de_int))) do_no) (da_nil))) (da_nil)))))) (hp := fun _ h => pe_bm PySem.F.plainAttrs_list PySem.F.slot_list_append PySem.F.type_list_append mt_append (pv 2) h))))
 (dss_nil))))))))
 (dss_one (ds_retO (i := 2))))
theorem ok_work {f : Addr} {fd : FuncData} (Fu : Fun K "work" "work" s_work f fd) (B : BI mg) (d_steps_at : Df P w K mg base 2 "steps_at" 2 F_steps_at) : FnOk P w K mg base CX0 3 f fd ["some_model", "name"] (spP K 2 F_work) :=
 fn_ok (M := []) Fu sc_work fun cdv A outer s H E hr =>
 dss_one (ds_ret (df_flat (de_callB c_sum rfl B.sum_ (by decide +kernel) (da_cons (de_own (df_lc (own := [("early", 2), ("length", 3), ("late", 4)]) (U := [0, 1]) (.tp [2, 3, 4]) (di_seq (de_own (df_callD d_steps_at (hr.mono (by decide)) (da_cons (de_var 0) (da_cons (de_var 1) (da_nil)))))) (blkOk_by (by kernel_rfl)) (fun _ _ _ _ _ => pg_tup rfl (pgs_cons (pg_name (i := 2) sc_work.nd rfl (by first | exact .inl rfl | exact .inr rfl)) (pgs_cons (pg_name (i := 3) sc_work.nd rfl (by first | exact .inl rfl | exact .inr rfl)) (pgs_cons (pg_name (i := 4) sc_work.nd rfl (by first | exact .inl rfl | exact .inr rfl)) (pgs_nil))))) (fun _ _ _ _ _ => dt_yes) (fun _ _ _ _ _ => df_flat (de_var 3)) sc_work.nd)) (da_nil)))))
theorem ok_station_bound {f : Addr} {fd : FuncData} (Fu : Fun K "station_bound" "station_bound" s_station_bound f fd) (B : BI mg) (d_steps_at : Df P w K mg base 2 "steps_at" 2 F_steps_at) (d_work : Df P w K mg base 3 "work" 2 F_work) : FnOk P w K mg base CX0 4 f fd ["some_model", "name"] (spP K 2 F_station_bound) :=
 fn_ok (M := []) Fu sc_station_bound fun cdv A outer s H E hr =>
 dss_cons (ds_set (i := 2) (de_own (df_callD d_steps_at (hr.mono (by decide)) (da_cons (de_var 0) (da_cons (de_var 1) (da_nil))))) sc_station_bound.nd)
 (dss_cons (ds_if (dt_cmp (cmp_eq hr.hu64) (de_callB c_len rfl B.len_ (by decide +kernel) (da_cons (de_var 2) (da_nil))) (de_int))
 (dss_one (ds_ret (df_flat (de_non))))
 (dss_nil))
 (dss_cons (ds_set (i := 3) (de_idx hr.hu1 (de_own (df_lc (own := [("row", 4)]) (U := [0]) (.nm 4) (di_seq (de_idx hr.hu1 (de_var 0) (de_int))) (blkOk_by (by kernel_rfl)) (fun _ _ _ _ _ => pg_name (i := 4) sc_station_bound.nd rfl (by first | exact .inl rfl | exact .inr rfl)) (fun _ _ _ _ _ => dt_one (dt_cmp (cmp_eq hr.hu64) (de_idx hr.hu1 (de_var 4) (de_int)) (de_var 1))) (fun _ _ _ _ _ => df_flat (de_idx hr.hu1 (de_var 4) (de_int))) sc_station_bound.nd)) (de_int)) sc_station_bound.nd)
 (dss_cons (ds_set (i := 5) (de_fdiv (de_subi (de_add (de_own (df_callD d_work (hr.mono (by decide)) (da_cons (de_var 0) (da_cons (de_var 1) (da_nil))))) (de_var 3)) (de_int)) (de_var 3)) sc_station_bound.nd)
 (dss_one (ds_ret (df_add (de_add (de_callB c_min1 rfl B.min_ (by decide +kernel) (da_cons (de_own (df_lc (own := [("early", 6), ("length", 7), ("late", 8)]) (U := [2]) (.tp [6, 7, 8]) (di_seq (de_var 2)) (blkOk_by (by kernel_rfl)) (fun _ _ _ _ _ => pg_tup rfl (pgs_cons (pg_name (i := 6) sc_station_bound.nd rfl (by first | exact .inl rfl | exact .inr rfl)) (pgs_cons (pg_name (i := 7) sc_station_bound.nd rfl (by first | exact .inl rfl | exact .inr rfl)) (pgs_cons (pg_name (i := 8) sc_station_bound.nd rfl (by first | exact .inl rfl | exact .inr rfl)) (pgs_nil))))) (fun _ _ _ _ _ => dt_yes) (fun _ _ _ _ _ => df_flat (de_var 6)) sc_station_bound.nd)) (da_nil))) (de_var 5)) (de_callB c_min1 rfl B.min_ (by decide +kernel) (da_cons (de_own (df_lc (own := [("early", 6), ("length", 7), ("late", 8)]) (U := [2]) (.tp [6, 7, 8]) (di_seq (de_var 2)) (blkOk_by (by kernel_rfl)) (fun _ _ _ _ _ => pg_tup rfl (pgs_cons (pg_name (i := 6) sc_station_bound.nd rfl (by first | exact .inl rfl | exact .inr rfl)) (pgs_cons (pg_name (i := 7) sc_station_bound.nd rfl (by first | exact .inl rfl | exact .inr rfl)) (pgs_cons (pg_name (i := 8) sc_station_bound.nd rfl (by first | exact .inl rfl | exact .inr rfl)) (pgs_nil))))) (fun _ _ _ _ _ => dt_yes) (fun _ _ _ _ _ => df_flat (de_var 8)) sc_station_bound.nd)) (da_nil)))))))))
theorem ok_job_bound {f : Addr} {fd : FuncData} (Fu : Fun K "job_bound" "job_bound" s_job_bound f fd) (B : BI mg) (d_route_of : Df P w K mg base 1 "route_of" 2 F_route_of) : FnOk P w K mg base CX0 2 f fd ["some_model", "job"] (spP K 2 F_job_bound) :=
 fn_ok (M := []) Fu sc_job_bound fun cdv A outer s H E hr =>
 dss_one (ds_ret (df_add (de_idx hr.hu1 (de_idx hr.hu1 (de_idx hr.hu1 (de_var 0) (de_int)) (de_var 1)) (de_int)) (de_callB c_sum rfl B.sum_ (by decide +kernel) (da_cons (de_own (df_lc (own := [("at", 2), ("length", 3)]) (U := [0, 1]) (.tp [2, 3]) (di_seq (de_own (df_callD d_route_of (hr.mono (by decide)) (da_cons (de_var 0) (da_cons (de_var 1) (da_nil)))))) (blkOk_by (by kernel_rfl)) (fun _ _ _ _ _ => pg_tup rfl (pgs_cons (pg_name (i := 2) sc_job_bound.nd rfl (by first | exact .inl rfl | exact .inr rfl)) (pgs_cons (pg_name (i := 3) sc_job_bound.nd rfl (by first | exact .inl rfl | exact .inr rfl)) (pgs_nil)))) (fun _ _ _ _ _ => dt_yes) (fun _ _ _ _ _ => df_flat (de_var 3)) sc_job_bound.nd)) (da_nil)))))
theorem ok_bottleneck {f : Addr} {fd : FuncData} (Fu : Fun K "bottleneck" "bottleneck" s_bottleneck f fd) (B : BI mg) (d_station_names : Df P w K mg base 1 "station_names" 1 F_station_names) (d_station_bound : Df P w K mg base 4 "station_bound" 2 F_station_bound) (d_job_bound : Df P w K mg base 2 "job_bound" 2 F_job_bound) : FnOk P w K mg base CX0 5 f fd ["some_model"] (spP K 1 F_bottleneck) :=
 fn_ok (M := []) Fu sc_bottleneck fun cdv A outer s H E hr =>
 dss_cons (ds_set (i := 1) (de_non) sc_bottleneck.nd)
 (dss_cons (ds_for [2, 3] (.nm 2) (di_seq (de_own (df_callD d_station_names (hr.mono (by decide)) (da_cons (de_var 0) (da_nil))))) (pg_name (i := 2) sc_bottleneck.nd rfl (by first | exact .inl rfl | exact .inr rfl))
 (dss_cons (ds_set (i := 3) (de_own (df_callD d_station_bound (hr.mono (by decide)) (da_cons (de_var 0) (da_cons (de_var 2) (da_nil))))) sc_bottleneck.nd)
 (dss_one (ds_if (PW.pt (dw_and (dt_cmp (cmp_notN) (de_var 3) (de_non)) (dw_and1 (PW.pt (dw_or (dt_cmp (cmp_isN) (de_var 1) (de_non)) (dw_or1 (dt_cmp (cmp_gt) (de_var 3) (de_idx hr.hu1 (de_var 1) (de_int)))))))))
 (dss_one (ds_set (i := 1) (de_tup (da_cons (de_str) (da_cons (de_var 2) (da_cons (de_var 3) (da_nil))))) sc_bottleneck.nd))
 (dss_nil)))))
 (dss_cons (ds_for [4, 3] (.nm 4) (di_range1 B.range_ (de_callB c_len rfl B.len_ (by decide +kernel) (da_cons (de_idx hr.hu1 (de_var 0) (de_int)) (da_nil)))) (pg_name (i := 4) sc_bottleneck.nd rfl (by first | exact .inl rfl | exact .inr rfl))
 (dss_cons (ds_set (i := 3) (de_own (df_callD d_job_bound (hr.mono (by decide)) (da_cons (de_var 0) (da_cons (de_var 4) (da_nil))))) sc_bottleneck.nd)
 (dss_one (ds_if (dt_cmp (cmp_gt) (de_var 3) (de_idx hr.hu1 (de_var 1) (de_int)))
 (dss_one (ds_set (i := 1) (de_tup (da_cons (de_str) (da_cons (de_var 4) (da_cons (de_var 3) (da_nil))))) sc_bottleneck.nd))
 (dss_nil)))))
 (dss_one (ds_ret (df_flat (de_var 1))))))
theorem ok_slack {f : Addr} {fd : FuncData} (Fu : Fun K "slack" "slack" s_slack f fd) (B : BI mg) (d_event_run : Df P w K mg base 9 "event_run" 1 F_event_run) (d_stuck : Df P w K mg base 9 "stuck" 1 F_stuck) (d_bottleneck : Df P w K mg base 5 "bottleneck" 1 F_bottleneck) : FnOk P w K mg base CX0 10 f fd ["some_model"] (spP K 1 F_slack) :=
 fn_ok (M := []) Fu sc_slack fun cdv A outer s H E hr =>
 dss_cons (ds_set (i := 1) (de_own (df_callD d_event_run (hr.mono (by decide)) (da_cons (de_var 0) (da_nil)))) sc_slack.nd)
 (dss_cons (ds_setLc (i := 2) (own := [("event", 3)]) [1] (.nm 3) (di_seq (de_var 1)) (blkOk_by (by kernel_rfl)) (fun _ _ _ _ _ => pg_name (i := 3) sc_slack.nd rfl (by first | exact .inl rfl | exact .inr rfl)) (fun _ _ _ _ _ => dt_one (dt_cmp (cmp_eq hr.hu64) (de_idx hr.hu1 (de_var 3) (de_int)) (de_str))) (fun _ _ _ _ _ => df_flat (de_var 3)) sc_slack.nd (sw_true rfl rfl rfl (by decide +kernel)))
 (dss_cons (ds_if (PW.pt (dw_or (dt_cmp (cmp_eq hr.hu64) (de_callB c_len rfl B.len_ (by decide +kernel) (da_cons (de_var 1) (da_nil))) (de_int)) (dw_or (dt_cmp (cmp_gt) (de_callB c_len rfl B.len_ (by decide +kernel) (da_cons (de_var 2) (da_nil))) (de_int)) (dw_or1 (dt_cmp (cmp_gt) (de_callB c_len rfl B.len_ (by decide +kernel) (da_cons (de_own (df_callD d_stuck (hr.mono (by decide)) (da_cons (de_var 0) (da_nil)))) (da_nil))) (de_int))))))
 (dss_one (ds_ret (df_flat (de_non))))
 (dss_nil))
 (dss_one (ds_ret (df_flat (de_subi (de_idx hr.hu1 (de_idx hr.hu1 (de_var 1) (de_neg (de_int))) (de_int)) (de_idx hr.hu1 (de_own (df_callD d_bottleneck (hr.mono (by decide)) (da_cons (de_var 0) (da_nil)))) (de_int))))))))
theorem ok_L_cell {f : Addr} {fd : FuncData} (Fu : Fun K "_law_cell" "_law_cell" s_L_cell f fd) (B : BI mg) : FnOk P w K mg base CX0 1 f fd ["_law_script", "_law_k"] (spP K 2 F_L_cell) :=
 fn_ok (M := []) Fu sc_L_cell fun cdv A outer s H E hr =>
 dss_cons (ds_if (dt_cmp (cmp_lt) (de_var 1) (de_callB c_len rfl B.len_ (by decide +kernel) (da_cons (de_var 0) (da_nil))))
 (dss_one (ds_ret (df_flat (de_idx hr.hu1 (de_var 0) (de_var 1)))))
 (dss_nil))
 (dss_one (ds_ret (df_flat (de_int))))
theorem ok_L_draw {f : Addr} {fd : FuncData} (Fu : Fun K "_law_draw" "_law_draw" s_L_draw f fd) (B : BI mg) (d_L_cell : Df P w K mg base 1 "_law_cell" 2 F_L_cell) : FnOk P w K mg base CX0 2 f fd ["_law_script", "_law_k", "_law_sizes"] (spP K 3 F_L_draw) :=
 fn_ok (M := [4]) Fu sc_L_draw fun cdv A outer s H E hr =>
 dss_cons (ds_set (i := 3) (de_own (df_callD d_L_cell (hr.mono (by decide)) (da_cons (de_var 0) (da_cons (de_var 1) (da_nil))))) sc_L_draw.nd)
 (dss_cons (ds_if (dt_cmp (cmp_lt) (de_var 3) (de_int))
 (dss_one (ds_set (i := 3) (de_neg (de_var 3)) sc_L_draw.nd))
 (dss_nil))
 (dss_cons (ds_own (i := 4) (df_lst (da_nil)) sc_L_draw.nd)
 (dss_cons (ds_if (dt_cmp (cmp_ge) (de_var 3) (de_pow (de_int) (de_int)))
 (dss_cons (ds_set (i := 3) (de_subi (de_var 3) (de_pow (de_int) (de_int))) sc_L_draw.nd)
 (dss_cons (ds_for [5] (.nm 5) (di_seq (de_var 2)) (pg_name (i := 5) sc_L_draw.nd rfl (by first | exact .inl rfl | exact .inr rfl))
 (dss_cons (ds_app (i := 4) (df_flat (de_mod (de_var 3) (de_var 5))) (hp := fun _ h => pe_bm PySem.F.plainAttrs_list PySem.F.slot_list_append PySem.F.type_list_append mt_append (pv 4) h))
 (dss_one (ds_set (i := 3) (de_fdiv (de_var 3) (de_var 5)) sc_L_draw.nd))))
 (dss_one (ds_retO (i := 4)))))
 (dss_nil))
 (dss_cons (ds_set (i := 6) (de_mod (de_add (de_add (de_var 3) (de_int)) (de_mul (de_int) (de_var 1))) (de_int)) sc_L_draw.nd)
 (dss_cons (ds_for [7] (.nm 7) (di_range1 B.range_ (de_callB c_len rfl B.len_ (by decide +kernel) (da_cons (de_var 2) (da_nil)))) (pg_name (i := 7) sc_L_draw.nd rfl (by first | exact .inl rfl | exact .inr rfl))
 (dss_cons (ds_set (i := 6) (de_mod (de_add (de_add (de_mul (de_var 6) (de_int)) (de_int)) (de_var 7)) (de_int)) sc_L_draw.nd)
 (dss_cons (ds_set (i := 6) (de_mod (de_add (de_mul (de_var 6) (de_int)) (de_int)) (de_int)) sc_L_draw.nd)
 (dss_one (ds_app (i := 4) (df_flat (de_mod (de_fdiv (de_var 6) (de_int)) (de_idx hr.hu1 (de_var 2) (de_var 7)))) (hp := fun _ h => pe_bm PySem.F.plainAttrs_list PySem.F.slot_list_append PySem.F.type_list_append mt_append (pv 4) h))))))
 (dss_one (ds_retO (i := 4))))))))
theorem ok_L_stations {f : Addr} {fd : FuncData} (Fu : Fun K "_law_stations" "_law_stations" s_L_stations f fd) (B : BI mg) (d_L_draw : Df P w K mg base 2 "_law_draw" 3 F_L_draw) : FnOk P w K mg base CX0 3 f fd ["_law_script", "_law_k"] (spP K 2 F_L_stations) :=
 fn_ok (M := [3]) Fu sc_L_stations fun cdv A outer s H E hr =>
 dss_cons (ds_set (i := 2) (de_own (df_callD d_L_draw (hr.mono (by decide)) (da_cons (de_var 0) (da_cons (de_var 1) (da_cons (de_lst (da_cons (de_int) (da_cons (de_int) (da_cons (de_int) (da_cons (de_int) (da_cons (de_int) (da_cons (de_int) (da_cons (de_int) (da_cons (de_int) (da_cons (de_int) (da_cons (de_int) (da_cons (de_int) (da_cons (de_int) (da_cons (de_int) (da_nil))))))))))))))) (da_nil)))))) sc_L_stations.nd)
 (dss_cons (ds_own (i := 3) (df_lst (da_nil)) sc_L_stations.nd)
 (dss_cons (ds_for [4, 5, 6] (.nm 4) (di_range1 B.range_ (de_add (de_int) (de_idx hr.hu1 (de_var 2) (de_int)))) (pg_name (i := 4) sc_L_stations.nd rfl (by first | exact .inl rfl | exact .inr rfl))
 (dss_cons (ds_set (i := 5) (de_add (de_int) (de_idx hr.hu1 (de_var 2) (de_add (de_int) (de_mul (de_int) (de_var 4))))) sc_L_stations.nd)
 (dss_cons (ds_set (i := 6) (de_idx hr.hu1 (de_lst (da_cons (de_non) (da_cons (de_var 5) (da_cons (de_add (de_var 5) (de_int)) (da_cons (de_add (de_var 5) (de_int)) (da_nil)))))) (de_idx hr.hu1 (de_var 2) (de_add (de_int) (de_mul (de_int) (de_var 4))))) sc_L_stations.nd)
 (dss_one (ds_app (i := 3) (df_flat (de_tup (da_cons (de_idx hr.hu1 (de_lst (da_cons (de_str) (da_cons (de_str) (da_cons (de_str) (da_cons (de_str) (da_nil)))))) (de_var 4)) (da_cons (de_var 5) (da_cons (de_var 6) (da_cons (de_idx hr.hu1 (de_lst (da_cons (de_str) (da_cons (de_str) (da_cons (de_str) (da_nil))))) (de_idx hr.hu1 (de_var 2) (de_add (de_int) (de_mul (de_int) (de_var 4))))) (da_nil))))))) (hp := fun _ h => pe_bm PySem.F.plainAttrs_list PySem.F.slot_list_append PySem.F.type_list_append mt_append (pv 3) h))))))
 (dss_one (ds_retO (i := 3)))))
theorem ok_L_kinds {f : Addr} {fd : FuncData} (Fu : Fun K "_law_kinds" "_law_kinds" s_L_kinds f fd) (B : BI mg) (d_L_draw : Df P w K mg base 2 "_law_draw" 3 F_L_draw) : FnOk P w K mg base CX0 3 f fd ["_law_script", "_law_k", "_law_many"] (spP K 3 F_L_kinds) :=
 fn_ok (M := [3, 7]) Fu sc_L_kinds fun cdv A outer s H E hr =>
 dss_cons (ds_own (i := 3) (df_lst (da_nil)) sc_L_kinds.nd)
 (dss_cons (ds_set (i := 4) (de_own (df_callD d_L_draw (hr.mono (by decide)) (da_cons (de_var 0) (da_cons (de_var 1) (da_cons (de_lst (da_cons (de_int) (da_cons (de_int) (da_cons (de_int) (da_cons (de_int) (da_cons (de_int) (da_cons (de_int) (da_cons (de_int) (da_nil))))))))) (da_nil)))))) sc_L_kinds.nd)
 (dss_cons (ds_set (i := 5) (de_own (df_callD d_L_draw (hr.mono (by decide)) (da_cons (de_var 0) (da_cons (de_add (de_var 1) (de_int)) (da_cons (de_own (df_rep (de_lst (da_cons (de_int) (da_cons (de_int) (da_nil)))) (de_int))) (da_nil)))))) sc_L_kinds.nd)
 (dss_cons (ds_for [6, 7, 8, 9] (.nm 6) (di_range1 B.range_ (de_add (de_int) (de_idx hr.hu1 (de_var 4) (de_int)))) (pg_name (i := 6) sc_L_kinds.nd rfl (by first | exact .inl rfl | exact .inr rfl))
 (dss_cons (ds_own (i := 7) (df_lst (da_nil)) sc_L_kinds.nd)
 (dss_cons (ds_for [8, 9] (.nm 8) (di_range1 B.range_ (de_add (de_int) (de_idx hr.hu1 (de_var 4) (de_add (de_int) (de_var 6))))) (pg_name (i := 8) sc_L_kinds.nd rfl (by first | exact .inl rfl | exact .inr rfl))
 (dss_cons (ds_set (i := 9) (de_slice (de_var 5) (do_so (de_add (de_mul (de_int) (de_var 6)) (de_mul (de_int) (de_var 8)))) (do_so (de_add (de_add (de_mul (de_int) (de_var 6)) (de_mul (de_int) (de_var 8))) (de_int)))) sc_L_kinds.nd)
 (dss_one (ds_app (i := 7) (df_flat (de_tup (da_cons (de_idx hr.hu1 (de_lst (da_cons (de_str) (da_cons (de_str) (da_cons (de_str) (da_cons (de_str) (da_nil)))))) (de_mod (de_idx hr.hu1 (de_var 9) (de_int)) (de_var 2))) (da_cons (de_add (de_int) (de_idx hr.hu1 (de_var 9) (de_int))) (da_nil))))) (hp := fun _ h => pe_bm PySem.F.plainAttrs_list PySem.F.slot_list_append PySem.F.type_list_append mt_append (pv 7) h)))))
 (dss_one (ds_app (i := 3) (df_pure (df_flat (de_tup (da_cons (de_idx hr.hu1 (de_lst (da_cons (de_str) (da_cons (de_str) (da_cons (de_str) (da_nil))))) (de_var 6)) (da_cons (de_idx hr.hu1 (de_var 4) (de_add (de_int) (de_var 6))) (da_cons (de_callTD c_tupOf rfl B.tuple_ (by decide +kernel) (da_cons (de_var 7) (da_nil))) (da_nil))))))) (hp := fun _ h => pe_bm PySem.F.plainAttrs_list PySem.F.slot_list_append PySem.F.type_list_append mt_append (pv 3) h))))))
 (dss_one (ds_retO (i := 3))))))
theorem ok_L_model {f : Addr} {fd : FuncData} (Fu : Fun K "_law_model" "_law_model" s_L_model f fd) (B : BI mg) (d_L_stations : Df P w K mg base 3 "_law_stations" 2 F_L_stations) (d_L_kinds : Df P w K mg base 3 "_law_kinds" 3 F_L_kinds) (d_L_draw : Df P w K mg base 2 "_law_draw" 3 F_L_draw) : FnOk P w K mg base CX0 4 f fd ["_law_script", "_law_k"] (spP K 2 F_L_model) :=
 fn_ok (M := [5, 9]) Fu sc_L_model fun cdv A outer s H E hr =>
 dss_cons (ds_set (i := 2) (de_own (df_callD d_L_stations (hr.mono (by decide)) (da_cons (de_var 0) (da_cons (de_var 1) (da_nil))))) sc_L_model.nd)
 (dss_cons (ds_set (i := 3) (de_own (df_callD d_L_kinds (hr.mono (by decide)) (da_cons (de_var 0) (da_cons (de_add (de_var 1) (de_int)) (da_cons (de_callB c_len rfl B.len_ (by decide +kernel) (da_cons (de_var 2) (da_nil))) (da_nil)))))) sc_L_model.nd)
 (dss_cons (ds_set (i := 4) (de_own (df_callD d_L_draw (hr.mono (by decide)) (da_cons (de_var 0) (da_cons (de_add (de_var 1) (de_int)) (da_cons (de_lst (da_cons (de_int) (da_cons (de_int) (da_cons (de_int) (da_cons (de_int) (da_cons (de_int) (da_cons (de_int) (da_cons (de_int) (da_cons (de_int) (da_cons (de_int) (da_cons (de_int) (da_nil)))))))))))) (da_nil)))))) sc_L_model.nd)
 (dss_cons (ds_own (i := 5) (df_lst (da_nil)) sc_L_model.nd)
 (dss_cons (ds_for [6, 7] (.nm 6) (di_range1 B.range_ (de_idx hr.hu1 (de_var 4) (de_int))) (pg_name (i := 6) sc_L_model.nd rfl (by first | exact .inl rfl | exact .inr rfl))
 (dss_cons (ds_set (i := 7) (de_add (de_mul (de_int) (de_var 6)) (de_idx hr.hu1 (de_var 4) (de_add (de_int) (de_mul (de_int) (de_var 6))))) sc_L_model.nd)
 (dss_one (ds_app (i := 5) (df_flat (de_tup (da_cons (de_idx hr.hu1 (de_idx hr.hu1 (de_var 2) (de_mod (de_idx hr.hu1 (de_var 4) (de_add (de_int) (de_mul (de_int) (de_var 6)))) (de_callB c_len rfl B.len_ (by decide +kernel) (da_cons (de_var 2) (da_nil))))) (de_int)) (da_cons (de_var 7) (da_cons (de_add (de_add (de_var 7) (de_int)) (de_idx hr.hu1 (de_var 4) (de_add (de_int) (de_mul (de_int) (de_var 6))))) (da_nil)))))) (hp := fun _ h => pe_bm PySem.F.plainAttrs_list PySem.F.slot_list_append PySem.F.type_list_append mt_append (pv 5) h)))))
 (dss_cons (ds_set (i := 8) (de_own (df_callD d_L_draw (hr.mono (by decide)) (da_cons (de_var 0) (da_cons (de_add (de_var 1) (de_int)) (da_cons (de_add (de_lst (da_cons (de_int) (da_nil))) (de_own (df_rep (de_lst (da_cons (de_int) (da_cons (de_int) (da_nil)))) (de_int)))) (da_nil)))))) sc_L_model.nd)
 (dss_cons (ds_own (i := 9) (df_lst (da_nil)) sc_L_model.nd)
 (dss_cons (ds_set (i := 10) (de_int) sc_L_model.nd)
 (dss_cons (ds_for [6] (.nm 6) (di_range1 B.range_ (de_idx hr.hu1 (de_var 8) (de_int))) (pg_name (i := 6) sc_L_model.nd rfl (by first | exact .inl rfl | exact .inr rfl))
 (dss_cons (ds_set (i := 10) (de_add (de_var 10) (de_idx hr.hu1 (de_var 8) (de_add (de_int) (de_mul (de_int) (de_var 6))))) sc_L_model.nd)
 (dss_one (ds_app (i := 9) (df_flat (de_tup (da_cons (de_var 10) (da_cons (de_idx hr.hu1 (de_idx hr.hu1 (de_var 3) (de_mod (de_idx hr.hu1 (de_var 8) (de_add (de_int) (de_mul (de_int) (de_var 6)))) (de_callB c_len rfl B.len_ (by decide +kernel) (da_cons (de_var 3) (da_nil))))) (de_int)) (da_nil))))) (hp := fun _ h => pe_bm PySem.F.plainAttrs_list PySem.F.slot_list_append PySem.F.type_list_append mt_append (pv 9) h)))))
 (dss_fz 9 [5] (dss_fz 5 [] (dss_one (ds_ret (df_flat (de_tup (da_cons (de_callTD c_tupOf rfl B.tuple_ (by decide +kernel) (da_cons (de_var 2) (da_nil))) (da_cons (de_callTD c_tupOf rfl B.tuple_ (by decide +kernel) (da_cons (de_var 3) (da_nil))) (da_cons (de_callTD c_tupOf rfl B.tuple_ (by decide +kernel) (da_cons (de_own (df_callB (c_sorted hr.hu100) rfl B.sorted_ (by decide +kernel) (da_cons (de_var 5) (da_nil)))) (da_nil))) (da_cons (de_callTD c_tupOf rfl B.tuple_ (by decide +kernel) (da_cons (de_var 9) (da_nil))) (da_nil)))))))))))))))))))
theorem ok_L_end {f : Addr} {fd : FuncData} (Fu : Fun K "_law_end" "_law_end" s_L_end f fd) (B : BI mg) : FnOk P w K mg base CX0 1 f fd ["_law_events"] (spP K 1 F_L_end) :=
 fn_ok (M := []) Fu sc_L_end fun cdv A outer s H E hr =>
 dss_cons (ds_if (dt_cmp (cmp_eq hr.hu64) (de_callB c_len rfl B.len_ (by decide +kernel) (da_cons (de_var 0) (da_nil))) (de_int))
 (dss_one (ds_ret (df_flat (de_int))))
 (dss_nil))
 (dss_one (ds_ret (df_add (de_idx hr.hu1 (de_idx hr.hu1 (de_var 0) (de_neg (de_int))) (de_int)) (de_int))))
theorem ok_L_route {f : Addr} {fd : FuncData} (Fu : Fun K "_law_route" "_law_route" s_L_route f fd) (B : BI mg) : FnOk P w K mg base CX0 1 f fd ["_law_model_here", "_law_job"] (spP K 2 F_L_route) :=
 fn_ok (M := []) Fu sc_L_route fun cdv A outer s H E hr =>
 dss_one (ds_ret (df_flat (de_idx hr.hu1 (de_own (df_lc (own := [("_law_name", 2), ("_law_priority", 3), ("_law_route_here", 4)]) (U := [0]) (.tp [2, 3, 4]) (di_seq (de_idx hr.hu1 (de_var 0) (de_int))) (blkOk_by (by kernel_rfl)) (fun _ _ _ _ _ => pg_tup rfl (pgs_cons (pg_name (i := 2) sc_L_route.nd rfl (by first | exact .inl rfl | exact .inr rfl)) (pgs_cons (pg_name (i := 3) sc_L_route.nd rfl (by first | exact .inl rfl | exact .inr rfl)) (pgs_cons (pg_name (i := 4) sc_L_route.nd rfl (by first | exact .inl rfl | exact .inr rfl)) (pgs_nil))))) (fun _ _ _ _ _ => dt_one (dt_cmp (cmp_eq hr.hu64) (de_var 2) (de_idx hr.hu1 (de_idx hr.hu1 (de_idx hr.hu1 (de_var 0) (de_int)) (de_var 1)) (de_int)))) (fun _ _ _ _ _ => df_flat (de_var 4)) sc_L_route.nd)) (de_int))))
theorem ok_L_bound {f : Addr} {fd : FuncData} (Fu : Fun K "_law_bound" "_law_bound" s_L_bound f fd) (B : BI mg) (d_L_route : Df P w K mg base 1 "_law_route" 2 F_L_route) : FnOk P w K mg base CX0 2 f fd ["_law_model_here", "_law_name", "_law_servers"] (spP K 3 F_L_bound) :=
 fn_ok (M := [3]) Fu sc_L_bound fun cdv A outer s H E hr =>
 dss_cons (ds_own (i := 3) (df_lst (da_nil)) sc_L_bound.nd)
 (dss_cons (ds_for [4, 5, 6, 7] (.nm 4) (di_range1 B.range_ (de_callB c_len rfl B.len_ (by decide +kernel) (da_cons (de_idx hr.hu1 (de_var 0) (de_int)) (da_nil)))) (pg_name (i := 4) sc_L_bound.nd rfl (by first | exact .inl rfl | exact .inr rfl))
 (dss_cons (ds_set (i := 5) (de_own (df_callD d_L_route (hr.mono (by decide)) (da_cons (de_var 0) (da_cons (de_var 4) (da_nil))))) sc_L_bound.nd)
 (dss_one (ds_for [6, 7] (.nm 6) (di_range1 B.range_ (de_callB c_len rfl B.len_ (by decide +kernel) (da_cons (de_var 5) (da_nil)))) (pg_name (i := 6) sc_L_bound.nd rfl (by first | exact .inl rfl | exact .inr rfl))
 (dss_one (ds_if (dt_cmp (cmp_eq hr.hu64) (de_idx hr.hu1 (de_idx hr.hu1 (de_var 5) (de_var 6)) (de_int)) (de_var 1))
 (dss_cons (ds_set (i := 7) (de_add (de_idx hr.hu1 (de_idx hr.hu1 (de_idx hr.hu1 (de_var 0) (de_int)) (de_var 4)) (de_int)) (de_callB c_sum rfl B.sum_ (by decide +kernel) (da_cons (de_own (df_lc (own := [("_law_step", 8)]) (U := [5]) (.nm 8) (di_seq (de_slice (de_var 5) do_no (do_so (de_var 6)))) (blkOk_by (by kernel_rfl)) (fun _ _ _ _ _ => pg_name (i := 8) sc_L_bound.nd rfl (by first | exact .inl rfl | exact .inr rfl)) (fun _ _ _ _ _ => dt_yes) (fun _ _ _ _ _ => df_flat (de_idx hr.hu1 (de_var 8) (de_int))) sc_L_bound.nd)) (da_nil)))) sc_L_bound.nd)
 (dss_one (ds_app (i := 3) (df_flat (de_tup (da_cons (de_var 7) (da_cons (de_idx hr.hu1 (de_idx hr.hu1 (de_var 5) (de_var 6)) (de_int)) (da_cons (de_callB c_sum rfl B.sum_ (by decide +kernel) (da_cons (de_own (df_lc (own := [("_law_step", 8)]) (U := [5]) (.nm 8) (di_seq (de_slice (de_var 5) (do_so (de_add (de_var 6) (de_int))) do_no)) (blkOk_by (by kernel_rfl)) (fun _ _ _ _ _ => pg_name (i := 8) sc_L_bound.nd rfl (by first | exact .inl rfl | exact .inr rfl)) (fun _ _ _ _ _ => dt_yes) (fun _ _ _ _ _ => df_flat (de_idx hr.hu1 (de_var 8) (de_int))) sc_L_bound.nd)) (da_nil))) (da_nil)))))) (hp := fun _ h => pe_bm PySem.F.plainAttrs_list PySem.F.slot_list_append PySem.F.type_list_append mt_append (pv 3) h))))
 (dss_nil)))))))
 (dss_cons (ds_if (dt_cmp (cmp_eq hr.hu64) (de_callB c_len rfl B.len_ (by decide +kernel) (da_cons (de_var 3) (da_nil))) (de_int))
 (dss_one (ds_ret (df_flat (de_tup (da_cons (de_int) (da_cons (de_non) (da_nil)))))))
 (dss_nil))
 (dss_cons (ds_set (i := 9) (de_callB c_sum rfl B.sum_ (by decide +kernel) (da_cons (de_own (df_lc (own := [("_law_visit", 10)]) (U := [3]) (.nm 10) (di_seq (de_var 3)) (blkOk_by (by kernel_rfl)) (fun _ _ _ _ _ => pg_name (i := 10) sc_L_bound.nd rfl (by first | exact .inl rfl | exact .inr rfl)) (fun _ _ _ _ _ => dt_yes) (fun _ _ _ _ _ => df_flat (de_idx hr.hu1 (de_var 10) (de_int))) sc_L_bound.nd)) (da_nil))) sc_L_bound.nd)
 (dss_cons (ds_set (i := 11) (de_fdiv (de_subi (de_add (de_var 9) (de_var 2)) (de_int)) (de_var 2)) sc_L_bound.nd)
 (dss_one (ds_ret (df_flat (de_tup (da_cons (de_var 9) (da_cons (de_add (de_add (de_callB c_min1 rfl B.min_ (by decide +kernel) (da_cons (de_own (df_lc (own := [("_law_visit", 10)]) (U := [3]) (.nm 10) (di_seq (de_var 3)) (blkOk_by (by kernel_rfl)) (fun _ _ _ _ _ => pg_name (i := 10) sc_L_bound.nd rfl (by first | exact .inl rfl | exact .inr rfl)) (fun _ _ _ _ _ => dt_yes) (fun _ _ _ _ _ => df_flat (de_idx hr.hu1 (de_var 10) (de_int))) sc_L_bound.nd)) (da_nil))) (de_var 11)) (de_callB c_min1 rfl B.min_ (by decide +kernel) (da_cons (de_own (df_lc (own := [("_law_visit", 10)]) (U := [3]) (.nm 10) (di_seq (de_var 3)) (blkOk_by (by kernel_rfl)) (fun _ _ _ _ _ => pg_name (i := 10) sc_L_bound.nd rfl (by first | exact .inl rfl | exact .inr rfl)) (fun _ _ _ _ _ => dt_yes) (fun _ _ _ _ _ => df_flat (de_idx hr.hu1 (de_var 10) (de_int))) sc_L_bound.nd)) (da_nil)))) (da_nil)))))))))))
theorem ok_law {f : Addr} {fd : FuncData} (Fu : Fun K "law" "law" s_law f fd) (B : BI mg) (d_L_model : Df P w K mg base 4 "_law_model" 2 F_L_model) (d_L_bound : Df P w K mg base 2 "_law_bound" 3 F_L_bound) (d_work : Df P w K mg base 3 "work" 2 F_work) (d_station_bound : Df P w K mg base 4 "station_bound" 2 F_station_bound) (d_L_route : Df P w K mg base 1 "_law_route" 2 F_L_route) (d_job_bound : Df P w K mg base 2 "job_bound" 2 F_job_bound) (d_bottleneck : Df P w K mg base 5 "bottleneck" 1 F_bottleneck) (d_event_run : Df P w K mg base 9 "event_run" 1 F_event_run) (d_slack : Df P w K mg base 10 "slack" 1 F_slack) : FnOk P w K mg base CX0 11 f fd ["_law_script"] (spP K 1 F_law) :=
 fn_ok (M := []) Fu sc_law fun cdv A outer s H E hr =>
 dss_cons (ds_for [1, 2, 3, 8, 9, 10, 11, 4, 5, 6, 7, 12] (.nm 1) (di_range1 B.range_ (de_callB c_min2 rfl B.min_ (by decide +kernel) (da_cons (de_int) (da_cons (de_add (de_int) (de_fdiv (de_callB c_len rfl B.len_ (by decide +kernel) (da_cons (de_var 0) (da_nil))) (de_int))) (da_nil))))) (pg_name (i := 1) sc_law.nd rfl (by first | exact .inl rfl | exact .inr rfl))
 (dss_cons (ds_set (i := 2) (de_own (df_callD d_L_model (hr.mono (by decide)) (da_cons (de_var 0) (da_cons (de_mul (de_int) (de_var 1)) (da_nil))))) sc_law.nd)
 (dss_cons (ds_set (i := 3) (de_non) sc_law.nd)
 (dss_cons (ds_for [8, 9, 10, 11, 12] (.tp [8, 9, 10, 11]) (di_seq (de_idx hr.hu1 (de_var 2) (de_int))) (pg_tup rfl (pgs_cons (pg_name (i := 8) sc_law.nd rfl (by first | exact .inl rfl | exact .inr rfl)) (pgs_cons (pg_name (i := 9) sc_law.nd rfl (by first | exact .inl rfl | exact .inr rfl)) (pgs_cons (pg_name (i := 10) sc_law.nd rfl (by first | exact .inl rfl | exact .inr rfl)) (pgs_cons (pg_name (i := 11) sc_law.nd rfl (by first | exact .inl rfl | exact .inr rfl)) (pgs_nil))))))
 (dss_cons (ds_set (i := 12) (de_own (df_callD d_L_bound (hr.mono (by decide)) (da_cons (de_var 2) (da_cons (de_var 8) (da_cons (de_var 9) (da_nil)))))) sc_law.nd)
 (dss_cons (ds_if (PW.pt (dw_or (dt_cmp (cmp_ne hr.hu64) (de_own (df_callD d_work (hr.mono (by decide)) (da_cons (de_var 2) (da_cons (de_var 8) (da_nil))))) (de_idx hr.hu1 (de_var 12) (de_int))) (dw_or1 (dt_cmp (cmp_ne hr.hu64) (de_own (df_callD d_station_bound (hr.mono (by decide)) (da_cons (de_var 2) (da_cons (de_var 8) (da_nil))))) (de_idx hr.hu1 (de_var 12) (de_int))))))
 (dss_one (ds_ret (df_flat (de_bl))))
 (dss_nil))
 (dss_one (ds_if (PW.pt (dw_and (dt_cmp (cmp_notN) (de_idx hr.hu1 (de_var 12) (de_int)) (de_non)) (dw_and1 (PW.pt (dw_or (dt_cmp (cmp_isN) (de_var 3) (de_non)) (dw_or1 (dt_cmp (cmp_gt) (de_idx hr.hu1 (de_var 12) (de_int)) (de_idx hr.hu1 (de_var 3) (de_int)))))))))
 (dss_one (ds_set (i := 3) (de_tup (da_cons (de_str) (da_cons (de_var 8) (da_cons (de_idx hr.hu1 (de_var 12) (de_int)) (da_nil))))) sc_law.nd))
 (dss_nil))))))
 (dss_cons (ds_for [4, 12] (.nm 4) (di_range1 B.range_ (de_callB c_len rfl B.len_ (by decide +kernel) (da_cons (de_idx hr.hu1 (de_var 2) (de_int)) (da_nil)))) (pg_name (i := 4) sc_law.nd rfl (by first | exact .inl rfl | exact .inr rfl))
 (dss_cons (ds_set (i := 12) (de_add (de_idx hr.hu1 (de_idx hr.hu1 (de_idx hr.hu1 (de_var 2) (de_int)) (de_var 4)) (de_int)) (de_callB c_sum rfl B.sum_ (by decide +kernel) (da_cons (de_own (df_lc (own := [("_law_step", 14)]) (U := [2, 4]) (.nm 14) (di_seq (de_own (df_callD d_L_route (hr.mono (by decide)) (da_cons (de_var 2) (da_cons (de_var 4) (da_nil)))))) (blkOk_by (by kernel_rfl)) (fun _ _ _ _ _ => pg_name (i := 14) sc_law.nd rfl (by first | exact .inl rfl | exact .inr rfl)) (fun _ _ _ _ _ => dt_yes) (fun _ _ _ _ _ => df_flat (de_idx hr.hu1 (de_var 14) (de_int))) sc_law.nd)) (da_nil)))) sc_law.nd)
 (dss_cons (ds_if (dt_cmp (cmp_ne hr.hu64) (de_own (df_callD d_job_bound (hr.mono (by decide)) (da_cons (de_var 2) (da_cons (de_var 4) (da_nil))))) (de_var 12))
 (dss_one (ds_ret (df_flat (de_bl))))
 (dss_nil))
 (dss_one (ds_if (PW.pt (dw_or (dt_cmp (cmp_isN) (de_var 3) (de_non)) (dw_or1 (dt_cmp (cmp_gt) (de_var 12) (de_idx hr.hu1 (de_var 3) (de_int))))))
 (dss_one (ds_set (i := 3) (de_tup (da_cons (de_str) (da_cons (de_var 4) (da_cons (de_var 12) (da_nil))))) sc_law.nd))
 (dss_nil))))))
 (dss_cons (ds_if (dt_cmp (cmp_ne hr.hu64) (de_own (df_callD d_bottleneck (hr.mono (by decide)) (da_cons (de_var 2) (da_nil)))) (de_var 3))
 (dss_one (ds_ret (df_flat (de_bl))))
 (dss_nil))
 (dss_cons (ds_set (i := 5) (de_own (df_callD d_event_run (hr.mono (by decide)) (da_cons (de_var 2) (da_nil)))) sc_law.nd)
 (dss_cons (ds_set (i := 6) (de_callB c_len rfl B.len_ (by decide +kernel) (da_cons (de_own (df_lc (own := [("_law_event", 13)]) (U := [5]) (.nm 13) (di_seq (de_var 5)) (blkOk_by (by kernel_rfl)) (fun _ _ _ _ _ => pg_name (i := 13) sc_law.nd rfl (by first | exact .inl rfl | exact .inr rfl)) (fun _ _ _ _ _ => dt_one (dt_cmp (cmp_eq hr.hu64) (de_idx hr.hu1 (de_var 13) (de_int)) (de_str))) (fun _ _ _ _ _ => df_flat (de_int)) sc_law.nd)) (da_nil))) sc_law.nd)
 (dss_cons (ds_set (i := 7) (de_non) sc_law.nd)
 (dss_cons (ds_if (PW.pt (dw_and (dt_cmp (cmp_notN) (de_var 3) (de_non)) (dw_and1 (dt_cmp (cmp_eq hr.hu64) (de_var 6) (de_callB c_len rfl B.len_ (by decide +kernel) (da_cons (de_idx hr.hu1 (de_var 2) (de_int)) (da_nil)))))))
 (dss_one (ds_set (i := 7) (de_subi (de_idx hr.hu1 (de_idx hr.hu1 (de_var 5) (de_neg (de_int))) (de_int)) (de_idx hr.hu1 (de_var 3) (de_int))) sc_law.nd))
 (dss_nil))
 (dss_one (ds_if (dt_cmp (cmp_ne hr.hu64) (de_own (df_callD d_slack (hr.mono (by decide)) (da_cons (de_var 2) (da_nil)))) (de_var 7))
 (dss_one (ds_ret (df_flat (de_bl))))
 (dss_nil)))))))))))))
 (dss_one (ds_ret (df_flat (de_bl))))
end
end DL

/-! Models, states, events as plain data; what stands for them. -/
namespace DL
open PySem PySem.Spec PyProof.Rows L2
abbrev StT := Str × Int × Option Int × Str
abbrev KiT := Str × Int × List (Str × Int)
abbrev PaT := Str × Int × Int
abbrev JoT := Int × Str
structure Mo where
  st : List StT
  ki : List KiT
  pa : List PaT
  jo : List JoT
def eO : Option Int → D
  | none => .non
  | some i => .int i
def eSt (x : StT) : D := .tup [.str x.1, .int x.2.1, eO x.2.2.1, .str x.2.2.2]
def eStep (x : Str × Int) : D := .tup [.str x.1, .int x.2]
def eKi (x : KiT) : D := .tup [.str x.1, .int x.2.1, .tup (x.2.2.map eStep)]
def ePa (x : PaT) : D := .tup [.str x.1, .int x.2.1, .int x.2.2]
def eJo (x : JoT) : D := .tup [.int x.1, .str x.2]
def eMo (m : Mo) : D := .tup [.tup (m.st.map eSt), .tup (m.ki.map eKi), .tup (m.pa.map ePa), .tup (m.jo.map eJo)]
theorem eO_py (o : Option Int) : (eO o).py.canLay0 = true ∧ (eO o).py.depth ≤ 1 ∧ (eO o).plain = true ∧ (eO o).pure = true := by cases o <;> exact ⟨rfl, by simp [eO, D.py, PyData.depth], rfl, rfl⟩
theorem eO_pure (o : Option Int) : (eO o).pure = true := (eO_py o).2.2.2
theorem eStep_plain (x : Str × Int) : (eStep x).plain = true := rfl
theorem eStep_pure (x) : (eStep x).pure = true := rfl
theorem eSt_pure (x) : (eSt x).pure = true := by simp [eSt, eO_pure]
theorem eKi_pure (x) : (eKi x).pure = true := by simp [eKi, pures_map eStep_pure]
theorem ePa_pure (x) : (ePa x).pure = true := rfl
theorem eJo_pure (x) : (eJo x).pure = true := rfl
@[simp] theorem eMo_pure (m) : (eMo m).pure = true := by simp [eMo, pures_map eSt_pure, pures_map eKi_pure, pures_map ePa_pure, pures_map eJo_pure]
@[simp] theorem eMo_flat (m) : (eMo m).flat = true := rfl
theorem idx0 (m : Mo) : (eMo m).idx (.int 0) = some (.tup (m.st.map eSt)) := by simp [eMo]
theorem idx1 (m : Mo) : (eMo m).idx (.int 1) = some (.tup (m.ki.map eKi)) := by simp [eMo]
theorem idx2 (m : Mo) : (eMo m).idx (.int 2) = some (.tup (m.pa.map ePa)) := by simp [eMo]
theorem idx3 (m : Mo) : (eMo m).idx (.int 3) = some (.tup (m.jo.map eJo)) := by simp [eMo]
/-- every text of the model is one -/
structure Mo.tx (m : Mo) : Prop where
  st : Al (fun x => PyData.strOk x.1 = true ∧ PyData.strOk x.2.2.2 = true) m.st
  ki : Al (fun x => PyData.strOk x.1 = true ∧ Al (fun s => PyData.strOk s.1 = true) x.2.2) m.ki
  pa : Al (fun x => PyData.strOk x.1 = true) m.pa
  jo : Al (fun x => PyData.strOk x.2 = true) m.jo
/-! ### states, events -/
inductive Wd where
  | lost | come | begin | fin | move | leave | block
  deriving DecidableEq
def Wd.str : Wd → Str
  | .lost => "lost"
  | .come => "come"
  | .begin => "begin"
  | .fin => "end"
  | .move => "move"
  | .leave => "leave"
  | .block => "block"
abbrev EvT := Int × Wd × Nat × Str
abbrev jD (j : Nat) : D := .int (j : Int)
def eRow (r : List Nat) : D := .lst (r.map jD)
def ePr (x : Int × Nat) : D := .tup [.int x.1, jD x.2]
def eSrow (r : List (Int × Nat)) : D := .lst (r.map ePr)
def eEv (e : EvT) : D := .tup [.int e.1, .str e.2.1.str, jD e.2.2.1, .str e.2.2.2]
theorem jD_pure (x) : (jD x).pure = true := rfl
theorem ePr_pure (x) : (ePr x).pure = true := rfl
theorem eEv_pure (x) : (eEv x).pure = true := rfl
/-- a moment: the state on the way, the events so far -/
structure Mm where
  time : Int
  wait : List (List Nat)
  serv : List (List (Int × Nat))
  ready : List (Int × Nat)
  steps : List Int
  evs : List EvT
def mmF : List Str := ["network", "names", "time", "waiting", "serving", "ready", "steps", "events"]
def eMm (m : Mo) (s : Mm) : D := .obj "Moment" mmF [eMo m, .lst (m.st.map fun x => .str x.1), .int s.time, .lst (s.wait.map eRow), .lst (s.serv.map eSrow), .lst (s.ready.map ePr), .lst (s.steps.map .int), .lst (s.evs.map eEv)]
/-- a state of the program -/
structure Sta where
  time : Int
  wait : List (List Nat)
  serv : List (List (Int × Nat))
  ready : List (Int × Nat)
  steps : List Int
def eSta (s : Sta) : D := .tup [.int s.time, .tup (s.wait.map fun r => .tup (r.map jD)), .tup (s.serv.map fun r => .tup (r.map ePr)), .tup (s.ready.map ePr), .tup (s.steps.map .int)]
/-! ### reading the moment -/
section
variable (m : Mo) (s : Mm)
theorem fx0 : fIdx mmF "network" = some 0 := by decide +kernel
theorem fx1 : fIdx mmF "names" = some 1 := by decide +kernel
theorem fx2 : fIdx mmF "time" = some 2 := by decide +kernel
theorem fx3 : fIdx mmF "waiting" = some 3 := by decide +kernel
theorem fx4 : fIdx mmF "serving" = some 4 := by decide +kernel
theorem fx5 : fIdx mmF "ready" = some 5 := by decide +kernel
theorem fx6 : fIdx mmF "steps" = some 6 := by decide +kernel
theorem fx7 : fIdx mmF "events" = some 7 := by decide +kernel
theorem fld_of {C : Str} {ns : List Str} {xs : List D} {f : Str} {j : Nat} {y : D} (h : fIdx ns f = some j) (k : xs[j]? = some y) : (D.obj C ns xs).fld f = some y := by
  show (fIdx ns f).bind (fun j => xs[j]?) = some y
  rw [h]; exact k
theorem hasM_of {C : Str} {ns : List Str} {xs : List D} {f : Str} (h : fIdx ns f = none) : (D.obj C ns xs).hasM C f = true := by
  show (decide (C = C) && (fIdx ns f).isNone) = true
  rw [h]; simp
@[simp] theorem mm_cls : (eMm m s).cls = some ("Moment" : Str) := rfl
@[simp] theorem mm_f0 : (eMm m s).fld "network" = some (eMo m) := fld_of fx0 rfl
@[simp] theorem mm_f1 : (eMm m s).fld "names" = some (.lst (m.st.map fun x => .str x.1)) := fld_of fx1 rfl
@[simp] theorem mm_f2 : (eMm m s).fld "time" = some (.int s.time) := fld_of fx2 rfl
@[simp] theorem mm_f3 : (eMm m s).fld "waiting" = some (.lst (s.wait.map eRow)) := fld_of fx3 rfl
@[simp] theorem mm_f4 : (eMm m s).fld "serving" = some (.lst (s.serv.map eSrow)) := fld_of fx4 rfl
@[simp] theorem mm_f5 : (eMm m s).fld "ready" = some (.lst (s.ready.map ePr)) := fld_of fx5 rfl
@[simp] theorem mm_f6 : (eMm m s).fld "steps" = some (.lst (s.steps.map .int)) := fld_of fx6 rfl
@[simp] theorem mm_f7 : (eMm m s).fld "events" = some (.lst (s.evs.map eEv)) := fld_of fx7 rfl
theorem mm_m (x : Str) (h : fIdx mmF x = none) : (eMm m s).hasM "Moment" x = true := hasM_of h
@[simp] theorem mm_m1 : (eMm m s).hasM "Moment" "put" = true := mm_m m s _ (by decide +kernel)
@[simp] theorem mm_m2 : (eMm m s).hasM "Moment" "here" = true := mm_m m s _ (by decide +kernel)
@[simp] theorem mm_m3 : (eMm m s).hasM "Moment" "ready_at" = true := mm_m m s _ (by decide +kernel)
@[simp] theorem mm_m4 : (eMm m s).hasM "Moment" "is_full" = true := mm_m m s _ (by decide +kernel)
@[simp] theorem mm_m5 : (eMm m s).hasM "Moment" "end_services" = true := mm_m m s _ (by decide +kernel)
@[simp] theorem mm_m6 : (eMm m s).hasM "Moment" "go_on" = true := mm_m m s _ (by decide +kernel)
@[simp] theorem mm_m7 : (eMm m s).hasM "Moment" "chosen" = true := mm_m m s _ (by decide +kernel)
@[simp] theorem mm_m8 : (eMm m s).hasM "Moment" "begin_services" = true := mm_m m s _ (by decide +kernel)
@[simp] theorem mm_m9 : (eMm m s).hasM "Moment" "settle" = true := mm_m m s _ (by decide +kernel)
@[simp] theorem mm_m10 : (eMm m s).hasM "Moment" "arrive" = true := mm_m m s _ (by decide +kernel)
@[simp] theorem mm_m11 : (eMm m s).hasM "Moment" "told_state" = true := mm_m m s _ (by decide +kernel)
/-! paths -/
@[simp] theorem at_nil (d : D) : d.at [] = some d := by unfold D.at; rfl
@[simp] theorem put_nil (d d' : D) : d.put [] d' = some d' := by unfold D.put; rfl
theorem path_fld {i : Nat} {fl : Str} {j : Nat} {ρ : En} (h : dV i ρ = some (eMm m s)) (hf : fIdx mmF fl = some j) : pFld i "Moment" fl pSl ρ = some [j] := by
  rw [pFld_ap, pSl_ap, Option.bind_some, h, Option.bind_some, at_nil, Option.bind_some]
  show (if ("Moment" : Str) = "Moment" then (fIdx mmF fl).map fun j => [] ++ [j] else none) = _
  rw [if_pos rfl, hf]; rfl
theorem mm_at3 : (eMm m s).at [3] = some (.lst (s.wait.map eRow)) := by simp [D.at, eMm, D.kids]
theorem mm_at4 : (eMm m s).at [4] = some (.lst (s.serv.map eSrow)) := by simp [D.at, eMm, D.kids]
theorem mm_at5 : (eMm m s).at [5] = some (.lst (s.ready.map ePr)) := by simp [D.at, eMm, D.kids]
theorem mm_at6 : (eMm m s).at [6] = some (.lst (s.steps.map .int)) := by simp [D.at, eMm, D.kids]
theorem mm_at7 : (eMm m s).at [7] = some (.lst (s.evs.map eEv)) := by simp [D.at, eMm, D.kids]
theorem mm_at3' {p : Nat} {r : List Nat} (h : s.wait[p]? = some r) : (eMm m s).at [3, p] = some (eRow r) := by simp [D.at, eMm, D.kids, h]
theorem mm_at4' {p : Nat} {r : List (Int × Nat)} (h : s.serv[p]? = some r) : (eMm m s).at [4, p] = some (eSrow r) := by simp [D.at, eMm, D.kids, h]
theorem mm_put3 (w : List (List Nat)) : (eMm m s).put [3] (.lst (w.map eRow)) = some (eMm m { s with wait := w }) := by simp [D.put, eMm, D.kids, D.withK]
theorem mm_put4 (w : List (List (Int × Nat))) : (eMm m s).put [4] (.lst (w.map eSrow)) = some (eMm m { s with serv := w }) := by simp [D.put, eMm, D.kids, D.withK]
theorem mm_put5 (w : List (Int × Nat)) : (eMm m s).put [5] (.lst (w.map ePr)) = some (eMm m { s with ready := w }) := by simp [D.put, eMm, D.kids, D.withK]
theorem mm_put6 (w : List Int) : (eMm m s).put [6] (.lst (w.map .int)) = some (eMm m { s with steps := w }) := by simp [D.put, eMm, D.kids, D.withK]
theorem mm_put7 (w : List EvT) : (eMm m s).put [7] (.lst (w.map eEv)) = some (eMm m { s with evs := w }) := by simp [D.put, eMm, D.kids, D.withK]
theorem mm_put3' {p : Nat} {r r' : List Nat} (h : s.wait[p]? = some r) : (eMm m s).put [3, p] (eRow r') = some (eMm m { s with wait := s.wait.set p r' }) := by simp [D.put, eMm, D.kids, D.withK, h, List.map_set]
theorem mm_put4' {p : Nat} {r r' : List (Int × Nat)} (h : s.serv[p]? = some r) : (eMm m s).put [4, p] (eSrow r') = some (eMm m { s with serv := s.serv.set p r' }) := by simp [D.put, eMm, D.kids, D.withK, h, List.map_set]
theorem setF_of {C : Str} {ns : List Str} {xs : List D} {f : Str} {y : D} (h : ns.length < 1000) : D.setF C f (.obj C ns xs) y = some (.obj C (fPutN ns f) (fPutX ns xs f y)) := by
  show (if C = C ∧ ns.length < 1000 then some (D.obj C (fPutN ns f) (fPutX ns xs f y)) else none) = _
  rw [if_pos ⟨rfl, h⟩]
/-- self.ready = .. -/
theorem setF_ready (w : List (Int × Nat)) : D.setF "Moment" "ready" (eMm m s) (.lst (w.map ePr)) = some (eMm m { s with ready := w }) := by
  have e : D.setF "Moment" "ready" (eMm m s) (.lst (w.map ePr)) = some (.obj "Moment" (fPutN mmF "ready") (fPutX mmF [eMo m, .lst (m.st.map fun x => .str x.1), .int s.time, .lst (s.wait.map eRow), .lst (s.serv.map eSrow), .lst (s.ready.map ePr), .lst (s.steps.map .int), .lst (s.evs.map eEv)] "ready" (.lst (w.map ePr)))) := by
    exact setF_of (by decide)
  rw [e]
  have h1 : fPutN mmF "ready" = mmF := by unfold fPutN; rw [fx5]; rfl
  rw [h1]
  unfold fPutX
  rw [fx5]
  rfl
end
end DL

/-! What the program's questions answer. -/
namespace DL
open PySem PySem.Spec PyProof.Rows L2
/-! ### searches -/
theorem ok_find {α : Type} {ρ : En} {g : Ei} {fg : List Nat} {tg : Tg} {t : Et} {fe : Ev} {Q : Out → Prop} (enc : α → D) (items : List α) (p : α → Bool) (val : α → D) (I : En → Prop) (hg : g ρ = some (items.map enc)) (h0 : I ρ)
    (hs : ∀ a ∈ items, ∀ ρ, I ρ → ∃ ρ1, tg.set (enc a) (fgt fg ρ) = some ρ1 ∧ t ρ1 = some (p a) ∧ (p a = true → fe ρ1 = some (val a)) ∧ I ρ1)
    (hn : items.find? p = none → ∀ ρ, I ρ → Q (.nx (fgt fg ρ))) (hr : ∀ a ρ, items.find? p = some a → Q (.rt (val a) ρ)) : Ok (sFor fg g tg (sIf t (sRet fe) sNil) ρ) Q := by
  unfold sFor
  rw [hg, Option.bind_some]
  refine ok_forX enc items (fun done ρ => (∀ x ∈ done, p x = false) ∧ I ρ) (fun d => ∃ a, items.find? p = some a ∧ d = val a) ⟨fun _ z => (nomatch z), h0⟩ (fun done a rest ρ e ⟨hd, hi⟩ => ?_) (fun ρ ⟨hd, hi⟩ => ?_) (fun d ρ ⟨a, e, he⟩ => ?_)
  · obtain ⟨ρ1, e1, e2, e3, e4⟩ := hs a (by rw [e]; simp) ρ hi
    refine ⟨ρ1, e1, ?_⟩
    cases hp : p a with
    | true =>
      rw [ok_ifT (by rw [e2, hp]), ok_ret]
      refine ⟨val a, e3 hp, a, ?_, rfl⟩
      rw [e, List.find?_append, List.find?_eq_none.mpr (by simpa using hd)]
      simp [hp]
    | false =>
      rw [ok_ifF (by rw [e2, hp]), ok_nil]
      refine ⟨fun x hx => ?_, e4⟩
      rcases List.mem_append.mp hx with z | z
      · exact hd x z
      · rw [List.mem_singleton.mp z]; exact hp
  · exact hn (List.find?_eq_none.mpr (by simpa using hd)) ρ hi
  · rw [he]; exact hr a ρ e
/-! ### the model -/
def Mo.names (m : Mo) : List Str := m.st.map (·.1)
def Mo.kindOf (m : Mo) (j : Nat) : Option KiT := m.ki.find? fun k => decide (k.1 = (m.jo.getD j (0, "")).2)
def Mo.route (m : Mo) (j : Nat) : List (Str × Int) := match m.kindOf j with
  | some k => k.2.2
  | none => []
def Mo.prio (m : Mo) (j : Nat) : Int := match m.kindOf j with
  | some k => k.2.1
  | none => 0
theorem jo_at {m : Mo} {j : Nat} (hj : j < m.jo.length) : D.idx (.tup (m.jo.map eJo)) (jD j) = some (eJo (m.jo.getD j (0, ""))) := by
  rw [idx_tup, atI_nat (by simpa using hj), List.getElem?_map, List.getElem?_eq_getElem hj, List.getD_eq_getElem?_getD, List.getElem?_eq_getElem hj]; rfl
@[simp] theorem eJo0 (x : JoT) : D.idx (eJo x) (.int 0) = some (.int x.1) := by simp [eJo]
@[simp] theorem eJo1 (x : JoT) : D.idx (eJo x) (.int 1) = some (.str x.2) := by simp [eJo]
theorem route_ok {m : Mo} {j : Nat} (hj : j < m.jo.length) : F_route_of [eMo m, jD j] = some (.tup ((m.route j).map eStep)) := by
  refine call_ok rfl ?_
  unfold B_route_of
  refine seq_ok.mpr ?_
  refine ok_find eKi m.ki (fun k => decide (k.1 = (m.jo.getD j (0, "")).2)) (fun k => .tup (k.2.2.map eStep)) (fun ρ => ∃ o2 o3 o4, ρ = [some (eMo m), some (jD j), o2, o3, o4]) (by simp [idx1]) ⟨none, none, none, rfl⟩ ?_ ?_ ?_
  · rintro a ha ρ ⟨o2, o3, o4, rfl⟩
    refine ⟨_, rfl, ?_, ?_, _, _, _, rfl⟩
    · simp [idx3, jo_at hj, -idx_tup]
    · simp
  · rintro e ρ ⟨o2, o3, o4, rfl⟩
    simp only [ok_ret]
    refine ⟨.tup [], by simp [mkT_of], ?_⟩
    unfold Mo.route Mo.kindOf; rw [e]; rfl
  · intro a ρ e
    unfold Mo.route Mo.kindOf
    rw [e]
theorem names_ok {m : Mo} : F_station_names [eMo m] = some (.lst (m.st.map fun x => .str x.1)) := by
  refine call_ok rfl ?_
  unfold B_station_names
  refine ok_ret.mpr ⟨_, dLc_map eSt (fun x => .str x.1) m.st (by simp [idx0]) fun x _ => ?_, rfl⟩
  simp [eSt, wipeE]
theorem prio_ok {m : Mo} {j : Nat} (hj : j < m.jo.length) {k : KiT} (hk : m.kindOf j = some k) : F_priority_of [eMo m, jD j] = some (.int (m.prio j)) := by
  refine call_ok rfl ?_
  unfold B_priority_of
  have e := dLc_filter (ρ := [some (eMo m), some (jD j), none, none, none]) (vs := [2, 3, 4]) (tg := .tp [2, 3, 4]) (g := dItems (d2 D.idx (dV 0) (dC (.int 1)))) (t := t2 D.eqB (dV 2) (d2 D.idx (d2 D.idx (d2 D.idx (dV 0) (dC (.int 3))) (dV 1)) (dC (.int 1)))) (f := dFlat (dV 3)) eKi (fun k => .int k.2.1) (fun k => decide (k.1 = (m.jo.getD j (0, "")).2)) m.ki (by simp [idx1]) fun a _ => by
    refine ⟨_, rfl, ?_, ?_⟩
    · simp [wipeE, idx3, jo_at hj, -idx_tup]
    · simp [wipeE]
  simp only [List.map_cons, List.map_nil, List.cons_append, List.nil_append, List.replicate, ok_ret]
  have hh : ∃ r, m.ki.filter (fun k => decide (k.1 = (m.jo.getD j (0, "")).2)) = k :: r := by
    unfold Mo.kindOf at hk
    cases q : m.ki.filter (fun k => decide (k.1 = (m.jo.getD j (0, "")).2)) with
    | nil =>
      have := List.find?_some hk
      have h2 : k ∈ m.ki.filter (fun k => decide (k.1 = (m.jo.getD j (0, "")).2)) := List.mem_filter.mpr ⟨List.mem_of_find?_eq_some hk, this⟩
      rw [q] at h2; cases h2
    | cons a r =>
      have h1 := List.head?_filter (p := fun k : KiT => decide (k.1 = (m.jo.getD j (0, "")).2)) (l := m.ki)
      rw [q, hk] at h1
      simp at h1
      exact ⟨r, by rw [h1]⟩
  obtain ⟨r, hr⟩ := hh
  refine ⟨.int (m.prio j), ?_, rfl⟩
  have ep : m.prio j = k.2.1 := by unfold Mo.prio; rw [hk]
  simp only [dFlat_ap, d2_ap, e, hr, Option.bind_some, dC_ap, List.map_cons, idx_lst, atI0]
  rw [ep]
  rfl
/-! ### a moment -/
/-- job j is at a step of its route -/
def VS (m : Mo) (steps : List Int) (j : Nat) : Prop := j < m.jo.length ∧ ∃ k : Nat, steps[j]? = some (k : Int) ∧ k < (m.route j).length
def stepOf (m : Mo) (steps : List Int) (j : Nat) : Str × Int := (m.route j).getD (steps.getD j 0).toNat ("", 0)
def here (m : Mo) (steps : List Int) (j : Nat) : Str := (stepOf m steps j).1
theorem VS.at {m : Mo} {steps : List Int} {j : Nat} (v : VS m steps j) : D.idx (.lst (steps.map .int)) (jD j) = some (.int (steps.getD j 0)) := by
  obtain ⟨h1, k, h2, h3⟩ := v
  have hl := (List.getElem?_eq_some_iff.mp h2).1
  rw [idx_lst, atI_nat (by simpa using hl), List.getElem?_map, h2, List.getD_eq_getElem?_getD, h2]; rfl
theorem VS.step {m : Mo} {steps : List Int} {j : Nat} (v : VS m steps j) : D.idx (.tup ((m.route j).map eStep)) (.int (steps.getD j 0)) = some (eStep (stepOf m steps j)) := by
  obtain ⟨h1, k, h2, h3⟩ := v
  have e : steps.getD j 0 = (k : Int) := by rw [List.getD_eq_getElem?_getD, h2]; rfl
  unfold stepOf
  rw [e, idx_tup, atI_nat (by simpa using h3), List.getElem?_map, List.getElem?_eq_getElem h3, Int.toNat_natCast, List.getD_eq_getElem?_getD, List.getElem?_eq_getElem h3]; rfl
@[simp] theorem eStep0 (x : Str × Int) : D.idx (eStep x) (.int 0) = some (.str x.1) := by simp [eStep]
@[simp] theorem eStep1 (x : Str × Int) : D.idx (eStep x) (.int 1) = some (.int x.2) := by simp [eStep]
theorem here_ok {m : Mo} {s : Mm} {j : Nat} (v : VS m s.steps j) : F_Moment_here [eMm m s, jD j] = some (.str (here m s.steps j)) := by
  refine call_ok rfl ?_
  unfold B_Moment_here
  simp [route_ok v.1, v.at, v.step, -idx_lst, -idx_tup, here, -List.getD_eq_getElem?_getD]
def readyAt (m : Mo) (s : Mm) (n : Str) : List Nat := (s.ready.filter fun x => decide (here m s.steps x.2 = n)).map (·.2)
theorem readyAt_ok {m : Mo} {s : Mm} {n : Str} (v : ∀ x ∈ s.ready, VS m s.steps x.2) : F_Moment_ready_at [eMm m s, .str n] = some (.lst ((readyAt m s n).map jD)) := by
  refine call_ok rfl ?_
  unfold B_Moment_ready_at
  refine ok_ret.mpr ⟨.lst ((s.ready.filter fun x => decide (here m s.steps x.2 = n)).map fun x => jD x.2), dLc_filter ePr (fun x => jD x.2) (fun x => decide (here m s.steps x.2 = n)) s.ready (by simp) fun x hx => ?_, ?_⟩
  · refine ⟨_, rfl, ?_, ?_⟩
    · simp [wipeE, here_ok (v x hx)]
    · simp [wipeE]
  · simp [readyAt, List.map_map, Function.comp_def]
def Mo.place (m : Mo) (n : Str) : Nat := m.names.idxOf n
theorem scs_strs : ∀ xs : List Str, D.scs (xs.map D.str) = some (xs.map V.str)
  | [] => rfl
  | x :: xs => by simp only [List.map_cons, D.scs, D.sc, Option.bind_some, scs_strs xs]
theorem find_beq (n : Str) : ∀ xs : List Str, n ∈ xs → xs.findIdx? (fun y => y == n) = some (xs.idxOf n)
  | [], h => nomatch h
  | x :: xs, h => by
    rw [List.findIdx?_cons, List.idxOf_cons]
    cases q : x == n with
    | true => simp
    | false =>
      have hm : n ∈ xs := (List.mem_cons.mp h).resolve_left fun z => by subst z; simp at q
      simp [find_beq n xs hm]
theorem find_strs (n : Str) (xs : List Str) (h : n ∈ xs) : (xs.map V.str).findIdx? (fun z => eqV z (.str n)) = some (xs.idxOf n) := by
  rw [List.findIdx?_map]
  exact find_beq n xs h
theorem index_names {m : Mo} {n : Str} (h : n ∈ m.names) : D.index (.lst (m.st.map fun x => .str x.1)) (.str n) = some (jD (m.place n)) := by
  have e : (m.st.map fun x => D.str x.1) = m.names.map D.str := by unfold Mo.names; rw [List.map_map]; rfl
  unfold D.index
  simp only [e, D.sc, Option.bind_some, scs_strs, find_strs n _ h, Option.map_some]
  rfl
theorem Mo.place_lt {m : Mo} {n : Str} (h : n ∈ m.names) : m.place n < m.st.length := by
  have := List.idxOf_lt_length_of_mem h
  unfold Mo.place
  unfold Mo.names at this ⊢
  simpa using this
def Mo.station (m : Mo) (p : Nat) : StT := m.st.getD p ("", 0, none, "")
theorem st_at {m : Mo} {p : Nat} (h : p < m.st.length) : D.idx (.tup (m.st.map eSt)) (jD p) = some (eSt (m.station p)) := by
  rw [idx_tup, atI_nat (by simpa using h), List.getElem?_map, List.getElem?_eq_getElem h]
  unfold Mo.station
  rw [List.getD_eq_getElem?_getD, List.getElem?_eq_getElem h]; rfl
@[simp] theorem eSt0 (x : StT) : D.idx (eSt x) (.int 0) = some (.str x.1) := by simp [eSt]
@[simp] theorem eSt1 (x : StT) : D.idx (eSt x) (.int 1) = some (.int x.2.1) := by simp [eSt]
@[simp] theorem eSt2 (x : StT) : D.idx (eSt x) (.int 2) = some (eO x.2.2.1) := by simp [eSt]
@[simp] theorem eSt3 (x : StT) : D.idx (eSt x) (.int 3) = some (.str x.2.2.2) := by simp [eSt]
theorem rows_at {α : Type} {enc : α → D} {xs : List α} {p : Nat} {r : α} (h : xs[p]? = some r) : D.idx (.lst (xs.map enc)) (jD p) = some (enc r) := by
  have hl := (List.getElem?_eq_some_iff.mp h).1
  rw [idx_lst, atI_nat (by simpa using hl), List.getElem?_map, h]; rfl
def waitAt (s : Mm) (p : Nat) : List Nat := s.wait.getD p []
def servAt (s : Mm) (p : Nat) : List (Int × Nat) := s.serv.getD p []
theorem getD_at {α : Type} {xs : List α} {p : Nat} {d : α} (h : p < xs.length) : xs[p]? = some (xs.getD p d) := by
  rw [List.getD_eq_getElem?_getD, List.getElem?_eq_getElem h]; rfl
def many (m : Mo) (s : Mm) (n : Str) : Int := (waitAt s (m.place n)).length + (servAt s (m.place n)).length + (readyAt m s n).length
def isFull (m : Mo) (s : Mm) (n : Str) : Bool := match (m.station (m.place n)).2.2.1 with
  | none => false
  | some r => decide (r ≤ many m s n)
/-- rows for all stations -/
structure Rows (m : Mo) (s : Mm) : Prop where
  w : s.wait.length = m.st.length
  v : s.serv.length = m.st.length
theorem full_ok {m : Mo} {s : Mm} {n : Str} (r : Rows m s) (v : ∀ x ∈ s.ready, VS m s.steps x.2) (hn : n ∈ m.names) : F_Moment_is_full [eMm m s, .str n] = some (.bl (isFull m s n)) := by
  have hp := m.place_lt hn
  have hw : s.wait[m.place n]? = some (waitAt s (m.place n)) := getD_at (by rw [r.w]; exact hp)
  have hv : s.serv[m.place n]? = some (servAt s (m.place n)) := getD_at (by rw [r.v]; exact hp)
  refine call_ok rfl ?_
  unfold B_Moment_is_full
  simp only [List.map_cons, List.map_nil, List.cons_append, List.nil_append, List.replicate]
  refine seq_set.mpr ⟨jD (m.place n), by simp [index_names hn], ?_⟩
  refine seq_set.mpr ⟨eO (m.station (m.place n)).2.2.1, by simp [idx0, st_at hp, -idx_tup], ?_⟩
  refine seq_set.mpr ⟨.int (many m s n), by simp [rows_at hw, rows_at hv, -idx_lst, eRow, eSrow, readyAt_ok v, many], ?_⟩
  simp only [List.set_cons_succ, List.set_cons_zero, ok_ret]
  unfold isFull
  cases (m.station (m.place n)).2.2.1 with
  | none => exact ⟨.bl false, by simp [eO, D.notN, D.isN, D.isNon], rfl⟩
  | some q => exact ⟨.bl (decide (q ≤ many m s n)), by simp [eO, D.notN, D.isN, D.isNon], rfl⟩
end DL

/-! The simulator as plain functions; what they keep. -/
namespace DL
open PySem PySem.Spec PyProof.Rows L2
/-! ### lists -/
theorem flat_set {α : Type} : ∀ {rows : List (List α)} {p : Nat} {r r' x : List α}, rows[p]? = some r → r'.Perm (x ++ r) → ((rows.set p r').flatten).Perm (x ++ rows.flatten)
  | [], _, _, _, _, h, _ => by simp at h
  | y :: ys, 0, r, r', x, h, k => by
    simp only [List.getElem?_cons_zero, Option.some.injEq] at h
    subst h
    simp only [List.set_cons_zero, List.flatten_cons]
    exact (k.append_right _).trans (by rw [List.append_assoc])
  | y :: ys, p + 1, r, r', x, h, k => by
    simp only [List.getElem?_cons_succ] at h
    simp only [List.set_cons_succ, List.flatten_cons]
    have ih := flat_set h k
    refine (ih.append_left y).trans ?_
    rw [← List.append_assoc, ← List.append_assoc]
    exact List.perm_append_comm.append_right _
theorem flat_unset {α : Type} : ∀ {rows : List (List α)} {p : Nat} {r r' x : List α}, rows[p]? = some r → r.Perm (x ++ r') → (rows.flatten).Perm (x ++ (rows.set p r').flatten)
  | [], _, _, _, _, h, _ => by simp at h
  | y :: ys, 0, r, r', x, h, k => by
    simp only [List.getElem?_cons_zero, Option.some.injEq] at h
    subst h
    simp only [List.set_cons_zero, List.flatten_cons]
    exact (k.append_right _).trans (by rw [List.append_assoc])
  | y :: ys, p + 1, r, r', x, h, k => by
    simp only [List.getElem?_cons_succ] at h
    simp only [List.set_cons_succ, List.flatten_cons]
    have ih := flat_unset h k
    refine (ih.append_left y).trans ?_
    rw [← List.append_assoc, ← List.append_assoc]
    exact List.perm_append_comm.append_right _
theorem sum_one {f f' : Nat → Nat} {n j : Nat} (hj : j < n) (h : ∀ i, i < n → i ≠ j → f' i = f i) : ((List.range n).map f').sum + f j = ((List.range n).map f).sum + f' j := by
  induction n with
  | zero => omega
  | succ n ih =>
    simp only [List.range_succ, List.map_append, List.sum_append, List.map_cons, List.map_nil, List.sum_cons, List.sum_nil]
    by_cases q : j = n
    · subst q
      have : (List.range j).map f' = (List.range j).map f := List.map_congr_left fun i hi => by
        have := List.mem_range.mp hi
        exact h i (by omega) (by omega)
      rw [this]; omega
    · have := ih (by omega) fun i hi hij => h i (by omega) hij
      have e := h n (by omega) (fun z => q z.symm)
      rw [e]; omega
theorem getD_set {α : Type} {xs : List α} {i j : Nat} {x d : α} (h : i < xs.length) : (xs.set i x).getD j d = if j = i then x else xs.getD j d := by
  by_cases q : j = i
  · subst q
    rw [if_pos rfl, List.getD_eq_getElem?_getD, List.getElem?_set_self h]; rfl
  · rw [if_neg q, List.getD_eq_getElem?_getD, List.getElem?_set_ne (Ne.symm q), List.getD_eq_getElem?_getD]
/-! ### the functions -/
def pLt (x y : Int × Nat) : Bool := decide (x.1 < y.1 ∨ (x.1 = y.1 ∧ (x.2 : Int) < y.2))
def jsort (l : List Nat) : List Nat := isort (fun a b => decide ((a : Int) < b)) l
def psort (l : List (Int × Nat)) : List (Int × Nat) := isort pLt l
def Mm.put (s : Mm) (w : Wd) (j : Nat) (n : Str) : Mm := { s with evs := s.evs ++ [(s.time, w, j, n)] }
def over (s : Mm) : List Nat := s.serv.flatMap fun r => (r.filter fun x => decide (x.1 = s.time)).map (·.2)
def endOne (m : Mo) (s : Mm) (j : Nat) : Mm := { s.put .fin j (here m s.steps j) with ready := s.ready ++ [(s.time, j)] }
def endServ (s : Mm) : Mm := { s with serv := s.serv.map fun r => r.filter fun x => !decide (x.1 = s.time) }
def endLoop (m : Mo) (s : Mm) : Mm := (jsort (over s)).foldl (endOne m) (endServ s)
def endServices (m : Mo) (s : Mm) : Mm := { endLoop m s with ready := psort (endLoop m s).ready }
def nextSt (m : Mo) (s : Mm) (j : Nat) : Str := ((m.route j).getD (s.steps.getD j 0 + 1).toNat ("", 0)).1
def leaveOne (m : Mo) (s : Mm) (x : Int × Nat) : Mm := { s.put .leave x.2 (here m s.steps x.2) with ready := s.ready.erase x, steps := s.steps.set x.2 (-2) }
def moveOne (m : Mo) (s : Mm) (x : Int × Nat) (n : Str) : Mm := { s.put .move x.2 n with ready := s.ready.erase x, steps := s.steps.set x.2 (s.steps.getD x.2 0 + 1), wait := s.wait.set (m.place n) (waitAt s (m.place n) ++ [x.2]) }
def goOn (m : Mo) (s : Mm) (x : Int × Nat) : Mm :=
  if s.steps.getD x.2 0 + 1 = ((m.route x.2).length : Int) then leaveOne m s x
  else if isFull m s (nextSt m s x.2) = true then s else moveOne m s x (nextSt m s x.2)
def chosen (m : Mo) (s : Mm) (p : Nat) : Nat :=
  if (m.station p).2.2.2 = "first" then (waitAt s p).headD 0
  else if (m.station p).2.2.2 = "last" then (waitAt s p).getLastD 0
  else ((waitAt s p).filter fun j => decide (m.prio j = maxI ((waitAt s p).map m.prio))).headD 0
def beginOne (m : Mo) (p : Nat) (s : Mm) : Mm := { s.put .begin (chosen m s p) (m.station p).1 with
  wait := s.wait.set p ((waitAt s p).erase (chosen m s p)), serv := s.serv.set p (servAt s p ++ [(s.time + (stepOf m s.steps (chosen m s p)).2, chosen m s p)]) }
def canBegin (m : Mo) (p : Nat) (s : Mm) : Bool := decide (0 < (waitAt s p).length) && decide (((servAt s p).length : Int) + (readyAt m s (m.station p).1).length < (m.station p).2.1)
def beginN (m : Mo) (p : Nat) : Nat → Mm → Mm
  | 0, s => s
  | k + 1, s => if canBegin m p s = true then beginN m p k (beginOne m p s) else s
def sortServ (p : Nat) (s : Mm) : Mm := { s with serv := s.serv.set p (psort (servAt s p)) }
def beginServices (m : Mo) (s : Mm) (p : Nat) : Mm := sortServ p (beginN m p (waitAt s p).length s)
def pzM (N : Str) (T : Int) (l : List PaT) : Bool := l.any fun x => decide (x.1 = N) && (decide (x.2.1 ≤ T) && decide (T < x.2.2))
def beginAt (m : Mo) (s : Mm) (p : Nat) : Mm := if pzM (m.station p).1 s.time m.pa = true then s else beginServices m s p
def roundGo (m : Mo) (s : Mm) : Mm := s.ready.foldl (goOn m) s
def round (m : Mo) (s : Mm) : Mm := (List.range m.st.length).foldl (beginAt m) (roundGo m s)
def settleN (m : Mo) : Nat → Mm → Mm
  | 0, s => s
  | k + 1, s => if s.evs.length < (round m s).evs.length then settleN m k (round m s) else round m s
def rem (m : Mo) (steps : List Int) (j : Nat) : Nat := if steps.getD j 0 = -1 then (m.route j).length + 1 else if 0 ≤ steps.getD j 0 then (m.route j).length - (steps.getD j 0).toNat else 0
def rems (m : Mo) (steps : List Int) : Nat := ((List.range m.jo.length).map (rem m steps)).sum
def phi (m : Mo) (s : Mm) : Nat := 3 * rems m s.steps + 2 * s.wait.flatten.length + s.serv.flatten.length
def settle (m : Mo) (s : Mm) : Mm := settleN m (phi m s + 1) s
def firstSt (m : Mo) (j : Nat) : Str := ((m.route j).headD ("", 0)).1
def lostOne (m : Mo) (s : Mm) (j : Nat) : Mm := { s.put .lost j (firstSt m j) with steps := s.steps.set j (-3) }
def comeOne (m : Mo) (s : Mm) (j : Nat) : Mm := { s.put .come j (firstSt m j) with steps := s.steps.set j 0, wait := s.wait.set (m.place (firstSt m j)) (waitAt s (m.place (firstSt m j)) ++ [j]) }
def jtime (m : Mo) (j : Nat) : Int := (m.jo.getD j (0, "")).1
def arriveOne (m : Mo) (s : Mm) (j : Nat) : Mm := if jtime m j = s.time then if isFull m s (firstSt m j) = true then lostOne m s j else comeOne m s j else s
def arrive (m : Mo) (s : Mm) : Mm := (List.range m.jo.length).foldl (arriveOne m) s
def blockOne (m : Mo) (s : Mm) (x : Int × Nat) : Mm := if x.1 = s.time then s.put .block x.2 (here m s.steps x.2) else s
def blocks (m : Mo) (s : Mm) : Mm := s.ready.foldl (blockOne m) s
def Sta.mm (a : Sta) : Mm := ⟨a.time, a.wait, a.serv, a.ready, a.steps, []⟩
def Mm.told (s : Mm) : Sta := ⟨s.time + 1, s.wait, s.serv, s.ready, s.steps⟩
def happenM (m : Mo) (a : Sta) : Mm := blocks m (settle m (arrive m (settle m (endServices m a.mm))))
def happen (m : Mo) (a : Sta) : List EvT × Sta := ((happenM m a).evs, (happenM m a).told)
def dueTimes (m : Mo) (a : Sta) : List Int := (a.serv.flatMap fun r => r.map (·.1)) ++ m.jo.map (·.1) ++ m.pa.map (·.2.2)
def nextTime (m : Mo) (a : Sta) : Option Int := match (dueTimes m a).filter fun t => decide (a.time ≤ t) with
  | [] => none
  | t :: ts => some (minI (t :: ts))
def firstSta (m : Mo) : Sta := ⟨0, m.st.map fun _ => [], m.st.map fun _ => [], [], m.jo.map fun _ => -1⟩
def Sta.at (a : Sta) (t : Int) : Sta := { a with time := t }
def runN (m : Mo) : Nat → Sta → List EvT
  | 0, _ => []
  | k + 1, a => match nextTime m a with
    | none => []
    | some t => (happen m (a.at t)).1 ++ runN m k (happen m (a.at t)).2
/-! ### models that can be run -/
structure Mok (m : Mo) : Prop where
  nd : m.names.Nodup
  rt : ∀ k ∈ m.ki, k.2.2 ≠ [] ∧ k.2.2.length ≤ 10 ∧ ∀ s ∈ k.2.2, s.1 ∈ m.names
  jk : ∀ j ∈ m.jo, ∃ k ∈ m.ki, k.1 = j.2
  nst : m.st.length ≤ 100
  njo : m.jo.length ≤ 60
  npa : m.pa.length ≤ 60
theorem Mok.kind {m : Mo} (h : Mok m) {j : Nat} (hj : j < m.jo.length) : ∃ k, m.kindOf j = some k ∧ k ∈ m.ki := by
  have hm : m.jo.getD j (0, "") ∈ m.jo := by
    rw [List.getD_eq_getElem?_getD, List.getElem?_eq_getElem hj]; exact List.getElem_mem hj
  obtain ⟨k, hk, e⟩ := h.jk _ hm
  cases q : m.kindOf j with
  | some k' => exact ⟨k', rfl, List.mem_of_find?_eq_some q⟩
  | none =>
    unfold Mo.kindOf at q
    have := List.find?_eq_none.mp q k hk
    simp [e] at this
theorem Mok.route {m : Mo} (h : Mok m) {j : Nat} (hj : j < m.jo.length) : m.route j ≠ [] ∧ (m.route j).length ≤ 10 ∧ ∀ s ∈ m.route j, s.1 ∈ m.names := by
  obtain ⟨k, e, hk⟩ := h.kind hj
  unfold Mo.route
  rw [e]
  exact h.rt k hk
theorem VS.congr {m : Mo} {st st' : List Int} {j : Nat} (v : VS m st j) (h : st'[j]? = st[j]?) : VS m st' j := by
  obtain ⟨h1, k, h2, h3⟩ := v
  exact ⟨h1, k, by rw [h, h2], h3⟩
theorem stepOf_congr {m : Mo} {st st' : List Int} {j : Nat} (h : st'[j]? = st[j]?) : stepOf m st' j = stepOf m st j := by
  have e : st'.getD j 0 = st.getD j 0 := by rw [List.getD_eq_getElem?_getD, List.getD_eq_getElem?_getD, h]
  unfold stepOf
  rw [e]
theorem VS.mem {m : Mo} {st : List Int} {j : Nat} (v : VS m st j) : stepOf m st j ∈ m.route j := by
  obtain ⟨h1, k, h2, h3⟩ := v
  have e : st.getD j 0 = (k : Int) := by rw [List.getD_eq_getElem?_getD, h2]; rfl
  unfold stepOf
  rw [e, Int.toNat_natCast, List.getD_eq_getElem?_getD, List.getElem?_eq_getElem h3]
  exact List.getElem_mem h3
theorem VS.get {m : Mo} {st : List Int} {j : Nat} (v : VS m st j) : ∃ k : Nat, st.getD j 0 = (k : Int) ∧ k < (m.route j).length ∧ j < st.length := by
  obtain ⟨h1, k, h2, h3⟩ := v
  exact ⟨k, by rw [List.getD_eq_getElem?_getD, h2]; rfl, h3, (List.getElem?_eq_some_iff.mp h2).1⟩
/-! ### what stands -/
def jobs (s : Mm) : List Nat := s.wait.flatten ++ (s.serv.flatten.map (·.2) ++ s.ready.map (·.2))
structure WF (m : Mo) (s : Mm) : Prop where
  rows : Rows m s
  sl : s.steps.length = m.jo.length
  vs : ∀ j ∈ jobs s, VS m s.steps j
  nd : (jobs s).Nodup
theorem WF.rv {m : Mo} {s : Mm} (w : WF m s) : ∀ x ∈ s.ready, VS m s.steps x.2 := fun x hx => w.vs _ (by
  unfold jobs
  exact List.mem_append_right _ (List.mem_append_right _ (List.mem_map.mpr ⟨x, hx, rfl⟩)))
theorem WF.sv {m : Mo} {s : Mm} (w : WF m s) : ∀ r ∈ s.serv, ∀ x ∈ r, VS m s.steps x.2 := fun r hr x hx => w.vs _ (by
  unfold jobs
  exact List.mem_append_right _ (List.mem_append_left _ (List.mem_map.mpr ⟨x, List.mem_flatten.mpr ⟨r, hr, hx⟩, rfl⟩)))
theorem WF.wv {m : Mo} {s : Mm} (w : WF m s) : ∀ r ∈ s.wait, ∀ j ∈ r, VS m s.steps j := fun r hr x hx => w.vs _ (by
  unfold jobs
  exact List.mem_append_left _ (List.mem_flatten.mpr ⟨r, hr, hx⟩))
theorem nodup_le {n : Nat} : ∀ {l : List Nat}, l.Nodup → (∀ x ∈ l, x < n) → l.length ≤ n := by
  induction n with
  | zero =>
    intro l h k
    cases l with
    | nil => simp
    | cons x l => have := k x (by simp); omega
  | succ n ih =>
    intro l h k
    by_cases q : n ∈ l
    · have h1 := ih (l := l.erase n) (h.erase n) fun x hx => by
        have h2 := (List.Nodup.mem_erase_iff h).mp hx
        have := k x h2.2
        omega
      have := List.length_erase_of_mem q
      omega
    · have := ih h fun x hx => by
        have h2 := k x hx
        have : x ≠ n := fun z => q (z ▸ hx)
        omega
      omega
theorem WF.jl {m : Mo} {s : Mm} (w : WF m s) : (jobs s).length ≤ m.jo.length := nodup_le w.nd fun x hx => (w.vs x hx).1
theorem WF.lens {m : Mo} {s : Mm} (w : WF m s) : s.wait.flatten.length + s.serv.flatten.length + s.ready.length ≤ m.jo.length := by
  have := w.jl
  unfold jobs at this
  simp only [List.length_append, List.length_map] at this
  omega
/-- from jobs in another order, steps as they were -/
theorem WF.perm {m : Mo} {s s' : Mm} (w : WF m s) (r : Rows m s') (p : (jobs s').Perm (jobs s)) (e : s'.steps = s.steps) : WF m s' :=
  ⟨r, by rw [e]; exact w.sl, fun j hj => by rw [e]; exact w.vs j (p.mem_iff.mp hj), p.nodup_iff.mpr w.nd⟩
theorem erase_perm {α : Type} [BEq α] [LawfulBEq α] {l : List α} {x : α} (h : x ∈ l) : l.Perm (x :: l.erase x) := List.perm_cons_erase h
end DL

/-! Each step of the simulator keeps what stands, and uses up what there is to do. -/
namespace DL
open PySem PySem.Spec PyProof.Rows L2
/-- from s to s': the time stands, events come behind, and each uses up one thing to do -/
structure Go (m : Mo) (s s' : Mm) : Prop where
  tm : s'.time = s.time
  ev : ∃ l, s'.evs = s.evs ++ l
  dec : s'.evs.length + phi m s' ≤ s.evs.length + phi m s
theorem Go.refl (m : Mo) (s : Mm) : Go m s s := ⟨rfl, ⟨[], by simp⟩, Nat.le_refl _⟩
theorem Go.trans {m : Mo} {s s1 s2 : Mm} (a : Go m s s1) (b : Go m s1 s2) : Go m s s2 := by
  obtain ⟨l, e⟩ := a.ev
  obtain ⟨l', e'⟩ := b.ev
  exact ⟨b.tm.trans a.tm, ⟨l ++ l', by rw [e', e, List.append_assoc]⟩, Nat.le_trans b.dec a.dec⟩
theorem Go.len {m : Mo} {s s' : Mm} (a : Go m s s') : s.evs.length ≤ s'.evs.length := by
  obtain ⟨l, e⟩ := a.ev
  rw [e]; simp
@[simp] theorem put_evs (s : Mm) (w : Wd) (j : Nat) (n : Str) : (s.put w j n).evs = s.evs ++ [(s.time, w, j, n)] := rfl
/-- the rows' total lengths under a change -/
theorem flat_len {α : Type} {rows : List (List α)} {p : Nat} {r r' : List α} (h : rows[p]? = some r) : (rows.set p r').flatten.length + r.length = rows.flatten.length + r'.length := by
  have a := (flat_set (x := r') (r := []) (r' := r') (rows := rows.set p []) (p := p) (by
    have := (List.getElem?_eq_some_iff.mp h).1
    exact List.getElem?_set_self this) (by simp)).length_eq
  have b := (flat_unset (x := r) (r' := []) h (by simp)).length_eq
  rw [List.set_set] at a
  simp only [List.length_append] at a b
  omega
theorem rem_of {m : Mo} {st : List Int} {j : Nat} {k : Nat} (h : st.getD j 0 = (k : Int)) : rem m st j = (m.route j).length - k := by
  unfold rem
  rw [h, if_neg (by omega), if_pos (by omega), Int.toNat_natCast]
theorem rems_set {m : Mo} {st : List Int} {j : Nat} {v : Int} (hj : j < m.jo.length) (hl : j < st.length) : rems m (st.set j v) + rem m st j = rems m st + rem m (st.set j v) j := by
  unfold rems
  refine sum_one hj fun i hi hij => ?_
  unfold rem
  rw [getD_set hl, if_neg hij]
theorem jobs_ready {m : Mo} {s : Mm} (w : WF m s) {x : Int × Nat} (h : x ∈ s.ready) : s.wait.flatten ++ (s.serv.flatten.map (·.2) ++ x.2 :: (s.ready.erase x).map (·.2)) |>.Perm (jobs s) := by
  unfold jobs
  refine List.Perm.append_left _ (List.Perm.append_left _ ?_)
  exact ((erase_perm h).map (·.2)).symm
/-- a ready job goes away -/
theorem nd_ready {m : Mo} {s : Mm} (w : WF m s) {x : Int × Nat} (h : x ∈ s.ready) : (x.2 :: (s.wait.flatten ++ (s.serv.flatten.map (·.2) ++ (s.ready.erase x).map (·.2)))).Nodup := by
  have p := jobs_ready w h
  refine List.Perm.nodup_iff ?_ |>.mpr w.nd
  refine List.Perm.trans ?_ p
  rw [← List.append_assoc, ← List.append_assoc]
  exact (List.perm_middle).symm
theorem vs_set {m : Mo} {st : List Int} {j i : Nat} {v : Int} (h : VS m st i) (hij : i ≠ j) : VS m (st.set j v) i := h.congr (List.getElem?_set_ne (Ne.symm hij))
theorem leave_wf {m : Mo} {s : Mm} (w : WF m s) {x : Int × Nat} (h : x ∈ s.ready) (hk : s.steps.getD x.2 0 + 1 = ((m.route x.2).length : Int)) : WF m (leaveOne m s x) ∧ Go m s (leaveOne m s x) := by
  have n := nd_ready w h
  obtain ⟨n1, n2⟩ := List.nodup_cons.mp n
  obtain ⟨k, e1, e2, e3⟩ := (w.rv x h).get
  have hv := (w.rv x h).1
  refine ⟨⟨⟨w.rows.w, w.rows.v⟩, by show (s.steps.set _ _).length = _; rw [List.length_set]; exact w.sl, fun i hi => ?_, n2⟩, rfl, ⟨_, rfl⟩, ?_⟩
  · have hi : i ∈ s.wait.flatten ++ (s.serv.flatten.map (·.2) ++ (s.ready.erase x).map (·.2)) := hi
    have hm : i ∈ jobs s := (jobs_ready w h).mem_iff.mp (by
      rcases List.mem_append.mp hi with z | z
      · exact List.mem_append_left _ z
      · rcases List.mem_append.mp z with z | z
        · exact List.mem_append_right _ (List.mem_append_left _ z)
        · exact List.mem_append_right _ (List.mem_append_right _ (List.mem_cons_of_mem _ z)))
    exact vs_set (w.vs i hm) fun z => n1 (z ▸ hi)
  · have r := rems_set (v := -2) hv e3
    rw [rem_of e1] at r
    have r2 : rem m (s.steps.set x.2 (-2)) x.2 = 0 := by
      unfold rem
      rw [getD_set e3, if_pos rfl]
      rfl
    rw [r2] at r
    show (s.evs ++ [_]).length + (3 * rems m (s.steps.set x.2 (-2)) + 2 * s.wait.flatten.length + s.serv.flatten.length) ≤ s.evs.length + (3 * rems m s.steps + 2 * s.wait.flatten.length + s.serv.flatten.length)
    rw [List.length_append, List.length_singleton]
    omega
theorem nextSt_mem {m : Mo} (hm : Mok m) {s : Mm} {j : Nat} (v : VS m s.steps j) (hk : ¬ s.steps.getD j 0 + 1 = ((m.route j).length : Int)) : nextSt m s j ∈ m.names := by
  obtain ⟨k, e1, e2, e3⟩ := v.get
  obtain ⟨_, _, r⟩ := hm.route v.1
  unfold nextSt
  rw [e1, List.getD_eq_getElem?_getD, List.getElem?_eq_getElem (by omega)]
  exact r _ (List.getElem_mem _)
theorem move_wf {m : Mo} {s : Mm} (w : WF m s) {x : Int × Nat} {n : Str} (h : x ∈ s.ready) (hk : ¬ s.steps.getD x.2 0 + 1 = ((m.route x.2).length : Int)) (hn : n ∈ m.names) : WF m (moveOne m s x n) ∧ Go m s (moveOne m s x n) := by
  have nd := nd_ready w h
  obtain ⟨n1, n2⟩ := List.nodup_cons.mp nd
  obtain ⟨k, e1, e2, e3⟩ := (w.rv x h).get
  have hv := (w.rv x h).1
  have hp := m.place_lt hn
  have hw : s.wait[m.place n]? = some (waitAt s (m.place n)) := getD_at (by rw [w.rows.w]; exact hp)
  have pw := flat_set (r' := waitAt s (m.place n) ++ [x.2]) (x := [x.2]) hw List.perm_append_comm
  have pj : (jobs (moveOne m s x n)).Perm (x.2 :: (s.wait.flatten ++ (s.serv.flatten.map (·.2) ++ (s.ready.erase x).map (·.2)))) := pw.append_right _
  refine ⟨⟨⟨by show (s.wait.set _ _).length = _; rw [List.length_set]; exact w.rows.w, w.rows.v⟩, by show (s.steps.set _ _).length = _; rw [List.length_set]; exact w.sl, fun i hi => ?_, pj.nodup_iff.mpr nd⟩, rfl, ⟨_, rfl⟩, ?_⟩
  · rcases List.mem_cons.mp (pj.mem_iff.mp hi) with z | z
    · rw [z]
      exact ⟨hv, k + 1, by show (s.steps.set x.2 (s.steps.getD x.2 0 + 1))[x.2]? = _; rw [List.getElem?_set_self e3, e1]; rfl, by omega⟩
    · have hm : i ∈ jobs s := (jobs_ready w h).mem_iff.mp (by
        rcases List.mem_append.mp z with z | z
        · exact List.mem_append_left _ z
        · rcases List.mem_append.mp z with z | z
          · exact List.mem_append_right _ (List.mem_append_left _ z)
          · exact List.mem_append_right _ (List.mem_append_right _ (List.mem_cons_of_mem _ z)))
      exact vs_set (w.vs i hm) fun q => n1 (q ▸ z)
  · have r := rems_set (v := s.steps.getD x.2 0 + 1) hv e3
    rw [rem_of e1] at r
    have r2 : rem m (s.steps.set x.2 (s.steps.getD x.2 0 + 1)) x.2 = (m.route x.2).length - (k + 1) := rem_of (by rw [getD_set e3, if_pos rfl, e1]; rfl)
    rw [r2] at r
    have fl := flat_len (r' := waitAt s (m.place n) ++ [x.2]) hw
    rw [List.length_append, List.length_singleton] at fl
    show (s.evs ++ [_]).length + (3 * rems m (s.steps.set x.2 (s.steps.getD x.2 0 + 1)) + 2 * (s.wait.set (m.place n) (waitAt s (m.place n) ++ [x.2])).flatten.length + s.serv.flatten.length) ≤ s.evs.length + (3 * rems m s.steps + 2 * s.wait.flatten.length + s.serv.flatten.length)
    rw [List.length_append, List.length_singleton]
    omega
theorem goOn_wf {m : Mo} (hm : Mok m) {s : Mm} (w : WF m s) {x : Int × Nat} (h : x ∈ s.ready) : WF m (goOn m s x) ∧ Go m s (goOn m s x) := by
  unfold goOn
  split
  · exact leave_wf w h (by assumption)
  · split
    · exact ⟨w, .refl m s⟩
    · exact move_wf w h (by assumption) (nextSt_mem hm (w.rv x h) (by assumption))
/-- goOn takes away at most its own pair -/
theorem goOn_ready {m : Mo} {s : Mm} {x y : Int × Nat} (h : y ∈ s.ready) (hxy : y ≠ x) : y ∈ (goOn m s x).ready := by
  unfold goOn
  split
  · exact (List.mem_erase_of_ne hxy).mpr h
  · split
    · exact h
    · exact (List.mem_erase_of_ne hxy).mpr h
theorem WF.rnd {m : Mo} {s : Mm} (w : WF m s) : s.ready.Nodup := by
  have h := w.nd
  unfold jobs at h
  have h2 := (List.nodup_append.mp (List.nodup_append.mp h).2.1).2.1
  exact List.Pairwise.of_map (·.2) (fun a b h z => h (by rw [z])) h2
theorem foldGo_wf {m : Mo} (hm : Mok m) : ∀ (l : List (Int × Nat)) {s : Mm}, WF m s → l.Nodup → (∀ x ∈ l, x ∈ s.ready) → WF m (l.foldl (goOn m) s) ∧ Go m s (l.foldl (goOn m) s)
  | [], s, w, _, _ => ⟨w, .refl m s⟩
  | x :: l, s, w, n, h => by
    obtain ⟨n1, n2⟩ := List.nodup_cons.mp n
    obtain ⟨w1, g1⟩ := goOn_wf hm w (h x (by simp))
    obtain ⟨w2, g2⟩ := foldGo_wf hm l w1 n2 fun y hy => goOn_ready (h y (by simp [hy])) fun z => n1 (z ▸ hy)
    exact ⟨w2, g1.trans g2⟩
theorem roundGo_wf {m : Mo} (hm : Mok m) {s : Mm} (w : WF m s) : WF m (roundGo m s) ∧ Go m s (roundGo m s) := foldGo_wf hm _ w w.rnd fun _ h => h
theorem chosen_mem {m : Mo} {s : Mm} {p : Nat} (h : 0 < (waitAt s p).length) : chosen m s p ∈ waitAt s p := by
  have hne : waitAt s p ≠ [] := fun z => by rw [z] at h; simp at h
  unfold chosen
  split
  · cases q : waitAt s p with
    | nil => exact absurd q hne
    | cons a r => simp
  · split
    · cases q : waitAt s p with
      | nil => exact absurd q hne
      | cons a r => rw [List.getLastD_cons]; exact (by
          cases r with
          | nil => simp
          | cons b r => simp [List.getLastD_eq_getLast?, List.getLast?_eq_some_getLast (l := b :: r) (by simp)])
    · obtain ⟨hx, _⟩ := maxI_ok (ns := (waitAt s p).map m.prio) (by simpa using hne)
      obtain ⟨j, hj, e⟩ := List.mem_map.mp hx
      have hf : j ∈ (waitAt s p).filter fun j => decide (m.prio j = maxI ((waitAt s p).map m.prio)) := List.mem_filter.mpr ⟨hj, by simpa using e⟩
      cases q : (waitAt s p).filter fun j => decide (m.prio j = maxI ((waitAt s p).map m.prio)) with
      | nil => rw [q] at hf; cases hf
      | cons a r =>
        have : a ∈ (waitAt s p).filter fun j => decide (m.prio j = maxI ((waitAt s p).map m.prio)) := by rw [q]; simp
        exact (List.mem_filter.mp this).1
theorem beginOne_wf {m : Mo} {s : Mm} (w : WF m s) {p : Nat} (hp : p < m.st.length) (h : 0 < (waitAt s p).length) : WF m (beginOne m p s) ∧ Go m s (beginOne m p s) := by
  have hc := chosen_mem (m := m) h
  have hw : s.wait[p]? = some (waitAt s p) := getD_at (by rw [w.rows.w]; exact hp)
  have hs : s.serv[p]? = some (servAt s p) := getD_at (by rw [w.rows.v]; exact hp)
  have p1 := flat_unset (x := [chosen m s p]) (r' := (waitAt s p).erase (chosen m s p)) hw (erase_perm hc)
  have p2 := flat_set (x := [(s.time + (stepOf m s.steps (chosen m s p)).2, chosen m s p)]) (r' := servAt s p ++ [(s.time + (stepOf m s.steps (chosen m s p)).2, chosen m s p)]) hs List.perm_append_comm
  have pj : (jobs (beginOne m p s)).Perm (jobs s) := by
    show ((s.wait.set p _).flatten ++ ((s.serv.set p _).flatten.map (·.2) ++ s.ready.map (·.2))).Perm (s.wait.flatten ++ (s.serv.flatten.map (·.2) ++ s.ready.map (·.2)))
    refine (((p2.map (·.2)).append_right _).append_left _).trans ?_
    refine List.Perm.trans ?_ (p1.append_right _).symm
    simp only [List.map_append, List.map_cons, List.map_nil, List.singleton_append, List.cons_append]
    exact List.perm_middle
  refine ⟨w.perm ⟨by show (s.wait.set _ _).length = _; rw [List.length_set]; exact w.rows.w, by show (s.serv.set _ _).length = _; rw [List.length_set]; exact w.rows.v⟩ pj rfl, rfl, ⟨_, rfl⟩, ?_⟩
  have l1 := p1.length_eq
  have l2 := p2.length_eq
  simp only [List.length_append, List.length_singleton] at l1 l2
  show (s.evs ++ [_]).length + (3 * rems m s.steps + 2 * (s.wait.set p ((waitAt s p).erase (chosen m s p))).flatten.length + (s.serv.set p (servAt s p ++ [(s.time + (stepOf m s.steps (chosen m s p)).2, chosen m s p)])).flatten.length) ≤ s.evs.length + (3 * rems m s.steps + 2 * s.wait.flatten.length + s.serv.flatten.length)
  rw [List.length_append, List.length_singleton]
  omega
theorem beginN_wf {m : Mo} {p : Nat} (hp : p < m.st.length) : ∀ (k : Nat) {s : Mm}, WF m s → WF m (beginN m p k s) ∧ Go m s (beginN m p k s)
  | 0, s, w => ⟨w, .refl m s⟩
  | k + 1, s, w => by
    unfold beginN
    split
    · rename_i h
      unfold canBegin at h
      rw [Bool.and_eq_true] at h
      obtain ⟨w1, g1⟩ := beginOne_wf w hp (of_decide_eq_true h.1)
      obtain ⟨w2, g2⟩ := beginN_wf hp k w1
      exact ⟨w2, g1.trans g2⟩
    · exact ⟨w, .refl m s⟩
theorem sortServ_wf {m : Mo} {p : Nat} (hp : p < m.st.length) {s : Mm} (w : WF m s) : WF m (sortServ p s) ∧ Go m s (sortServ p s) := by
  have hs : s.serv[p]? = some (servAt s p) := getD_at (by rw [w.rows.v]; exact hp)
  have e1 : s.serv.set p (servAt s p) = s.serv := set_self hs
  have p2 := flat_set (x := []) (r' := psort (servAt s p)) hs (isort_perm _ _)
  refine ⟨w.perm ⟨w.rows.w, by show (s.serv.set _ _).length = _; rw [List.length_set]; exact w.rows.v⟩ (((p2.map (·.2)).append_right _).append_left _) rfl, rfl, ⟨[], by simp [sortServ]⟩, ?_⟩
  have l2 := p2.length_eq
  simp only [List.nil_append] at l2
  show s.evs.length + (3 * rems m s.steps + 2 * s.wait.flatten.length + (s.serv.set p (psort (servAt s p))).flatten.length) ≤ _
  rw [l2]
  exact Nat.le_refl _
theorem beginServices_wf {m : Mo} {p : Nat} (hp : p < m.st.length) {s : Mm} (w : WF m s) : WF m (beginServices m s p) ∧ Go m s (beginServices m s p) := by
  obtain ⟨w1, g1⟩ := beginN_wf hp (waitAt s p).length w
  obtain ⟨w2, g2⟩ := sortServ_wf hp w1
  exact ⟨w2, g1.trans g2⟩
theorem beginAt_wf {m : Mo} {p : Nat} (hp : p < m.st.length) {s : Mm} (w : WF m s) : WF m (beginAt m s p) ∧ Go m s (beginAt m s p) := by
  unfold beginAt
  split
  · exact ⟨w, .refl m s⟩
  · exact beginServices_wf hp w
theorem foldBegin_wf {m : Mo} : ∀ (l : List Nat) {s : Mm}, (∀ p ∈ l, p < m.st.length) → WF m s → WF m (l.foldl (beginAt m) s) ∧ Go m s (l.foldl (beginAt m) s)
  | [], s, _, w => ⟨w, .refl m s⟩
  | p :: l, s, h, w => by
    obtain ⟨w1, g1⟩ := beginAt_wf (h p (by simp)) w
    obtain ⟨w2, g2⟩ := foldBegin_wf l (fun q hq => h q (by simp [hq])) w1
    exact ⟨w2, g1.trans g2⟩
theorem round_wf {m : Mo} (hm : Mok m) {s : Mm} (w : WF m s) : WF m (round m s) ∧ Go m s (round m s) := by
  obtain ⟨w1, g1⟩ := roundGo_wf hm w
  obtain ⟨w2, g2⟩ := foldBegin_wf (List.range m.st.length) (fun p hp => List.mem_range.mp hp) w1
  exact ⟨w2, g1.trans g2⟩
theorem settleN_wf {m : Mo} (hm : Mok m) : ∀ (k : Nat) {s : Mm}, WF m s → WF m (settleN m k s) ∧ Go m s (settleN m k s)
  | 0, s, w => ⟨w, .refl m s⟩
  | k + 1, s, w => by
    obtain ⟨w1, g1⟩ := round_wf hm w
    unfold settleN
    split
    · obtain ⟨w2, g2⟩ := settleN_wf hm k w1
      exact ⟨w2, g1.trans g2⟩
    · exact ⟨w1, g1⟩
theorem settle_wf {m : Mo} (hm : Mok m) {s : Mm} (w : WF m s) : WF m (settle m s) ∧ Go m s (settle m s) := settleN_wf hm _ w
/-! ### ends -/
structure EndI (m : Mo) (l : List Nat) (s : Mm) : Prop where
  rows : Rows m s
  sl : s.steps.length = m.jo.length
  vs : ∀ j ∈ l ++ jobs s, VS m s.steps j
  nd : (l ++ jobs s).Nodup
theorem jsort_perm (l : List Nat) : (jsort l).Perm l := isort_perm _ _
theorem psort_perm (l : List (Int × Nat)) : (psort l).Perm l := isort_perm _ _
theorem over_perm : ∀ (serv : List (List (Int × Nat))) (t : Int), (serv.flatten.map (·.2)).Perm ((serv.flatMap fun r => (r.filter fun x => decide (x.1 = t)).map (·.2)) ++ ((serv.map fun r => r.filter fun x => !decide (x.1 = t)).flatten).map (·.2))
  | [], t => by simp
  | r :: rs, t => by
    have ih := over_perm rs t
    simp only [List.flatten_cons, List.map_append, List.flatMap_cons, List.map_cons]
    have h1 : (r.map (·.2)).Perm (((r.filter fun x => decide (x.1 = t)) ++ (r.filter fun x => !decide (x.1 = t))).map (·.2)) := ((List.filter_append_perm (fun x => decide (x.1 = t)) r).map (·.2)).symm
    rw [List.map_append] at h1
    refine (h1.append ih).trans ?_
    simp only [List.append_assoc]
    refine List.Perm.append_left _ ?_
    rw [← List.append_assoc, ← List.append_assoc]
    exact List.perm_append_comm.append_right _
theorem end_start {m : Mo} {s : Mm} (w : WF m s) : EndI m (jsort (over s)) (endServ s) ∧ phi m (endServ s) + (over s).length = phi m s := by
  have op := over_perm s.serv s.time
  have pj : (jsort (over s) ++ jobs (endServ s)).Perm (jobs s) := by
    refine ((jsort_perm _).append_right _).trans ?_
    show (over s ++ (s.wait.flatten ++ ((endServ s).serv.flatten.map (·.2) ++ s.ready.map (·.2)))).Perm (s.wait.flatten ++ (s.serv.flatten.map (·.2) ++ s.ready.map (·.2)))
    rw [← List.append_assoc, ← List.append_assoc, ← List.append_assoc]
    refine List.Perm.append_right _ ?_
    refine (List.perm_append_comm.append_right _).trans ?_
    rw [List.append_assoc]
    exact op.symm.append_left _
  refine ⟨⟨⟨w.rows.w, by show (List.map _ _).length = _; rw [List.length_map]; exact w.rows.v⟩, w.sl, fun j hj => w.vs j (pj.mem_iff.mp hj), pj.nodup_iff.mpr w.nd⟩, ?_⟩
  have l := op.length_eq
  simp only [List.length_append, List.length_map] at l
  show 3 * rems m s.steps + 2 * s.wait.flatten.length + (s.serv.map fun r => r.filter fun x => !decide (x.1 = s.time)).flatten.length + (over s).length = 3 * rems m s.steps + 2 * s.wait.flatten.length + s.serv.flatten.length
  unfold over
  omega
theorem endOne_i {m : Mo} {j : Nat} {l : List Nat} {s : Mm} (e : EndI m (j :: l) s) : EndI m l (endOne m s j) := by
  have pj : (l ++ jobs (endOne m s j)).Perm (j :: l ++ jobs s) := by
    show (l ++ (s.wait.flatten ++ (s.serv.flatten.map (·.2) ++ (s.ready ++ [(s.time, j)]).map (·.2)))).Perm (j :: (l ++ (s.wait.flatten ++ (s.serv.flatten.map (·.2) ++ s.ready.map (·.2)))))
    rw [List.map_append, ← List.append_assoc, ← List.append_assoc, ← List.append_assoc, ← List.append_assoc, ← List.append_assoc]
    exact List.perm_append_comm
  exact ⟨⟨e.rows.w, e.rows.v⟩, e.sl, fun i hi => e.vs i (pj.mem_iff.mp hi), pj.nodup_iff.mpr e.nd⟩
theorem endFold_i {m : Mo} : ∀ (l : List Nat) {s : Mm}, EndI m l s → EndI m [] (l.foldl (endOne m) s) ∧ (l.foldl (endOne m) s).time = s.time ∧ (∃ l', (l.foldl (endOne m) s).evs = s.evs ++ l' ∧ l'.length = l.length) ∧ phi m (l.foldl (endOne m) s) = phi m s
  | [], s, e => ⟨e, rfl, ⟨[], by simp, rfl⟩, rfl⟩
  | j :: l, s, e => by
    obtain ⟨a, b, ⟨l', c1, c2⟩, d⟩ := endFold_i l (endOne_i e)
    refine ⟨a, b, ⟨(s.time, .fin, j, here m s.steps j) :: l', ?_, by simp [c2]⟩, d⟩
    rw [List.foldl_cons, c1]
    show (s.evs ++ [_]) ++ l' = _
    rw [List.append_assoc]; rfl
theorem endServices_wf {m : Mo} {s : Mm} (w : WF m s) : WF m (endServices m s) ∧ Go m s (endServices m s) := by
  obtain ⟨e, hp⟩ := end_start w
  obtain ⟨a, b, ⟨l', c1, c2⟩, d⟩ := endFold_i _ e
  have a : EndI m [] (endLoop m s) := a
  have pj : (jobs (endServices m s)).Perm (jobs (endLoop m s)) := List.Perm.append_left _ (List.Perm.append_left _ ((psort_perm _).map (·.2)))
  have lj : (jsort (over s)).length = (over s).length := (jsort_perm _).length_eq
  refine ⟨⟨⟨a.rows.w, a.rows.v⟩, a.sl, fun i hi => a.vs i (by simpa using pj.mem_iff.mp hi), pj.nodup_iff.mpr (by simpa using a.nd)⟩, b, ⟨l', c1⟩, ?_⟩
  show (endLoop m s).evs.length + phi m (endLoop m s) ≤ _
  have c1 : (endLoop m s).evs = s.evs ++ l' := c1
  have d : phi m (endLoop m s) = phi m (endServ s) := d
  rw [c1, d, List.length_append, c2, lj]
  omega
/-! ### arrivals -/
theorem firstSt_mem {m : Mo} (hm : Mok m) {j : Nat} (hj : j < m.jo.length) : firstSt m j ∈ m.names := by
  obtain ⟨r1, _, r3⟩ := hm.route hj
  unfold firstSt
  cases q : m.route j with
  | nil => exact absurd q r1
  | cons a r => exact r3 a (by rw [q]; simp)
theorem not_job {m : Mo} {s : Mm} (w : WF m s) {j : Nat} {v : Int} (h : s.steps.getD j 0 = v) (hv : v < 0) : j ∉ jobs s := fun z => by
  obtain ⟨k, e1, _⟩ := (w.vs j z).get
  rw [e1] at h
  omega
theorem lost_wf {m : Mo} (hm : Mok m) {s : Mm} (w : WF m s) {j : Nat} (hj : j < m.jo.length) (h : s.steps.getD j 0 = -1) : WF m (lostOne m s j) ∧ Go m s (lostOne m s j) := by
  have hn := not_job w h (by decide)
  have hl : j < s.steps.length := by rw [w.sl]; exact hj
  refine ⟨⟨⟨w.rows.w, w.rows.v⟩, by show (s.steps.set _ _).length = _; rw [List.length_set]; exact w.sl, fun i hi => vs_set (w.vs i hi) fun z => hn (z ▸ hi), w.nd⟩, rfl, ⟨_, rfl⟩, ?_⟩
  have r := rems_set (v := -3) hj hl
  have r1 : rem m s.steps j = (m.route j).length + 1 := by unfold rem; rw [h, if_pos rfl]
  have r2 : rem m (s.steps.set j (-3)) j = 0 := by unfold rem; rw [getD_set hl, if_pos rfl]; rfl
  rw [r1, r2] at r
  show (s.evs ++ [_]).length + (3 * rems m (s.steps.set j (-3)) + 2 * s.wait.flatten.length + s.serv.flatten.length) ≤ s.evs.length + (3 * rems m s.steps + 2 * s.wait.flatten.length + s.serv.flatten.length)
  rw [List.length_append, List.length_singleton]
  omega
theorem come_wf {m : Mo} (hm : Mok m) {s : Mm} (w : WF m s) {j : Nat} (hj : j < m.jo.length) (h : s.steps.getD j 0 = -1) : WF m (comeOne m s j) ∧ Go m s (comeOne m s j) := by
  have hn := not_job w h (by decide)
  have hl : j < s.steps.length := by rw [w.sl]; exact hj
  have hp := m.place_lt (firstSt_mem hm hj)
  have hw : s.wait[m.place (firstSt m j)]? = some (waitAt s (m.place (firstSt m j))) := getD_at (by rw [w.rows.w]; exact hp)
  have pw := flat_set (r' := waitAt s (m.place (firstSt m j)) ++ [j]) (x := [j]) hw List.perm_append_comm
  have pj : (jobs (comeOne m s j)).Perm (j :: jobs s) := pw.append_right _
  have hr := (hm.route hj).1
  have hr0 : 0 < (m.route j).length := List.length_pos_iff.mpr hr
  refine ⟨⟨⟨by show (s.wait.set _ _).length = _; rw [List.length_set]; exact w.rows.w, w.rows.v⟩, by show (s.steps.set _ _).length = _; rw [List.length_set]; exact w.sl, fun i hi => ?_, pj.nodup_iff.mpr (List.nodup_cons.mpr ⟨hn, w.nd⟩)⟩, rfl, ⟨_, rfl⟩, ?_⟩
  · rcases List.mem_cons.mp (pj.mem_iff.mp hi) with z | z
    · rw [z]
      exact ⟨hj, 0, by show (s.steps.set j 0)[j]? = _; rw [List.getElem?_set_self hl]; rfl, hr0⟩
    · exact vs_set (w.vs i z) fun q => hn (q ▸ z)
  · have r := rems_set (v := 0) hj hl
    have r1 : rem m s.steps j = (m.route j).length + 1 := by unfold rem; rw [h, if_pos rfl]
    have r2 : rem m (s.steps.set j 0) j = (m.route j).length - 0 := rem_of (by rw [getD_set hl, if_pos rfl]; rfl)
    rw [r1, r2] at r
    have fl := flat_len (r' := waitAt s (m.place (firstSt m j)) ++ [j]) hw
    rw [List.length_append, List.length_singleton] at fl
    show (s.evs ++ [_]).length + (3 * rems m (s.steps.set j 0) + 2 * (s.wait.set (m.place (firstSt m j)) (waitAt s (m.place (firstSt m j)) ++ [j])).flatten.length + s.serv.flatten.length) ≤ s.evs.length + (3 * rems m s.steps + 2 * s.wait.flatten.length + s.serv.flatten.length)
    rw [List.length_append, List.length_singleton]
    omega
theorem arriveOne_wf {m : Mo} (hm : Mok m) {s : Mm} (w : WF m s) {j : Nat} (hj : j < m.jo.length) (h : jtime m j = s.time → s.steps.getD j 0 = -1) : WF m (arriveOne m s j) ∧ Go m s (arriveOne m s j) := by
  unfold arriveOne
  split
  · split
    · exact lost_wf hm w hj (h (by assumption))
    · exact come_wf hm w hj (h (by assumption))
  · exact ⟨w, .refl m s⟩
theorem arriveOne_other {m : Mo} {s : Mm} {i j : Nat} (h : i ≠ j) : (arriveOne m s j).steps.getD i 0 = s.steps.getD i 0 := by
  have g : ∀ v : Int, (s.steps.set j v).getD i 0 = s.steps.getD i 0 := fun v => by
    rw [List.getD_eq_getElem?_getD, List.getElem?_set_ne (Ne.symm h), List.getD_eq_getElem?_getD]
  unfold arriveOne
  split
  · split
    · exact g _
    · exact g _
  · rfl
theorem arriveOne_time {m : Mo} {s : Mm} {j : Nat} : (arriveOne m s j).time = s.time := by
  unfold arriveOne
  split
  · split
    · rfl
    · rfl
  · rfl
theorem foldArr_wf {m : Mo} (hm : Mok m) : ∀ (l : List Nat) {s : Mm}, l.Nodup → (∀ j ∈ l, j < m.jo.length ∧ (jtime m j = s.time → s.steps.getD j 0 = -1)) → WF m s → WF m (l.foldl (arriveOne m) s) ∧ Go m s (l.foldl (arriveOne m) s)
  | [], s, _, _, w => ⟨w, .refl m s⟩
  | j :: l, s, n, h, w => by
    obtain ⟨n1, n2⟩ := List.nodup_cons.mp n
    obtain ⟨w1, g1⟩ := arriveOne_wf hm w (h j (by simp)).1 (h j (by simp)).2
    obtain ⟨w2, g2⟩ := foldArr_wf hm l n2 (fun i hi => ⟨(h i (by simp [hi])).1, fun ht => by
      have hij : i ≠ j := fun z => n1 (z ▸ hi)
      rw [arriveOne_other hij]
      exact (h i (by simp [hi])).2 (by rw [ht, arriveOne_time])⟩) w1
    exact ⟨w2, g1.trans g2⟩
theorem arrive_wf {m : Mo} (hm : Mok m) {s : Mm} (w : WF m s) (h : ∀ j, j < m.jo.length → jtime m j = s.time → s.steps.getD j 0 = -1) : WF m (arrive m s) ∧ Go m s (arrive m s) :=
  foldArr_wf hm _ List.nodup_range (fun j hj => ⟨List.mem_range.mp hj, h j (List.mem_range.mp hj)⟩) w
/-! ### blocks -/
theorem blockOne_same {m : Mo} {s : Mm} {x : Int × Nat} : (blockOne m s x).wait = s.wait ∧ (blockOne m s x).serv = s.serv ∧ (blockOne m s x).ready = s.ready ∧ (blockOne m s x).steps = s.steps ∧ (blockOne m s x).time = s.time ∧ (blockOne m s x).evs.length ≤ s.evs.length + 1 ∧ ∃ l, (blockOne m s x).evs = s.evs ++ l := by
  unfold blockOne
  split
  · exact ⟨rfl, rfl, rfl, rfl, rfl, by simp [Mm.put], _, rfl⟩
  · exact ⟨rfl, rfl, rfl, rfl, rfl, by omega, [], by simp⟩
theorem foldBlock_same {m : Mo} : ∀ (l : List (Int × Nat)) {s : Mm}, (l.foldl (blockOne m) s).wait = s.wait ∧ (l.foldl (blockOne m) s).serv = s.serv ∧ (l.foldl (blockOne m) s).ready = s.ready ∧ (l.foldl (blockOne m) s).steps = s.steps ∧ (l.foldl (blockOne m) s).time = s.time ∧ (l.foldl (blockOne m) s).evs.length ≤ s.evs.length + l.length ∧ ∃ l', (l.foldl (blockOne m) s).evs = s.evs ++ l'
  | [], s => ⟨rfl, rfl, rfl, rfl, rfl, by simp, [], by simp⟩
  | x :: l, s => by
    obtain ⟨a1, a2, a3, a4, a5, a6, l1, a7⟩ := blockOne_same (m := m) (s := s) (x := x)
    obtain ⟨b1, b2, b3, b4, b5, b6, l2, b7⟩ := foldBlock_same (m := m) l (s := blockOne m s x)
    refine ⟨b1.trans a1, b2.trans a2, b3.trans a3, b4.trans a4, b5.trans a5, ?_, l1 ++ l2, ?_⟩
    · rw [List.foldl_cons, List.length_cons]; omega
    · rw [List.foldl_cons, b7, a7, List.append_assoc]
theorem blocks_same {m : Mo} {s : Mm} : (blocks m s).wait = s.wait ∧ (blocks m s).serv = s.serv ∧ (blocks m s).ready = s.ready ∧ (blocks m s).steps = s.steps ∧ (blocks m s).time = s.time ∧ (blocks m s).evs.length ≤ s.evs.length + s.ready.length ∧ ∃ l', (blocks m s).evs = s.evs ++ l' := foldBlock_same _
end DL

/-! The program's moments do what the simulator says. -/
namespace DL
open PySem PySem.Spec PyProof.Rows L2
theorem put_ok {m : Mo} {s : Mm} {w : Wd} {j : Nat} {n : Str} (h : s.evs.length < 16777216) : X_Moment_put [eMm m s, .str w.str, jD j, .str n] = some (eMm m (s.put w j n), .non) := by
  refine callM_eq rfl ?_
  unfold B_Moment_put
  refine ok_papp.mpr ⟨eMm m s, [7], s.evs.map eEv, eEv (s.time, w, j, n), eMm m (s.put w j n), rfl, path_fld m s rfl fx7, mm_at7 m s, by simp [mkT_of, eEv], by simpa using h, ?_, rfl, rfl⟩
  have := mm_put7 m s (s.evs ++ [(s.time, w, j, n)])
  rw [List.map_append] at this
  exact this
/-! sorting -/
theorem sort_jobs (l : List Nat) : D.sorted [.lst (l.map jD)] = some (.lst ((jsort l).map jD)) :=
  sorted_swo jD (fun a b => decide ((a : Int) < b)) (swo_key fun a : Nat => (a : Int)) 0 l (fun x _ => ⟨rfl, rfl, rfl⟩) fun x _ y _ => rfl
theorem ePr_lt (x y : Int × Nat) : D.ltI (ePr x) (ePr y) = some (pLt x y) := by
  unfold ePr pLt
  simp only [D.ltI, D.ltT, D.py, PyData.eqv, D.lt1]
  by_cases e1 : x.1 = y.1
  · rw [if_pos (by simp [e1])]
    by_cases e2 : (x.2 : Int) = y.2
    · rw [if_pos (by simp; omega)]
      rw [decide_eq_false (by omega)]
    · rw [if_neg (by simp; omega)]
      refine congrArg some (Bool.eq_iff_iff.mpr ?_)
      simp only [decide_eq_true_eq]
      omega
  · rw [if_neg (by simp [e1])]
    refine congrArg some (Bool.eq_iff_iff.mpr ?_)
    simp only [decide_eq_true_eq]
    omega
theorem ePr_sh (x : Int × Nat) : (ePr x).shaped = true := by
  refine shaped_of ?_ ?_
  · simp [ePr, D.py, D.pys, PyData.canLay0, PyData.canLayAll0]
  · simp [ePr, D.py, D.pys, PyData.depth, PyData.depthAll]
theorem pLt_swo : SrtO.Swo pLt := swo_key2 (fun x : Int × Nat => x.1) fun x => (x.2 : Int)
theorem sort_pairs (l : List (Int × Nat)) : D.sorted [.lst (l.map ePr)] = some (.lst ((psort l).map ePr)) :=
  sorted_swo ePr pLt pLt_swo 2 l (fun x _ => ⟨rfl, ePr_sh x, rfl⟩) fun x _ y _ => ePr_lt x y
theorem prs_pures (l : List (Int × Nat)) : D.pures (l.map ePr) = true := pures_map ePr_pure l
theorem jobs_pures (l : List Nat) : D.pures (l.map jD) = true := pures_map jD_pure l
theorem sub_len {α : Type} {rows : List (List α)} {p : Nat} {r : List α} (h : rows[p]? = some r) : r.length ≤ rows.flatten.length := by
  have := (flat_unset (x := r) (r' := []) h (by simp)).length_eq
  rw [List.length_append] at this
  omega
/-! ends -/
theorem flat_all {α : Type} {enc : α → D} (h : ∀ x, (enc x).flat = true) (l : List α) : (l.map enc).all D.flat = true := by
  rw [List.all_map, List.all_eq_true]; exact fun x _ => h x
theorem jD_flat (x) : (jD x).flat = true := rfl
theorem ePr_flat (x) : (ePr x).flat = true := rfl
theorem eEv_flat (x) : (eEv x).flat = true := rfl
theorem over_len (s : Mm) : (over s).length ≤ s.serv.flatten.length := by
  have := (over_perm s.serv s.time).length_eq
  simp only [List.length_append, List.length_map] at this
  unfold over
  omega
theorem take_succ' {α : Type} {l : List α} {k : Nat} {x : α} (h : l[k]? = some x) : l.take (k + 1) = l.take k ++ [x] := by
  obtain ⟨h1, h2⟩ := List.getElem?_eq_some_iff.mp h
  rw [← List.take_append_getElem h1, h2]
def halfServ (s : Mm) (k : Nat) : Mm := { s with serv := (s.serv.take k).map (fun r => r.filter fun x => !decide (x.1 = s.time)) ++ s.serv.drop k }
theorem set_mid {α : Type} {y x : α} {b : List α} : ∀ (a : List α), (a ++ y :: b).set a.length x = a ++ x :: b
  | [] => rfl
  | z :: a => by simp [set_mid a]
theorem half_set {s : Mm} {k : Nat} {r : List (Int × Nat)} (h : s.serv[k]? = some r) : (halfServ s k).serv.set k (r.filter fun x => !decide (x.1 = s.time)) = (halfServ s (k + 1)).serv := by
  obtain ⟨h1, h2⟩ := List.getElem?_eq_some_iff.mp h
  have hl : ((s.serv.take k).map fun r => r.filter fun x => !decide (x.1 = s.time)).length = k := by simp; omega
  have e := set_mid (y := r) (x := r.filter fun x => !decide (x.1 = s.time)) (b := s.serv.drop (k + 1)) ((s.serv.take k).map fun r => r.filter fun x => !decide (x.1 = s.time))
  rw [hl] at e
  unfold halfServ
  simp only
  rw [take_succ' h, List.map_append, List.append_assoc, List.drop_eq_getElem_cons h1, h2]
  exact e
theorem half_at {s : Mm} {k : Nat} {r : List (Int × Nat)} (h : s.serv[k]? = some r) : (halfServ s k).serv[k]? = some r := by
  obtain ⟨h1, h2⟩ := List.getElem?_eq_some_iff.mp h
  unfold halfServ
  simp only
  rw [List.getElem?_append_right (by simp; omega)]
  have e : min k s.serv.length = k := by omega
  simp only [List.length_map, List.length_take, e, Nat.sub_self, List.getElem?_drop, Nat.add_zero]
  exact h
theorem endFold_r {m : Mo} : ∀ (l : List Nat) {r : List Nat} {s : Mm}, EndI m (l ++ r) s → EndI m r (l.foldl (endOne m) s) ∧ (l.foldl (endOne m) s).time = s.time ∧ (l.foldl (endOne m) s).evs.length = s.evs.length + l.length ∧ (l.foldl (endOne m) s).ready.length = s.ready.length + l.length
  | [], r, s, e => ⟨e, rfl, by simp, by simp⟩
  | j :: l, r, s, e => by
    obtain ⟨a, b, c, d⟩ := endFold_r l (endOne_i e)
    refine ⟨a, b, ?_, ?_⟩
    · rw [List.foldl_cons, c]
      simp [endOne, Mm.put]; omega
    · rw [List.foldl_cons, d]
      simp [endOne]; omega
theorem end_ok {m : Mo} {s : Mm} (hm : Mok m) (w : WF m s) (hb : s.evs.length + phi m s ≤ 1000000) : X_Moment_end_services [eMm m s] = some (eMm m (endServices m s), .non) := by
  have hl := w.lens
  have hn := hm.njo
  have ho := over_len s
  have hst := hm.nst
  refine callM_eq rfl ?_
  unfold B_Moment_end_services
  simp only [List.map_cons, List.map_nil, List.cons_append, List.nil_append, List.replicate]
  refine seq_set.mpr ⟨.lst [], by simp, ?_⟩
  simp only [List.set_cons_succ, List.set_cons_zero]
  refine seq_rg m.st.length (fun k ρ => ∃ o2 o3 o4 o5, ρ = [some (eMm m (halfServ s k)), some (.lst (((s.serv.take k).flatMap fun r => (r.filter fun x => decide (x.1 = s.time)).map (·.2)).map jD)), o2, o3, o4, o5]) (by simp; omega) ⟨none, none, none, none, by simp [halfServ]⟩ ?_ ?_
  · rintro k ρ hk ⟨o2, o3, o4, o5, rfl⟩
    have hr : s.serv[k]? = some (servAt s k) := getD_at (by rw [w.rows.v]; exact hk)
    have ha := half_at hr
    refine ⟨_, rfl, ?_⟩
    simp only [fgt_c, fgt_n, List.set_cons_succ, List.set_cons_zero]
    have e1 : dLc [4, 5] (dItems (d2 D.idx (dFld "Moment" "serving" (dV 0)) (dV 2))) (.tp [4, 5]) (t2 D.eqB (dV 4) (dFld "Moment" "time" (dV 0))) (dFlat (dV 5)) [some (eMm m (halfServ s k)), some (.lst (((s.serv.take k).flatMap fun r => (r.filter fun x => decide (x.1 = s.time)).map (·.2)).map jD)), some (.int k), o3, o4, o5] = some (.lst (((servAt s k).filter fun x => decide (x.1 = s.time)).map fun x => jD x.2)) := by
      refine dLc_filter ePr (fun x => jD x.2) (fun x => decide (x.1 = s.time)) (servAt s k) ?_ fun x _ => ⟨_, rfl, ?_, ?_⟩
      · simp [rows_at ha, eSrow, -idx_lst]
      · simp [wipeE, halfServ]
      · simp [wipeE]
    have e2 : dLc [3] (dItems (d2 D.idx (dFld "Moment" "serving" (dV 0)) (dV 2))) (.nm 3) (t2 D.neB (d2 D.idx (dV 3) (dC (.int 0))) (dFld "Moment" "time" (dV 0))) (dFlat (dV 3)) [some (eMm m (halfServ s k)), some (.lst ((((s.serv.take k).flatMap fun r => (r.filter fun x => decide (x.1 = s.time)).map (·.2)) ++ ((servAt s k).filter fun x => decide (x.1 = s.time)).map (·.2)).map jD)), some (.int k), o3, o4, o5] = some (.lst (((servAt s k).filter fun x => !decide (x.1 = s.time)).map ePr)) := by
      refine dLc_filter ePr ePr (fun x => !decide (x.1 = s.time)) (servAt s k) ?_ fun x _ => ⟨_, rfl, ?_, ?_⟩
      · simp [rows_at ha, eSrow, -idx_lst]
      · simp [wipeE, halfServ, ePr]
      · simp [wipeE, ePr]
    refine seq_ext.mpr ⟨_, _, rfl, by rw [dNewP_ap, e1, Option.bind_some, if_pos (by rw [newP_lst]; exact pures_map (fun x => rfl) _)], ?_, flat_all (fun x => rfl) _, ?_⟩
    · simp only [List.length_map]
      have h1 : ((s.serv.take k).flatMap fun r => (r.filter fun x => decide (x.1 = s.time)).map (·.2)).length + ((servAt s k).filter fun x => decide (x.1 = s.time)).length ≤ (over s).length := by
        have : over s = ((s.serv.take (k + 1)).flatMap fun r => (r.filter fun x => decide (x.1 = s.time)).map (·.2)) ++ ((s.serv.drop (k + 1)).flatMap fun r => (r.filter fun x => decide (x.1 = s.time)).map (·.2)) := by
          rw [← List.flatMap_append, List.take_append_drop]; rfl
        rw [this, take_succ' hr]
        simp only [List.flatMap_append, List.length_append, List.flatMap_cons, List.flatMap_nil, List.append_nil, List.length_map]
        omega
      omega
    simp only [List.set_cons_succ, List.set_cons_zero]
    have e3 : (((s.serv.take k).flatMap fun r => (r.filter fun x => decide (x.1 = s.time)).map (·.2)).map jD ++ ((servAt s k).filter fun x => decide (x.1 = s.time)).map fun x => jD x.2) = (((s.serv.take k).flatMap fun r => (r.filter fun x => decide (x.1 = s.time)).map (·.2)) ++ ((servAt s k).filter fun x => decide (x.1 = s.time)).map (·.2)).map jD := by simp [Function.comp_def]
    rw [e3]
    refine ok_pset.mpr ⟨eSrow ((servAt s k).filter fun x => !decide (x.1 = s.time)), eMm m (halfServ s k), [4], _, jD k, .lst ((halfServ s (k + 1)).serv.map eSrow), eMm m (halfServ s (k + 1)), by rw [dNewP_ap, e2, Option.bind_some, if_pos (by rw [newP_lst]; exact prs_pures _)]; rfl, rfl, path_fld m _ rfl fx4, mm_at4 m _, rfl, ?_, ?_, ?_⟩
    · unfold D.setIt
      have hix : ixN ((halfServ s k).serv.map eSrow).length (k : Int) = some k := by
        have hlk := (List.getElem?_eq_some_iff.mp ha).1
        unfold ixN
        rw [if_pos (by omega), if_pos (by rw [List.length_map]; omega)]; rfl
      simp only [hix, Option.map_some]
      rw [← half_set hr, List.map_set]
    · exact mm_put4 m (halfServ s k) _
    · refine ⟨some (.int k), o3, o4, o5, ?_⟩
      simp only [List.set_cons_zero]
      rw [take_succ' hr, List.flatMap_append, List.flatMap_cons, List.flatMap_nil, List.append_nil]
  · rintro ρ ⟨o2, o3, o4, o5, rfl⟩
    simp only [fgt_c, fgt_n, List.set_cons_succ, List.set_cons_zero]
    have e0 : halfServ s m.st.length = endServ s := by
      unfold halfServ endServ
      rw [← w.rows.v, List.take_length, List.drop_length, List.append_nil]
    have e1 : (s.serv.take m.st.length).flatMap (fun r => (r.filter fun x => decide (x.1 = s.time)).map (·.2)) = over s := by
      rw [← w.rows.v, List.take_length]; rfl
    rw [e0, e1]
    obtain ⟨ei, hp⟩ := end_start w
    refine seq_for jD (jsort (over s)) (fun done ρ => ∃ o5, ρ = [some (eMm m (done.foldl (endOne m) (endServ s))), some (.lst ((over s).map jD)), none, o3, o4, o5]) ?_ ⟨o5, rfl⟩ ?_ ?_
    · simp [sort_jobs, jobs_pures]
    · rintro done a rest ρ e ⟨o5, rfl⟩
      obtain ⟨q1, q2, q3, q4⟩ := endFold_r done (e ▸ ei)
      have el : (jsort (over s)).length = (over s).length := (jsort_perm _).length_eq
      have el2 := congrArg List.length e
      simp only [List.length_append, List.length_cons] at el2
      have va : VS m (done.foldl (endOne m) (endServ s)).steps a := q1.vs a (by simp)
      have f1 : (endServ s).evs.length = s.evs.length := rfl
      have f2 : (endServ s).ready.length = s.ready.length := rfl
      refine ⟨_, rfl, ?_⟩
      simp only [fgt_c, fgt_n, List.set_cons_succ, List.set_cons_zero]
      rw [List.foldl_append, List.foldl_cons, List.foldl_nil]
      generalize done.foldl (endOne m) (endServ s) = S at *
      refine seq_ok.mpr (ok_met.mpr ⟨eMm m S, [.str Wd.fin.str, jD a, .str (here m S.steps a)], eMm m (S.put .fin a (here m S.steps a)), .non, rfl, mm_m1 m S, ?_, put_ok (by omega), ?_⟩)
      · simp [here_ok va, Wd.str]
      · simp only [List.set_cons_zero]
        refine ok_papp.mpr ⟨eMm m (S.put .fin a (here m S.steps a)), [5], S.ready.map ePr, ePr (S.time, a), eMm m (endOne m S a), rfl, path_fld m _ rfl fx5, mm_at5 m _, ?_, by rw [List.length_map]; omega, ?_, some (jD a), ?_⟩
        · simp [mkT_of, ePr, Mm.put]
        · have := mm_put5 m (S.put .fin a (here m S.steps a)) (S.ready ++ [(S.time, a)])
          rw [List.map_append] at this
          exact this
        · rfl
    · rintro ρ ⟨o5, rfl⟩
      simp only [fgt_c, fgt_n, List.set_cons_succ, List.set_cons_zero]
      refine ok_pfld.mpr ⟨.lst ((psort (endLoop m s).ready).map ePr), eMm m (endLoop m s), [], eMm m (endLoop m s), eMm m (endServices m s), eMm m (endServices m s), ?_, rfl, rfl, at_nil _, setF_ready m _ _, put_nil _ _, rfl, trivial⟩
      simp [sort_pairs, prs_pures, endLoop]
end DL

namespace DL
open PySem PySem.Spec PyProof.Rows L2
/-! ### removal -/
theorem findIdx_erase {α : Type} [BEq α] [LawfulBEq α] {x : α} : ∀ {l : List α}, x ∈ l → ∃ j, l.findIdx? (fun z => z == x) = some j ∧ l.eraseIdx j = l.erase x
  | [], h => nomatch h
  | y :: l, h => by
    by_cases q : y = x
    · subst q
      exact ⟨0, by simp [List.findIdx?_cons], by simp⟩
    · have hm : x ∈ l := (List.mem_cons.mp h).resolve_left fun z => q z.symm
      obtain ⟨j, e1, e2⟩ := findIdx_erase hm
      have q1 : (y == x) = false := by simpa using q
      refine ⟨j + 1, by rw [List.findIdx?_cons, q1, e1]; rfl, ?_⟩
      rw [List.eraseIdx_cons_succ, e2, List.erase_cons_tail (by simpa using q)]
theorem map_eraseIdx {α β : Type} (f : α → β) : ∀ (l : List α) (j : Nat), (l.map f).eraseIdx j = (l.eraseIdx j).map f
  | [], j => by simp
  | x :: l, 0 => by simp
  | x :: l, j + 1 => by simp [map_eraseIdx f l j]
theorem lst_shaped {α : Type} {enc : α → D} {l : List α} (h1 : ∀ x ∈ l, (enc x).py.canLay0 = true) (h2 : ∀ x, (enc x).py.depth ≤ 10) : (D.lst (l.map enc)).shaped = true := by
  refine shaped_of ?_ ?_
  · simp only [D.py, PyData.canLay0]; exact lay_map h1
  · have := depth_map h2 l
    simp only [D.py, PyData.depth]
    omega
theorem rem_map {α : Type} [BEq α] [LawfulBEq α] {enc : α → D} {l : List α} {x : α} (hx : x ∈ l) (s1 : (enc x).shaped = true) (s2 : (D.lst (l.map enc)).shaped = true) (he : ∀ z ∈ l, PyData.eqv (enc z).py (enc x).py = (z == x)) : (D.lst (l.map enc)).rem (enc x) = some (.lst ((l.erase x).map enc)) := by
  obtain ⟨j, e1, e2⟩ := findIdx_erase hx
  unfold D.rem
  simp only [s1, s2, Bool.and_self, if_true]
  have e3 : (l.map enc).findIdx? (fun z => PyData.eqv z.py (enc x).py) = some j := by
    rw [List.findIdx?_map, ← e1]
    have : ∀ (l' : List α), (∀ z ∈ l', z ∈ l) → l'.findIdx? ((fun z => PyData.eqv z.py (enc x).py) ∘ enc) = l'.findIdx? fun z => z == x := by
      intro l' hl'
      induction l' with
      | nil => rfl
      | cons z r ih =>
        rw [List.findIdx?_cons, List.findIdx?_cons, ih fun y hy => hl' y (by simp [hy])]
        have := he z (hl' z (by simp))
        simp only [Function.comp_apply, this]
    exact this l fun _ h => h
  rw [e3, Option.map_some, map_eraseIdx, e2]
theorem jD_rem {l : List Nat} {j : Nat} (h : j ∈ l) : (D.lst (l.map jD)).rem (jD j) = some (.lst ((l.erase j).map jD)) := by
  refine rem_map h rfl (lst_shaped (fun x _ => rfl) fun x => by simp [D.py, PyData.depth]) fun z _ => ?_
  simp only [D.py, PyData.eqv]
  refine Bool.eq_iff_iff.mpr ?_
  simp only [beq_iff_eq]
  constructor <;> intro h <;> omega
theorem ePr_rem {l : List (Int × Nat)} {x : Int × Nat} (h : x ∈ l) : (D.lst (l.map ePr)).rem (ePr x) = some (.lst ((l.erase x).map ePr)) := by
  refine rem_map h (ePr_sh x) (lst_shaped (fun x _ => by simp [ePr, D.py, D.pys, PyData.canLay0, PyData.canLayAll0]) fun x => by simp [ePr, D.py, D.pys, PyData.depth, PyData.depthAll]) fun z _ => ?_
  simp only [ePr, D.py, D.pys, PyData.eqv, PyData.eqvAll]
  refine Bool.eq_iff_iff.mpr ?_
  obtain ⟨a, b⟩ := z
  obtain ⟨c, d⟩ := x
  simp only [Bool.and_eq_true, beq_iff_eq, Bool.and_true, Prod.mk.injEq]
  constructor <;> rintro ⟨h1, h2⟩ <;> exact ⟨h1, by omega⟩
/-! ### steps -/
theorem ix_nat {α : Type} {l : List α} {j : Nat} (h : j < l.length) : ixN l.length (j : Int) = some j := by
  unfold ixN
  rw [if_pos (by omega), if_pos (by omega)]; rfl
theorem setIt_nat {α : Type} {enc : α → D} {l : List α} {j : Nat} {y : α} (h : j < l.length) : (D.lst (l.map enc)).setIt (jD j) (enc y) = some (.lst ((l.set j y).map enc)) := by
  unfold D.setIt
  have := ix_nat (l := l.map enc) (j := j) (by simpa using h)
  simp only [this, Option.map_some, List.map_set]
theorem nextSt_at {m : Mo} {s : Mm} {j : Nat} (v : VS m s.steps j) (hk : ¬ s.steps.getD j 0 + 1 = ((m.route j).length : Int)) : ∃ st, D.idx (.tup ((m.route j).map eStep)) (.int (s.steps.getD j 0 + 1)) = some (eStep st) ∧ st.1 = nextSt m s j := by
  obtain ⟨k, e1, e2, e3⟩ := v.get
  have e : s.steps.getD j 0 + 1 = ((k + 1 : Nat) : Int) := by omega
  have hl : k + 1 < (m.route j).length := by omega
  refine ⟨(m.route j)[k + 1], ?_, ?_⟩
  · rw [e, idx_tup, atI_nat (by simpa using hl), List.getElem?_map, List.getElem?_eq_getElem hl]; rfl
  · unfold nextSt
    rw [e, Int.toNat_natCast, List.getD_eq_getElem?_getD, List.getElem?_eq_getElem hl]; rfl
theorem path_row {α : Type} {m : Mo} {s : Mm} {i a p : Nat} {fl : Str} {fb : Ev} {ρ : En} {l : List α} {enc : α → D} (h : dV i ρ = some (eMm m s)) (hf : fIdx mmF fl = some a) (hat : (eMm m s).at [a] = some (.lst (l.map enc))) (hk : fb ρ = some (jD p)) (hp : p < l.length) : pIx i (pFld i "Moment" fl pSl) fb ρ = some [a, p] := by
  rw [pIx_ap, path_fld m s h hf, Option.bind_some, h, Option.bind_some, hat, Option.bind_some, hk, Option.bind_some]
  unfold D.place
  have := ix_nat (l := l.map enc) (j := p) (by simpa using hp)
  simp only [this, Option.map_some]
  rfl
theorem goOn_ok {m : Mo} {s : Mm} {x : Int × Nat} (hm : Mok m) (w : WF m s) (hx : x ∈ s.ready) (hb : s.evs.length + phi m s ≤ 1000000) : X_Moment_go_on [eMm m s, ePr x] = some (eMm m (goOn m s x), .non) := by
  have v := w.rv x hx
  obtain ⟨k, e1, e2, e3⟩ := v.get
  have hl := w.lens
  have hn := hm.njo
  refine callM_eq rfl ?_
  unfold B_Moment_go_on
  simp only [List.map_cons, List.map_nil, List.cons_append, List.nil_append, List.replicate]
  refine seq_set.mpr ⟨jD x.2, by simp [ePr], ?_⟩
  simp only [List.set_cons_succ, List.set_cons_zero]
  refine seq_set.mpr ⟨.tup ((m.route x.2).map eStep), by simp [route_ok v.1, pures_map eStep_pure], ?_⟩
  simp only [List.set_cons_succ, List.set_cons_zero]
  unfold goOn
  by_cases hk : s.steps.getD x.2 0 + 1 = ((m.route x.2).length : Int)
  · rw [if_pos hk]
    refine seq_ok.mpr ((ok_ifT ?_).mpr ?_)
    · simp [v.at, -idx_lst, hk, -List.getD_eq_getElem?_getD]
    refine seq_ok.mpr (ok_met.mpr ⟨eMm m s, [.str Wd.leave.str, jD x.2, .str (here m s.steps x.2)], _, .non, rfl, mm_m1 m s, ?_, put_ok (by omega), ?_⟩)
    · simp [here_ok v, Wd.str]
    simp only [List.set_cons_zero]
    refine seq_ok.mpr (ok_prem.mpr ⟨_, [5], _, ePr x, _, _, rfl, path_fld m _ rfl fx5, mm_at5 m _, rfl, ePr_rem hx, mm_put5 m _ _, ?_⟩)
    simp only [List.set_cons_zero]
    refine seq_ok.mpr (ok_pset.mpr ⟨.int (-2), _, [6], _, jD x.2, _, _, rfl, rfl, path_fld m _ rfl fx6, mm_at6 m _, rfl, setIt_nat (enc := D.int) e3, mm_put6 m _ _, ?_⟩)
    simp only [List.set_cons_zero]
    exact ok_ret.mpr ⟨.non, rfl, rfl, rfl⟩
  · rw [if_neg hk]
    refine seq_ok.mpr ((ok_ifF ?_).mpr ?_)
    · simp [v.at, -idx_lst, hk, -List.getD_eq_getElem?_getD]
    obtain ⟨st, g1, g2⟩ := nextSt_at v hk
    simp only [ok_nil]
    refine seq_set.mpr ⟨.str (nextSt m s x.2), by simp [v.at, g1, g2, -idx_lst, -idx_tup, -List.getD_eq_getElem?_getD], ?_⟩
    simp only [List.set_cons_succ, List.set_cons_zero]
    have hnm := nextSt_mem hm v hk
    cases hf : isFull m s (nextSt m s x.2) with
    | true =>
      rw [if_pos rfl]
      refine (ok_ifF ?_).mpr ?_
      · simp [tV, full_ok w.rows w.rv hnm, hf]
      · rw [ok_nil]; exact ⟨rfl, trivial⟩
    | false =>
      rw [if_neg (by simp)]
      refine (ok_ifT ?_).mpr ?_
      · simp [tV, full_ok w.rows w.rv hnm, hf]
      have hp := m.place_lt hnm
      have hw : s.wait[m.place (nextSt m s x.2)]? = some (waitAt s (m.place (nextSt m s x.2))) := getD_at (by rw [w.rows.w]; exact hp)
      have hwl := sub_len hw
      refine seq_ok.mpr (ok_met.mpr ⟨eMm m s, [.str Wd.move.str, jD x.2, .str (nextSt m s x.2)], _, .non, rfl, mm_m1 m s, ?_, put_ok (by omega), ?_⟩)
      · simp [Wd.str]
      simp only [List.set_cons_zero]
      refine seq_ok.mpr (ok_prem.mpr ⟨_, [5], _, ePr x, _, _, rfl, path_fld m _ rfl fx5, mm_at5 m _, rfl, ePr_rem hx, mm_put5 m _ _, ?_⟩)
      simp only [List.set_cons_zero]
      refine seq_ok.mpr (ok_pset.mpr ⟨.int (s.steps.getD x.2 0 + 1), _, [6], _, jD x.2, _, _, ?_, rfl, path_fld m _ rfl fx6, mm_at6 m _, rfl, setIt_nat (enc := D.int) e3, mm_put6 m _ _, ?_⟩)
      · have va := v.at
        simp [Mm.put, va, -idx_lst, -List.getD_eq_getElem?_getD]
      simp only [List.set_cons_zero]
      refine ok_papp.mpr ⟨_, [3, m.place (nextSt m s x.2)], _, jD x.2, eMm m (moveOne m s x (nextSt m s x.2)), rfl, ?_, mm_at3' m _ hw, rfl, by rw [List.length_map]; omega, ?_, rfl, trivial⟩
      · exact path_row rfl fx3 (mm_at3 m _) (by simp [index_names hnm]) (by show _ < s.wait.length; rw [w.rows.w]; exact hp)
      · have := mm_put3' m { (s.put .move x.2 (nextSt m s x.2)) with ready := s.ready.erase x, steps := s.steps.set x.2 (s.steps.getD x.2 0 + 1) } (p := m.place (nextSt m s x.2)) (r := waitAt s (m.place (nextSt m s x.2))) (r' := waitAt s (m.place (nextSt m s x.2)) ++ [x.2]) hw
        unfold eRow at this
        rw [List.map_append] at this
        exact this
end DL

namespace DL
open PySem PySem.Spec PyProof.Rows L2
theorem ints_map {α : Type} (f : α → Int) : ∀ l : List α, D.ints (l.map fun x => .int (f x)) = some (l.map f)
  | [] => rfl
  | x :: l => by simp only [List.map_cons, D.ints, ints_map f l, Option.map_some]
theorem chosen_ok {m : Mo} {s : Mm} {p : Nat} (hm : Mok m) (w : WF m s) (hp : p < m.st.length) (h : 0 < (waitAt s p).length) : F_Moment_chosen [eMm m s, jD p] = some (jD (chosen m s p)) := by
  have hw : s.wait[p]? = some (waitAt s p) := getD_at (by rw [w.rows.w]; exact hp)
  have hne : waitAt s p ≠ [] := fun z => by rw [z] at h; simp at h
  have hv : ∀ j ∈ waitAt s p, VS m s.steps j := w.wv _ (List.mem_of_getElem? hw)
  refine call_ok rfl ?_
  unfold B_Moment_chosen
  simp only [List.map_cons, List.map_nil, List.cons_append, List.nil_append, List.replicate]
  refine seq_set.mpr ⟨eRow (waitAt s p), by simp [rows_at hw, -idx_lst], ?_⟩
  simp only [List.set_cons_succ, List.set_cons_zero]
  refine seq_set.mpr ⟨.str (m.station p).2.2.2, by simp [idx0, st_at hp, -idx_tup], ?_⟩
  simp only [List.set_cons_succ, List.set_cons_zero]
  unfold chosen
  by_cases h1 : (m.station p).2.2.2 = "first"
  · rw [if_pos h1]
    refine seq_ok.mpr ((ok_ifT (by simp [h1])).mpr ?_)
    refine ok_ret.mpr ⟨_, ?_, rfl⟩
    cases q : waitAt s p with
    | nil => exact absurd q hne
    | cons a r => simp [eRow]
  rw [if_neg h1]
  refine seq_ok.mpr ((ok_ifF (by simp [h1])).mpr ?_)
  rw [ok_nil]
  by_cases h2 : (m.station p).2.2.2 = "last"
  · rw [if_pos h2]
    refine seq_ok.mpr ((ok_ifT (by simp [h2])).mpr ?_)
    refine ok_ret.mpr ⟨_, ?_, rfl⟩
    have hl : atI ((waitAt s p).map jD) (-1) = some (jD ((waitAt s p).getLastD 0)) := by
      have e1 : ixN ((waitAt s p).map jD).length (-1) = some ((waitAt s p).length - 1) := by
        unfold ixN
        rw [if_neg (by decide), if_pos (by rw [List.length_map]; omega), List.length_map]
        congr 1
        omega
      unfold atI
      rw [e1, Option.bind_some, List.getElem?_map, List.getLastD_eq_getLast?, List.getLast?_eq_getElem?, getD_at (d := 0) (by omega)]
      rfl
    simp [eRow, hl]
  rw [if_neg h2]
  refine seq_ok.mpr ((ok_ifF (by simp [h2])).mpr ?_)
  rw [ok_nil]
  have pr : ∀ j ∈ waitAt s p, F_priority_of [eMo m, jD j] = some (.int (m.prio j)) := fun j hj => by
    obtain ⟨k, e, _⟩ := hm.kind (hv j hj).1
    exact prio_ok (hv j hj).1 e
  have el : dLc [5] (dItems (dV 2)) (.nm 5) (tYs) (dN F_priority_of (aC (dFld "Moment" "network" (dV 0)) (aC (dV 5) (aN)))) [some (eMm m s), some (jD p), some (eRow (waitAt s p)), some (.str (m.station p).2.2.2), none, none] = some (.lst ((waitAt s p).map fun j => .int (m.prio j))) := by
    refine dLc_map jD (fun j => .int (m.prio j)) (waitAt s p) (by simp [eRow]) fun j hj => ⟨_, rfl, rfl, ?_⟩
    simp [wipeE, pr j hj]
  refine seq_set.mpr ⟨.int (maxI ((waitAt s p).map m.prio)), ?_, ?_⟩
  · simp only [dN_ap, aC_ap, el, Option.bind_some, aN_ap]
    unfold D.max1
    simp only [ints_map]
    simp [hne]
  simp only [List.set_cons_succ, List.set_cons_zero]
  have ef : dLc [5] (dItems (dV 2)) (.nm 5) (t2 D.eqB (dN F_priority_of (aC (dFld "Moment" "network" (dV 0)) (aC (dV 5) (aN)))) (dV 4)) (dFlat (dV 5)) [some (eMm m s), some (jD p), some (eRow (waitAt s p)), some (.str (m.station p).2.2.2), some (.int (maxI ((waitAt s p).map m.prio))), none] = some (.lst (((waitAt s p).filter fun j => decide (m.prio j = maxI ((waitAt s p).map m.prio))).map jD)) := by
    refine dLc_filter jD jD (fun j => decide (m.prio j = maxI ((waitAt s p).map m.prio))) (waitAt s p) (by simp [eRow]) fun j hj => ⟨_, rfl, ?_, ?_⟩
    · simp [wipeE, pr j hj]
    · simp [wipeE]
  refine ok_ret.mpr ⟨_, ?_, rfl⟩
  simp only [dFlat_ap, d2_ap, ef, Option.bind_some, dC_ap]
  obtain ⟨hx, _⟩ := maxI_ok (ns := (waitAt s p).map m.prio) (by simpa using hne)
  obtain ⟨j, hj, e⟩ := List.mem_map.mp hx
  have hf : j ∈ (waitAt s p).filter fun j => decide (m.prio j = maxI ((waitAt s p).map m.prio)) := List.mem_filter.mpr ⟨hj, by simpa using e⟩
  cases q : (waitAt s p).filter fun j => decide (m.prio j = maxI ((waitAt s p).map m.prio)) with
  | nil => rw [q] at hf; cases hf
  | cons a r => simp
theorem beginOne_serv {m : Mo} {s : Mm} {p : Nat} (w : WF m s) (hp : p < m.st.length) : waitAt (beginOne m p s) p = (waitAt s p).erase (chosen m s p) := by
  unfold waitAt beginOne
  simp only
  rw [getD_set (by rw [w.rows.w]; exact hp), if_pos rfl]
  rfl
theorem canBegin_ok {m : Mo} {s : Mm} {p : Nat} (w : WF m s) (hp : p < m.st.length) {o : Option D} : tAn (t2 D.gtB (dN D.len (aC (d2 D.idx (dFld "Moment" "waiting" (dV 0)) (dV 1)) (aN))) (dC (.int 0))) (t2 D.ltB (d2 D.add (dN D.len (aC (d2 D.idx (dFld "Moment" "serving" (dV 0)) (dV 1)) (aN))) (dN D.len (aC (dMet "Moment" "ready_at" F_Moment_ready_at (dV 0) (aC (dV 2) (aN))) (aN)))) (dV 3)) [some (eMm m s), some (jD p), some (.str (m.station p).1), some (.int (m.station p).2.1), o] = some (canBegin m p s) := by
  have hw : s.wait[p]? = some (waitAt s p) := getD_at (by rw [w.rows.w]; exact hp)
  have hs : s.serv[p]? = some (servAt s p) := getD_at (by rw [w.rows.v]; exact hp)
  unfold canBegin
  simp only [tAn_ap, t2_ap, dN_ap, aC_ap, aN_ap, d2_ap, dFld_ap, dV_ap, List.getElem?_cons_zero, List.getElem?_cons_succ, Option.join_some, Option.bind_some, mm_cls, if_true, mm_f3, mm_f4, rows_at hw, rows_at hs, eRow, eSrow, len_lst, List.length_map, dC_ap, gtB_int, dMet_ap, mm_m3, readyAt_ok w.rv, add_int, ltB_int]
  by_cases h : 0 < (waitAt s p).length
  · rw [decide_eq_true (show (0 : Int) < (waitAt s p).length by omega), decide_eq_true h]; simp
  · rw [decide_eq_false (show ¬ (0 : Int) < (waitAt s p).length by omega), decide_eq_false h]; simp
theorem begin_ok {m : Mo} {s : Mm} {p : Nat} (hm : Mok m) (w : WF m s) (hp : p < m.st.length) (hb : s.evs.length + phi m s ≤ 1000000) : X_Moment_begin_services [eMm m s, jD p] = some (eMm m (beginServices m s p), .non) := by
  have hn := hm.njo
  have hst : (m.st.map fun x => D.str x.1)[p]? = some (.str (m.station p).1) := by
    rw [List.getElem?_map, List.getElem?_eq_getElem hp]
    unfold Mo.station
    rw [List.getD_eq_getElem?_getD, List.getElem?_eq_getElem hp]; rfl
  have hnm : D.idx (.lst (m.st.map fun x => .str x.1)) (jD p) = some (.str (m.station p).1) := by
    rw [idx_lst, atI_nat (by simpa using hp), hst]
  refine callM_eq rfl ?_
  unfold B_Moment_begin_services
  simp only [List.map_cons, List.map_nil, List.cons_append, List.nil_append, List.replicate]
  refine seq_set.mpr ⟨.str (m.station p).1, by simp [hnm, -idx_lst], ?_⟩
  simp only [List.set_cons_succ, List.set_cons_zero]
  refine seq_set.mpr ⟨.int (m.station p).2.1, by simp [idx0, st_at hp, -idx_tup], ?_⟩
  simp only [List.set_cons_succ, List.set_cons_zero]
  refine seq_wh (fun k ρ => ∃ S o, ρ = [some (eMm m S), some (jD p), some (.str (m.station p).1), some (.int (m.station p).2.1), o] ∧ WF m S ∧ S.evs.length + phi m S ≤ 1000000 ∧ k = (waitAt S p).length ∧ beginN m p k S = beginN m p (waitAt s p).length s) (waitAt s p).length ?_ ⟨s, none, rfl, w, hb, rfl, rfl⟩ ?_
  · have hw : s.wait[p]? = some (waitAt s p) := getD_at (by rw [w.rows.w]; exact hp)
    have := sub_len hw
    have := w.lens
    omega
  rintro k ρ ⟨S, o, rfl, wS, hbS, rfl, hB⟩
  refine ⟨canBegin m p S, ?_, fun hc => ?_, fun hc => ?_⟩
  · simp only [fgt_c, fgt_n, List.set_cons_succ, List.set_cons_zero]
    exact canBegin_ok wS hp
  · simp only [fgt_c, fgt_n, List.set_cons_succ, List.set_cons_zero]
    have hc' := hc
    unfold canBegin at hc'
    rw [Bool.and_eq_true] at hc'
    have h0 := of_decide_eq_true hc'.1
    have hmem := chosen_mem (m := m) h0
    obtain ⟨w1, g1⟩ := beginOne_wf wS hp h0
    have hw : S.wait[p]? = some (waitAt S p) := getD_at (by rw [wS.rows.w]; exact hp)
    have hs : S.serv[p]? = some (servAt S p) := getD_at (by rw [wS.rows.v]; exact hp)
    have v : VS m S.steps (chosen m S p) := wS.wv _ (List.mem_of_getElem? hw) _ hmem
    have hl := wS.lens
    have hsl := sub_len hs
    refine seq_set.mpr ⟨jD (chosen m S p), by simp [chosen_ok hm wS hp h0], ?_⟩
    simp only [List.set_cons_succ, List.set_cons_zero]
    refine seq_ok.mpr (ok_met.mpr ⟨eMm m S, [.str Wd.begin.str, jD (chosen m S p), .str (m.station p).1], _, .non, rfl, mm_m1 m S, ?_, put_ok (by omega), ?_⟩)
    · simp [Wd.str]
    simp only [List.set_cons_zero]
    refine seq_ok.mpr (ok_prem.mpr ⟨_, [3, p], _, jD (chosen m S p), _, _, rfl, path_row rfl fx3 (mm_at3 m _) rfl (by show _ < S.wait.length; rw [wS.rows.w]; exact hp), mm_at3' m _ hw, rfl, jD_rem hmem, mm_put3' m _ hw, ?_⟩)
    simp only [List.set_cons_zero]
    refine ok_papp.mpr ⟨_, [4, p], (servAt S p).map ePr, ePr (S.time + (stepOf m S.steps (chosen m S p)).2, chosen m S p), eMm m (beginOne m p S), rfl, path_row rfl fx4 (mm_at4 m _) rfl (by show _ < S.serv.length; rw [wS.rows.v]; exact hp), mm_at4' m _ hs, ?_, by rw [List.length_map]; omega, ?_, ?_⟩
    · have va := v.at
      simp [Mm.put, va, v.step, route_ok v.1, mkT_of, ePr, -idx_lst, -idx_tup, -List.getD_eq_getElem?_getD]
    · have := mm_put4' m { (S.put .begin (chosen m S p) (m.station p).1) with wait := S.wait.set p ((waitAt S p).erase (chosen m S p)) } (p := p) (r := servAt S p) (r' := servAt S p ++ [(S.time + (stepOf m S.steps (chosen m S p)).2, chosen m S p)]) hs
      unfold eSrow at this
      rw [List.map_append] at this
      exact this
    · have hd := g1.dec
      have hlen : (waitAt (beginOne m p S) p).length + 1 = (waitAt S p).length := by
        rw [beginOne_serv wS hp, List.length_erase_of_mem hmem]; omega
      refine ⟨(waitAt (beginOne m p S) p).length, by omega, beginOne m p S, _, rfl, w1, by omega, rfl, ?_⟩
      rw [← hB, ← hlen]
      show _ = (if canBegin m p S = true then _ else _)
      rw [if_pos hc]
  · simp only [fgt_c, fgt_n, List.set_cons_succ, List.set_cons_zero]
    have hs : S.serv[p]? = some (servAt S p) := getD_at (by rw [wS.rows.v]; exact hp)
    have hS : beginN m p (waitAt s p).length s = S := by
      rw [← hB]
      cases (waitAt S p).length with
      | zero => rfl
      | succ k =>
        show (if canBegin m p S = true then _ else _) = _
        rw [if_neg (by rw [hc]; simp)]
    refine ok_pset.mpr ⟨eSrow (psort (servAt S p)), eMm m S, [4], _, jD p, _, eMm m (beginServices m s p), ?_, rfl, path_fld m _ rfl fx4, mm_at4 m _, rfl, setIt_nat (enc := eSrow) (by rw [wS.rows.v]; exact hp), ?_, rfl, trivial⟩
    · simp [rows_at hs, eSrow, sort_pairs, prs_pures, -idx_lst]
    · have := mm_put4 m S (S.serv.set p (psort (servAt S p)))
      unfold beginServices
      rw [hS]
      exact this
end DL

namespace DL
open PySem PySem.Spec PyProof.Rows L2
theorem str_beq (a b : Str) : (a.cps.toList == b.cps.toList) = decide (a = b) := by
  by_cases h : a = b
  · subst h; simp
  · rw [decide_eq_false h]
    have : a.cps.toList ≠ b.cps.toList := fun z => h (by
      cases a; cases b
      simp only at z
      congr 1
      exact Array.toList_inj.mp z)
    simpa using this
theorem pzL_pa (N : Str) (T : Int) : ∀ l : List PaT, pzL N T (l.map ePa) = some (pzM N T l)
  | [] => rfl
  | x :: xs => by
    have e : pzRow N T (ePa x) = some (decide (x.1 = N) && (decide (x.2.1 ≤ T) && decide (T < x.2.2))) := by
      show some _ = some _
      rw [str_beq]
    rw [List.map_cons, pzL, e, Option.bind_some, pzL_pa N T xs]
    rfl
theorem isp_ok (m : Mo) (N : Str) (T : Int) : F_is_paused [eMo m, .str N, .int T] = some (.bl (pzM N T m.pa)) := by
  refine call_ok rfl ?_
  unfold B_is_paused
  have e : dPz (d2 D.idx (dV 0) (dC (.int 2))) 1 2 [some (eMo m), some (.str N), some (.int T)] = some (.bl (pzM N T m.pa)) := by
    simp [dPz, idx2, pzIts, pzL_pa]
  simp [e]
theorem name_at {m : Mo} {p : Nat} (hp : p < m.st.length) : D.idx (.lst (m.st.map fun x => .str x.1)) (jD p) = some (.str (m.station p).1) := by
  have hst : (m.st.map fun x => D.str x.1)[p]? = some (.str (m.station p).1) := by
    rw [List.getElem?_map, List.getElem?_eq_getElem hp]
    unfold Mo.station
    rw [List.getD_eq_getElem?_getD, List.getElem?_eq_getElem hp]; rfl
  rw [idx_lst, atI_nat (by simpa using hp), hst]
theorem map_take_range {n k : Nat} (h : k < n) : (List.range n).take (k + 1) = (List.range n).take k ++ [k] := by
  rw [take_succ' (x := k) (by rw [List.getElem?_range h])]
theorem settle_ok {m : Mo} {s : Mm} (hm : Mok m) (w : WF m s) (hb : s.evs.length + phi m s ≤ 1000000) : X_Moment_settle [eMm m s] = some (eMm m (settle m s), .non) := by
  have hn := hm.njo
  have hst := hm.nst
  refine callM_eq rfl ?_
  unfold B_Moment_settle
  simp only [List.map_cons, List.map_nil, List.cons_append, List.nil_append, List.replicate]
  refine seq_set.mpr ⟨.int (-1), by simp, ?_⟩
  simp only [List.set_cons_succ, List.set_cons_zero]
  -- after a round the measure is what is left to do; ahead of the first one more
  refine ok_wh (fun k ρ => ∃ S many o2 o3, ρ = [some (eMm m S), some (.int many), o2, o3] ∧ WF m S ∧ S.evs.length + phi m S ≤ 1000000 ∧ ((many < S.evs.length ∧ ∃ f, phi m S < f ∧ k = phi m S + 1 ∧ settleN m f S = settle m s) ∨ ((S.evs.length : Int) = many ∧ k = 0 ∧ S = settle m s))) (phi m s + 1) (by omega) ⟨s, -1, none, none, rfl, w, hb, .inl ⟨by omega, phi m s + 1, by omega, rfl, rfl⟩⟩ ?_
  rintro k ρ ⟨S, mny, o2, o3, rfl, wS, hbS, hk⟩
  have hcond : ∀ o2 o3 : Option D, t2 D.ltB (dV 1) (dN D.len (aC (dFld "Moment" "events" (dV 0)) (aN))) [some (eMm m S), some (.int mny), o2, o3] = some (decide (mny < S.evs.length)) := fun o2 o3 => by simp
  refine ⟨decide (mny < S.evs.length), by simp only [fgt_c, fgt_n, List.set_cons_succ, List.set_cons_zero]; exact hcond _ _, fun hc => ?_, fun hc => ?_⟩
  · rcases hk with ⟨hlt, f, hf, rfl, hset⟩ | ⟨heq, _, _⟩
    rotate_left
    · exfalso
      rw [decide_eq_true_eq] at hc
      omega
    simp only [fgt_c, fgt_n, List.set_cons_succ, List.set_cons_zero]
    have hl := wS.lens
    refine seq_set.mpr ⟨.int (S.evs.length : Nat), by simp, ?_⟩
    simp only [List.set_cons_succ, List.set_cons_zero]
    refine seq_for ePr S.ready (fun done ρ => ∃ o2, ρ = [some (eMm m (done.foldl (goOn m) S)), some (.int (S.evs.length : Nat)), o2, none]) ?_ ⟨none, rfl⟩ ?_ ?_
    · simp [D.lstOf, prs_pures, flat_all ePr_flat, -List.all_map, -List.all_eq_true]
    · rintro done a rest ρ e ⟨o2, rfl⟩
      have nd := wS.rnd
      rw [e] at nd
      have hsub : ∀ x ∈ done, x ∈ S.ready := fun x hx => by rw [e]; simp [hx]
      obtain ⟨w1, g1⟩ := foldGo_wf hm done wS (List.nodup_append.mp nd).1 hsub
      have ha : a ∈ (done.foldl (goOn m) S).ready := by
        have gen : ∀ (l : List (Int × Nat)) (T : Mm), a ∈ T.ready → a ∉ l → a ∈ (l.foldl (goOn m) T).ready := by
          intro l
          induction l with
          | nil => exact fun T h _ => h
          | cons y l ih => exact fun T h hn => ih _ (goOn_ready h fun z => hn (by simp [z])) fun z => hn (by simp [z])
        exact gen done S (by rw [e]; simp) fun z => (List.nodup_append.mp nd).2.2 a z a (by simp) rfl
      have hd := g1.dec
      refine ⟨_, rfl, ok_met.mpr ⟨_, [ePr a], eMm m (goOn m (done.foldl (goOn m) S) a), .non, rfl, mm_m6 m _, rfl, goOn_ok hm w1 ha (by omega), ?_⟩⟩
      refine ⟨some (ePr a), ?_⟩
      rw [List.foldl_append]
      rfl
    rintro ρ ⟨o2, rfl⟩
    simp only [fgt_c, fgt_n, List.set_cons_succ, List.set_cons_zero]
    obtain ⟨w1, g1⟩ := roundGo_wf hm wS
    have e1 : S.ready.foldl (goOn m) S = roundGo m S := rfl
    rw [e1]
    refine ok_rg m.st.length (fun k ρ => ∃ o3, ρ = [some (eMm m (((List.range m.st.length).take k).foldl (beginAt m) (roundGo m S))), some (.int (S.evs.length : Nat)), none, o3]) (by simp; omega) ⟨none, rfl⟩ ?_ ?_
    · rintro p ρ hp ⟨o3, rfl⟩
      obtain ⟨w2, g2⟩ := foldBegin_wf ((List.range m.st.length).take p) (fun q hq => List.mem_range.mp (List.mem_of_mem_take hq)) w1
      have hd1 := g1.dec
      have hd2 := g2.dec
      refine ⟨_, rfl, ?_⟩
      simp only [fgt_c, fgt_n, List.set_cons_succ, List.set_cons_zero]
      rw [map_take_range hp, List.foldl_append, List.foldl_cons, List.foldl_nil]
      generalize ((List.range m.st.length).take p).foldl (beginAt m) (roundGo m S) = T at *
      have hpz : tNt (tV (dN F_is_paused (aC (dFld "Moment" "network" (dV 0)) (aC (d2 D.idx (dFld "Moment" "names" (dV 0)) (dV 3)) (aC (dFld "Moment" "time" (dV 0)) (aN)))))) [some (eMm m T), some (.int (S.evs.length : Nat)), none, some (.int p)] = some (!pzM (m.station p).1 T.time m.pa) := by
        have := name_at hp
        simp [tV, this, isp_ok, -idx_lst]
      unfold beginAt
      cases hz : pzM (m.station p).1 T.time m.pa with
      | true =>
        rw [if_pos rfl]
        refine (ok_ifF (by rw [hpz, hz]; rfl)).mpr ?_
        rw [ok_nil]
        exact ⟨_, rfl⟩
      | false =>
        rw [if_neg (by simp)]
        refine (ok_ifT (by rw [hpz, hz]; rfl)).mpr ?_
        exact ok_met.mpr ⟨_, [jD p], _, .non, rfl, mm_m8 m T, rfl, begin_ok hm w2 hp (by omega), _, rfl⟩
    · rintro ρ ⟨o3, rfl⟩
      simp only [fgt_c, fgt_n, List.set_cons_succ, List.set_cons_zero]
      have e2 : ((List.range m.st.length).take m.st.length).foldl (beginAt m) (roundGo m S) = round m S := by
        unfold round
        rw [List.take_of_length_le (by simp)]
      rw [e2]
      obtain ⟨w2, g2⟩ := round_wf hm wS
      have hd := g2.dec
      have hlen := g2.len
      obtain ⟨f', rfl⟩ : ∃ f', f = f' + 1 := ⟨f - 1, by omega⟩
      have hs : settleN m (f' + 1) S = if S.evs.length < (round m S).evs.length then settleN m f' (round m S) else round m S := rfl
      by_cases hgrow : S.evs.length < (round m S).evs.length
      · rw [if_pos hgrow] at hs
        refine ⟨phi m (round m S) + 1, by omega, round m S, _, none, none, rfl, w2, by omega, .inl ⟨by omega, f', by omega, rfl, by rw [← hset, hs]⟩⟩
      · rw [if_neg hgrow] at hs
        refine ⟨0, by omega, round m S, _, none, none, rfl, w2, by omega, .inr ⟨by omega, rfl, by rw [← hset, hs]⟩⟩
  · simp only [fgt_c, fgt_n, List.set_cons_succ, List.set_cons_zero]
    rcases hk with ⟨hlt, _⟩ | ⟨_, _, rfl⟩
    · rw [decide_eq_false_iff_not] at hc
      exact absurd hlt hc
    · exact ⟨rfl, trivial⟩
theorem arrive_ok {m : Mo} {s : Mm} (hm : Mok m) (w : WF m s) (h : ∀ j, j < m.jo.length → jtime m j = s.time → s.steps.getD j 0 = -1) (hb : s.evs.length + phi m s ≤ 1000000) : X_Moment_arrive [eMm m s] = some (eMm m (arrive m s), .non) := by
  have hn := hm.njo
  refine callM_eq rfl ?_
  unfold B_Moment_arrive
  simp only [List.map_cons, List.map_nil, List.cons_append, List.nil_append, List.replicate]
  refine ok_rg m.jo.length (fun k ρ => ∃ o1 o2, ρ = [some (eMm m (((List.range m.jo.length).take k).foldl (arriveOne m) s)), o1, o2]) (by simp [idx3]; omega) ⟨none, none, rfl⟩ ?_ ?_
  · rintro j ρ hj ⟨o1, o2, rfl⟩
    have sub : ((List.range m.jo.length).take j).Nodup := List.nodup_range.sublist (List.take_sublist _ _)
    have lt : ∀ i ∈ (List.range m.jo.length).take j, i < m.jo.length := fun i hi => List.mem_range.mp (List.mem_of_mem_take hi)
    obtain ⟨w1, g1⟩ := foldArr_wf hm _ sub (fun i hi => ⟨lt i hi, h i (lt i hi)⟩) w
    have hst : (((List.range m.jo.length).take j).foldl (arriveOne m) s).steps.getD j 0 = s.steps.getD j 0 := by
      have gen : ∀ (l : List Nat) (T : Mm), j ∉ l → (l.foldl (arriveOne m) T).steps.getD j 0 = T.steps.getD j 0 := by
        intro l
        induction l with
        | nil => exact fun T _ => rfl
        | cons y l ih => exact fun T hn => (ih _ fun z => hn (by simp [z])).trans (arriveOne_other fun z => hn (by simp [z]))
      refine gen _ s fun z => ?_
      rw [List.take_range] at z
      have := List.mem_range.mp z
      omega
    have hd := g1.dec
    have htm := g1.tm
    refine ⟨_, rfl, ?_⟩
    simp only [fgt_c, fgt_n, List.set_cons_succ, List.set_cons_zero]
    rw [map_take_range hj, List.foldl_append, List.foldl_cons, List.foldl_nil]
    generalize ((List.range m.jo.length).take j).foldl (arriveOne m) s = T at *
    have hl := w1.lens
    have hjt : D.idx (.tup (m.jo.map eJo)) (jD j) = some (eJo (m.jo.getD j (0, ""))) := jo_at hj
    have hcond : t2 D.eqB (d2 D.idx (d2 D.idx (d2 D.idx (dFld "Moment" "network" (dV 0)) (dC (.int 3))) (dV 1)) (dC (.int 0))) (dFld "Moment" "time" (dV 0)) [some (eMm m T), some (.int j), none] = some (decide (jtime m j = T.time)) := by
      simp [idx3, hjt, -idx_tup, jtime]
    unfold arriveOne
    by_cases ht : jtime m j = T.time
    rotate_left
    · rw [if_neg ht]
      refine (ok_ifF (by rw [hcond, decide_eq_false ht])).mpr ?_
      rw [ok_nil]
      exact ⟨_, _, rfl⟩
    rw [if_pos ht]
    refine (ok_ifT (by rw [hcond, decide_eq_true ht])).mpr ?_
    have hfm := firstSt_mem hm hj
    have hfr : D.idx (.tup ((m.route j).map eStep)) (.int 0) = some (eStep ((m.route j).headD ("", 0))) := by
      cases q : m.route j with
      | nil => exact absurd q (hm.route hj).1
      | cons a r => simp
    refine seq_set.mpr ⟨.str (firstSt m j), by simp [route_ok hj, hfr, firstSt, -idx_tup], ?_⟩
    simp only [List.set_cons_succ, List.set_cons_zero]
    have hjl : j < T.steps.length := by rw [w1.sl]; exact hj
    cases hf : isFull m T (firstSt m j) with
    | true =>
      rw [if_pos rfl]
      refine (ok_ifT (by simp [tV, full_ok w1.rows w1.rv hfm, hf])).mpr ?_
      refine seq_ok.mpr (ok_met.mpr ⟨eMm m T, [.str Wd.lost.str, jD j, .str (firstSt m j)], _, .non, rfl, mm_m1 m T, by simp [Wd.str], put_ok (by omega), ?_⟩)
      simp only [List.set_cons_zero]
      exact ok_pset.mpr ⟨.int (-3), _, [6], _, jD j, _, eMm m (lostOne m T j), rfl, rfl, path_fld m _ rfl fx6, mm_at6 m _, rfl, setIt_nat (enc := D.int) hjl, mm_put6 m _ _, _, _, rfl⟩
    | false =>
      rw [if_neg (by simp)]
      refine (ok_ifF (by simp [tV, full_ok w1.rows w1.rv hfm, hf])).mpr ?_
      have hp := m.place_lt hfm
      have hw : T.wait[m.place (firstSt m j)]? = some (waitAt T (m.place (firstSt m j))) := getD_at (by rw [w1.rows.w]; exact hp)
      have hwl := sub_len hw
      refine seq_ok.mpr (ok_met.mpr ⟨eMm m T, [.str Wd.come.str, jD j, .str (firstSt m j)], _, .non, rfl, mm_m1 m T, by simp [Wd.str], put_ok (by omega), ?_⟩)
      simp only [List.set_cons_zero]
      refine seq_ok.mpr (ok_pset.mpr ⟨.int 0, _, [6], _, jD j, _, _, rfl, rfl, path_fld m _ rfl fx6, mm_at6 m _, rfl, setIt_nat (enc := D.int) hjl, mm_put6 m _ _, ?_⟩)
      simp only [List.set_cons_zero]
      refine ok_papp.mpr ⟨_, [3, m.place (firstSt m j)], _, jD j, eMm m (comeOne m T j), rfl, path_row rfl fx3 (mm_at3 m _) (by simp [index_names hfm]) (by show _ < T.wait.length; rw [w1.rows.w]; exact hp), mm_at3' m _ hw, rfl, by rw [List.length_map]; omega, ?_, _, _, rfl⟩
      have := mm_put3' m { (T.put .come j (firstSt m j)) with steps := T.steps.set j 0 } (p := m.place (firstSt m j)) (r := waitAt T (m.place (firstSt m j))) (r' := waitAt T (m.place (firstSt m j)) ++ [j]) hw
      unfold eRow at this
      rw [List.map_append] at this
      exact this
  · rintro ρ ⟨o1, o2, rfl⟩
    simp only [fgt_c, fgt_n, List.set_cons_succ, List.set_cons_zero]
    rw [List.take_of_length_le (by simp)]
    exact ⟨rfl, trivial⟩
end DL

namespace DL
open PySem PySem.Spec PyProof.Rows L2
/-! ### what a time leaves alone -/
/-- steps of jobs that are not there stay -/
def Keep (s s' : Mm) : Prop := ∀ j, s.steps.getD j 0 < 0 → s'.steps.getD j 0 = s.steps.getD j 0
theorem Keep.refl (s : Mm) : Keep s s := fun _ _ => rfl
theorem Keep.trans {s s1 s2 : Mm} (a : Keep s s1) (b : Keep s1 s2) : Keep s s2 := fun j h => (b j (by rw [a j h]; exact h)).trans (a j h)
theorem goOn_keep {m : Mo} {s : Mm} (w : WF m s) {x : Int × Nat} (h : x ∈ s.ready) : Keep s (goOn m s x) := fun j hj => by
  obtain ⟨k, e1, _, e3⟩ := (w.rv x h).get
  have hne : j ≠ x.2 := fun z => by rw [z, e1] at hj; omega
  have g : ∀ v : Int, (s.steps.set x.2 v).getD j 0 = s.steps.getD j 0 := fun v => by rw [getD_set e3, if_neg hne]
  unfold goOn
  split
  · exact g _
  · split
    · rfl
    · exact g _
theorem foldGo_keep {m : Mo} (hm : Mok m) : ∀ (l : List (Int × Nat)) {s : Mm}, WF m s → l.Nodup → (∀ x ∈ l, x ∈ s.ready) → Keep s (l.foldl (goOn m) s)
  | [], s, _, _, _ => .refl s
  | x :: l, s, w, n, h => by
    obtain ⟨n1, n2⟩ := List.nodup_cons.mp n
    obtain ⟨w1, g1⟩ := goOn_wf hm w (h x (by simp))
    exact (goOn_keep w (h x (by simp))).trans (foldGo_keep hm l w1 n2 fun y hy => goOn_ready (h y (by simp [hy])) fun z => n1 (z ▸ hy))
theorem beginN_steps {m : Mo} {p : Nat} : ∀ (k : Nat) {s : Mm}, (beginN m p k s).steps = s.steps
  | 0, s => rfl
  | k + 1, s => by
    unfold beginN
    split
    · exact beginN_steps k
    · rfl
theorem beginAt_steps {m : Mo} {p : Nat} {s : Mm} : (beginAt m s p).steps = s.steps := by
  unfold beginAt
  split
  · rfl
  · exact beginN_steps _
theorem foldBegin_steps {m : Mo} : ∀ (l : List Nat) {s : Mm}, (l.foldl (beginAt m) s).steps = s.steps
  | [], s => rfl
  | p :: l, s => (foldBegin_steps l).trans beginAt_steps
theorem round_keep {m : Mo} (hm : Mok m) {s : Mm} (w : WF m s) : Keep s (round m s) := fun j hj => by
  have := foldGo_keep hm _ w w.rnd (fun _ h => h) j hj
  unfold round
  rw [foldBegin_steps]
  exact this
theorem settleN_keep {m : Mo} (hm : Mok m) : ∀ (k : Nat) {s : Mm}, WF m s → Keep s (settleN m k s)
  | 0, s, _ => .refl s
  | k + 1, s, w => by
    unfold settleN
    split
    · exact (round_keep hm w).trans (settleN_keep hm k (round_wf hm w).1)
    · exact round_keep hm w
theorem settle_keep {m : Mo} (hm : Mok m) {s : Mm} (w : WF m s) : Keep s (settle m s) := settleN_keep hm _ w
theorem endFold_steps {m : Mo} : ∀ (l : List Nat) {s : Mm}, (l.foldl (endOne m) s).steps = s.steps
  | [], s => rfl
  | j :: l, s => (endFold_steps l (s := endOne m s j)).trans rfl
theorem end_steps {m : Mo} {s : Mm} : (endServices m s).steps = s.steps := (endFold_steps (m := m) (jsort (over s)) (s := endServ s)).trans rfl
theorem arrive_other {m : Mo} {s : Mm} {i : Nat} (h : jtime m i ≠ s.time) : (arrive m s).steps.getD i 0 = s.steps.getD i 0 := by
  have gen : ∀ (l : List Nat) (T : Mm), jtime m i ≠ T.time → (l.foldl (arriveOne m) T).steps.getD i 0 = T.steps.getD i 0 := by
    intro l
    induction l with
    | nil => exact fun T _ => rfl
    | cons j l ih =>
      intro T hT
      have h1 : (arriveOne m T j).steps.getD i 0 = T.steps.getD i 0 := by
        by_cases q : i = j
        · unfold arriveOne
          rw [if_neg (by rw [← q]; exact hT)]
        · exact arriveOne_other q
      exact (ih _ (by rw [arriveOne_time]; exact hT)).trans h1
  exact gen _ _ h
/-! ### states -/
structure SW (m : Mo) (a : Sta) : Prop where
  wf : WF m a.mm
  ab : ∀ j, j < m.jo.length → a.time ≤ jtime m j → a.steps.getD j 0 = -1
  ph : phi m a.mm ≤ 5000
theorem SW.at {m : Mo} {a : Sta} (w : SW m a) {t : Int} (h : a.time ≤ t) : SW m (a.at t) := ⟨⟨⟨w.wf.rows.w, w.wf.rows.v⟩, w.wf.sl, w.wf.vs, w.wf.nd⟩, fun j hj ht => w.ab j hj (Int.le_trans h ht), w.ph⟩
structure Hap (m : Mo) (a : Sta) : Prop where
  e1 : WF m (endServices m a.mm) ∧ Go m a.mm (endServices m a.mm)
  e2 : WF m (settle m (endServices m a.mm)) ∧ Go m (endServices m a.mm) (settle m (endServices m a.mm))
  e3 : WF m (arrive m (settle m (endServices m a.mm))) ∧ Go m (settle m (endServices m a.mm)) (arrive m (settle m (endServices m a.mm)))
  e4 : WF m (settle m (arrive m (settle m (endServices m a.mm)))) ∧ Go m (arrive m (settle m (endServices m a.mm))) (settle m (arrive m (settle m (endServices m a.mm))))
  k2 : Keep a.mm (settle m (endServices m a.mm))
  k4 : Keep (arrive m (settle m (endServices m a.mm))) (settle m (arrive m (settle m (endServices m a.mm))))
  ab : ∀ j, j < m.jo.length → jtime m j = (settle m (endServices m a.mm)).time → (settle m (endServices m a.mm)).steps.getD j 0 = -1
theorem SW.hap {m : Mo} (hm : Mok m) {a : Sta} (w : SW m a) : Hap m a := by
  have e1 := endServices_wf w.wf
  have e2 := settle_wf hm e1.1
  have k2 : Keep a.mm (settle m (endServices m a.mm)) := fun j hj => by
    have := settle_keep hm e1.1 j (by rw [end_steps]; exact hj)
    rw [this, end_steps]
  have ab : ∀ j, j < m.jo.length → jtime m j = (settle m (endServices m a.mm)).time → (settle m (endServices m a.mm)).steps.getD j 0 = -1 := fun j hj ht => by
    have h0 : a.steps.getD j 0 = -1 := w.ab j hj (by
      rw [ht, e2.2.tm, e1.2.tm]; exact Int.le_refl _)
    have := k2 j (by show a.steps.getD j 0 < 0; rw [h0]; decide)
    rw [this]; exact h0
  have e3 := arrive_wf hm e2.1 ab
  have e4 := settle_wf hm e3.1
  exact ⟨e1, e2, e3, e4, k2, settle_keep hm e3.1, ab⟩
theorem SW.go {m : Mo} (hm : Mok m) {a : Sta} (w : SW m a) : Go m a.mm (settle m (arrive m (settle m (endServices m a.mm)))) :=
  let h := w.hap hm
  ((h.e1.2.trans h.e2.2).trans h.e3.2).trans h.e4.2
theorem told_phi {m : Mo} {s : Mm} : phi m s.told.mm = phi m s := rfl
theorem SW.next {m : Mo} (hm : Mok m) {a : Sta} (w : SW m a) : SW m (happen m a).2 ∧ (happen m a).2.time = a.time + 1 ∧ phi m (happen m a).2.mm + (settle m (arrive m (settle m (endServices m a.mm)))).evs.length ≤ phi m a.mm := by
  have h := w.hap hm
  have g := w.go hm
  obtain ⟨b1, b2, b3, b4, b5, b6, b7⟩ := blocks_same (m := m) (s := settle m (arrive m (settle m (endServices m a.mm))))
  have hd := g.dec
  have ht := g.tm
  have hp : phi m (happen m a).2.mm = phi m (settle m (arrive m (settle m (endServices m a.mm)))) := by
    show 3 * rems m (happenM m a).steps + 2 * (happenM m a).wait.flatten.length + (happenM m a).serv.flatten.length = _
    unfold happenM
    rw [b1, b2, b4]; rfl
  have f0 : a.mm.evs.length = 0 := rfl
  refine ⟨⟨⟨⟨?_, ?_⟩, ?_, ?_, ?_⟩, fun j hj hjt => ?_, ?_⟩, ?_, ?_⟩
  · show (happenM m a).wait.length = _; unfold happenM; rw [b1]; exact h.e4.1.rows.w
  · show (happenM m a).serv.length = _; unfold happenM; rw [b2]; exact h.e4.1.rows.v
  · show (happenM m a).steps.length = _; unfold happenM; rw [b4]; exact h.e4.1.sl
  · show ∀ j ∈ (happenM m a).wait.flatten ++ ((happenM m a).serv.flatten.map (·.2) ++ (happenM m a).ready.map (·.2)), VS m (happenM m a).steps j
    unfold happenM; rw [b1, b2, b3, b4]; exact h.e4.1.vs
  · show ((happenM m a).wait.flatten ++ ((happenM m a).serv.flatten.map (·.2) ++ (happenM m a).ready.map (·.2))).Nodup
    unfold happenM; rw [b1, b2, b3]; exact h.e4.1.nd
  · have hjt : (happenM m a).time + 1 ≤ jtime m j := hjt
    have htm : (happenM m a).time = a.time := by unfold happenM; rw [b5]; exact ht
    rw [htm] at hjt
    show (happenM m a).steps.getD j 0 = -1
    unfold happenM
    rw [b4]
    have s0 : a.steps.getD j 0 = -1 := w.ab j hj (by omega)
    have s2 : (settle m (endServices m a.mm)).steps.getD j 0 = -1 := by rw [h.k2 j (by show a.steps.getD j 0 < 0; rw [s0]; decide)]; exact s0
    have t2 : (settle m (endServices m a.mm)).time = a.time := by rw [h.e2.2.tm, h.e1.2.tm]; rfl
    have s3 : (arrive m (settle m (endServices m a.mm))).steps.getD j 0 = -1 := by rw [arrive_other (by rw [t2]; omega)]; exact s2
    rw [h.k4 j (by rw [s3]; decide)]; exact s3
  · rw [hp]; have := w.ph; omega
  · show (happenM m a).time + 1 = _
    unfold happenM
    rw [b5, ht]; rfl
  · rw [hp]; omega
/-! ### the first state -/
theorem rem_le {m : Mo} (hm : Mok m) {st : List Int} {j : Nat} (hj : j < m.jo.length) : rem m st j ≤ 11 := by
  have := (hm.route hj).2.1
  unfold rem
  split
  · omega
  · split
    · omega
    · omega
theorem sum_le {n c : Nat} {f : Nat → Nat} (h : ∀ i, i < n → f i ≤ c) : ((List.range n).map f).sum ≤ n * c := by
  induction n with
  | zero => simp
  | succ n ih =>
    rw [List.range_succ, List.map_append, List.sum_append]
    have := ih fun i hi => h i (by omega)
    have := h n (by omega)
    simp only [List.map_cons, List.map_nil, List.sum_cons, List.sum_nil]
    rw [Nat.add_mul]
    omega
theorem first_sw {m : Mo} (hm : Mok m) : SW m (firstSta m) := by
  have hf : ∀ {α : Type} (l : List StT), (l.map fun _ => ([] : List α)).flatten = [] := fun l => by
    induction l with
    | nil => rfl
    | cons x l ih => simp [ih]
  have hj : jobs (firstSta m).mm = [] := by
    show (m.st.map fun _ => ([] : List Nat)).flatten ++ (((m.st.map fun _ => ([] : List (Int × Nat))).flatten).map (·.2) ++ []) = []
    rw [hf, hf]; rfl
  have hst : ∀ j, j < m.jo.length → (firstSta m).steps.getD j 0 = -1 := fun j hj => by
    show (m.jo.map fun _ => (-1 : Int)).getD j 0 = -1
    rw [List.getD_eq_getElem?_getD, List.getElem?_map, List.getElem?_eq_getElem hj]; rfl
  refine ⟨⟨⟨by show (m.st.map _).length = _; simp, by show (m.st.map _).length = _; simp⟩, by show (m.jo.map _).length = _; simp, (fun j h => by rw [hj] at h; cases h), by rw [hj]; exact List.nodup_nil⟩, fun j hj _ => hst j hj, ?_⟩
  show 3 * rems m (firstSta m).steps + 2 * (m.st.map fun _ => ([] : List Nat)).flatten.length + (m.st.map fun _ => ([] : List (Int × Nat))).flatten.length ≤ 5000
  rw [hf, hf]
  have := sum_le (n := m.jo.length) (c := 11) (f := rem m (firstSta m).steps) fun i hi => rem_le hm hi
  have h2 := hm.njo
  unfold rems
  simp only [List.length_nil]
  have h3 : m.jo.length * 11 ≤ 60 * 11 := Nat.mul_le_mul_right _ h2
  omega
/-! ### how long it goes on -/
def due (m : Mo) (a : Sta) : Nat := phi m a.mm + (m.jo.filter fun x => decide (a.time ≤ x.1)).length + (m.pa.filter fun x => decide (a.time ≤ x.2.2)).length
theorem nextTime_some {m : Mo} {a : Sta} {t : Int} (h : nextTime m a = some t) : t ∈ dueTimes m a ∧ a.time ≤ t ∧ ∀ u ∈ dueTimes m a, a.time ≤ u → t ≤ u := by
  unfold nextTime at h
  split at h
  · cases h
  · rename_i x xs e
    cases h
    obtain ⟨h1, h2⟩ := minI_ok (ns := x :: xs) (by simp)
    rw [← e] at h1 h2
    obtain ⟨g1, g2⟩ := List.mem_filter.mp h1
    rw [e] at g1 g2
    refine ⟨g1, by simpa using g2, fun u hu hau => ?_⟩
    have := h2 u (List.mem_filter.mpr ⟨hu, by simpa using hau⟩)
    rw [e] at this
    exact this
theorem nextTime_none {m : Mo} {a : Sta} (h : nextTime m a = none) : ∀ u ∈ dueTimes m a, ¬ a.time ≤ u := by
  unfold nextTime at h
  split at h
  · rename_i e
    intro u hu hau
    have : u ∈ (dueTimes m a).filter fun t => decide (a.time ≤ t) := List.mem_filter.mpr ⟨hu, by simpa using hau⟩
    rw [e] at this
    cases this
  · cases h
theorem filter_lt {α : Type} {p q : α → Bool} : ∀ {l : List α} {x : α}, (∀ y, q y = true → p y = true) → x ∈ l → p x = true → q x = false → (l.filter q).length < (l.filter p).length
  | [], _, _, h, _, _ => nomatch h
  | y :: l, x, hpq, h, hp, hq => by
    have mono : ∀ l : List α, (l.filter q).length ≤ (l.filter p).length := fun l => by
      rw [← List.countP_eq_length_filter, ← List.countP_eq_length_filter]
      exact List.countP_mono_left fun z _ h => hpq z h
    rcases List.mem_cons.mp h with rfl | h
    · rw [List.filter_cons_of_neg (by rw [hq]; simp), List.filter_cons_of_pos hp, List.length_cons]
      have := mono l
      omega
    · have ih := filter_lt hpq h hp hq
      rw [List.filter_cons, List.filter_cons]
      by_cases h1 : q y = true
      · rw [if_pos h1, if_pos (hpq y h1)]; simp only [List.length_cons]; omega
      · rw [if_neg h1]
        split
        · rw [List.length_cons]; omega
        · exact ih
theorem filter_le {α : Type} {p q : α → Bool} (hpq : ∀ y, q y = true → p y = true) (l : List α) : (l.filter q).length ≤ (l.filter p).length := by
  rw [← List.countP_eq_length_filter, ← List.countP_eq_length_filter]
  exact List.countP_mono_left fun z _ h => hpq z h
theorem endLoop_evs {m : Mo} {s : Mm} (w : WF m s) : (endServices m s).evs.length = s.evs.length + (over s).length := by
  obtain ⟨e, _⟩ := end_start w
  have h := (endFold_r (m := m) (jsort (over s)) (r := []) (s := endServ s) (by rw [List.append_nil]; exact e)).2.2.1
  have h2 : (jsort (over s)).length = (over s).length := (jsort_perm _).length_eq
  rw [h2] at h
  exact h
theorem due_lt {m : Mo} (hm : Mok m) {a : Sta} (w : SW m a) {t : Int} (h : nextTime m a = some t) : due m (happen m (a.at t)).2 < due m a := by
  obtain ⟨h1, h2, h3⟩ := nextTime_some h
  have wt := w.at h2
  obtain ⟨_, nt, np⟩ := wt.next hm
  have hap := wt.hap hm
  have pe : phi m (a.at t).mm = phi m a.mm := rfl
  have tt : (a.at t).time = t := rfl
  rw [tt] at nt
  unfold due
  rw [nt]
  have mj : ∀ y : JoT, decide (t + 1 ≤ y.1) = true → decide (a.time ≤ y.1) = true := fun y hy => by rw [decide_eq_true_eq] at hy ⊢; omega
  have mp : ∀ y : PaT, decide (t + 1 ≤ y.2.2) = true → decide (a.time ≤ y.2.2) = true := fun y hy => by rw [decide_eq_true_eq] at hy ⊢; omega
  have lj := filter_le mj m.jo
  have lp := filter_le mp m.pa
  unfold dueTimes at h1
  rcases List.mem_append.mp h1 with z | z
  · rcases List.mem_append.mp z with z | z
    · -- a service ends
      obtain ⟨r, hr, hx0⟩ := List.mem_flatMap.mp z
      obtain ⟨x, hx, rfl⟩ := List.mem_map.mp hx0
      have ho : x.2 ∈ over (a.at x.1).mm := List.mem_flatMap.mpr ⟨r, hr, List.mem_map.mpr ⟨x, List.mem_filter.mpr ⟨hx, by simp [Sta.mm, Sta.at]⟩, rfl⟩⟩
      have hl := endLoop_evs wt.wf
      have hg := (hap.e2.2.trans hap.e3.2).trans hap.e4.2
      have := hg.len
      have := List.length_pos_of_mem ho
      omega
    · obtain ⟨x, hx, rfl⟩ := List.mem_map.mp z
      have := filter_lt mj hx (by rw [decide_eq_true_eq]; exact h2) (by rw [decide_eq_false_iff_not]; omega)
      omega
  · obtain ⟨x, hx, rfl⟩ := List.mem_map.mp z
    have := filter_lt mp hx (by rw [decide_eq_true_eq]; exact h2) (by rw [decide_eq_false_iff_not]; omega)
    omega
def run (m : Mo) (a : Sta) : List EvT := runN m (due m a + 1) a
theorem runN_fuel {m : Mo} (hm : Mok m) : ∀ (k k' : Nat) {a : Sta}, SW m a → due m a < k → due m a < k' → runN m k a = runN m k' a
  | 0, _, _, _, h, _ => by omega
  | _ + 1, 0, _, _, _, h => by omega
  | k + 1, k' + 1, a, w, h1, h2 => by
    unfold runN
    cases q : nextTime m a with
    | none => rfl
    | some t =>
      simp only
      obtain ⟨_, g, _⟩ := nextTime_some q
      have hd := due_lt hm w q
      rw [runN_fuel hm k k' ((w.at g).next hm).1 (by omega) (by omega)]
theorem run_eq {m : Mo} (hm : Mok m) {a : Sta} (w : SW m a) : run m a = match nextTime m a with
    | none => []
    | some t => (happen m (a.at t)).1 ++ run m (happen m (a.at t)).2 := by
  unfold run
  rw [runN]
  cases q : nextTime m a with
  | none => rfl
  | some t =>
    simp only
    obtain ⟨_, g, _⟩ := nextTime_some q
    have hd := due_lt hm w q
    rw [runN_fuel hm (due m a) (due m (happen m (a.at t)).2 + 1) ((w.at g).next hm).1 (by omega) (by omega)]
theorem due_le {m : Mo} (hm : Mok m) {a : Sta} (w : SW m a) : due m a ≤ 5120 := by
  have := w.ph
  have := hm.njo
  have := hm.npa
  have := List.length_filter_le (fun x : JoT => decide (a.time ≤ x.1)) m.jo
  have := List.length_filter_le (fun x : PaT => decide (a.time ≤ x.2.2)) m.pa
  unfold due
  omega
/-- all events of a run -/
theorem runN_len {m : Mo} (hm : Mok m) : ∀ (k : Nat) {a : Sta}, SW m a → (runN m k a).length ≤ phi m a.mm + k * 60
  | 0, a, _ => by simp [runN]
  | k + 1, a, w => by
    unfold runN
    cases q : nextTime m a with
    | none => simp
    | some t =>
      simp only
      obtain ⟨_, g, _⟩ := nextTime_some q
      have wt := w.at g
      obtain ⟨w1, _, np⟩ := wt.next hm
      have ih := runN_len hm k w1
      have hap := wt.hap hm
      obtain ⟨b1, b2, b3, b4, b5, b6, b7⟩ := blocks_same (m := m) (s := settle m (arrive m (settle m (endServices m (a.at t).mm))))
      have hl := hap.e4.1.lens
      have hn := hm.njo
      have e : (happen m (a.at t)).1.length ≤ (settle m (arrive m (settle m (endServices m (a.at t).mm)))).evs.length + 60 := by
        show (blocks m _).evs.length ≤ _
        omega
      have pe : phi m (a.at t).mm = phi m a.mm := rfl
      rw [List.length_append]
      omega
end DL

namespace DL
open PySem PySem.Spec PyProof.Rows L2
theorem ok_new {i : Nat} {C fl : Str} {f : Ev} {ρ : En} {Q : Out → Prop} {ns : List Str} {xs : List D} {y : D} (h : f ρ = some y) (hd : dV i ρ = some (.obj C ns xs)) (hn : fIdx ns fl = none) (hl : ns.length < 1000) (q : Q (.nx (ρ.set i (some (.obj C (ns ++ [fl]) (xs ++ [y])))))) : Ok (sPFld i C fl pSl f ρ) Q := by
  have e : fPutN ns fl = ns ++ [fl] := by unfold fPutN; rw [hn]; rfl
  have e2 : fPutX ns xs fl y = xs ++ [y] := by unfold fPutX; rw [hn]
  have := setF_of (C := C) (ns := ns) (xs := xs) (f := fl) (y := y) hl
  rw [e, e2] at this
  exact ok_pfld.mpr ⟨y, _, [], _, _, _, h, hd, rfl, at_nil _, this, put_nil _ _, q⟩
theorem sta0 (a : Sta) : D.idx (eSta a) (.int 0) = some (.int a.time) := by simp [eSta]
theorem sta1 (a : Sta) : D.idx (eSta a) (.int 1) = some (.tup (a.wait.map fun r => .tup (r.map jD))) := by simp [eSta]
theorem sta2 (a : Sta) : D.idx (eSta a) (.int 2) = some (.tup (a.serv.map fun r => .tup (r.map ePr))) := by simp [eSta]
theorem sta3 (a : Sta) : D.idx (eSta a) (.int 3) = some (.tup (a.ready.map ePr)) := by simp [eSta]
theorem sta4 (a : Sta) : D.idx (eSta a) (.int 4) = some (.tup (a.steps.map .int)) := by
  unfold eSta
  rw [idx_tup]
  have : atI [D.int a.time, .tup (a.wait.map fun r => .tup (r.map jD)), .tup (a.serv.map fun r => .tup (r.map ePr)), .tup (a.ready.map ePr), .tup (a.steps.map .int)] 4 = some (.tup (a.steps.map .int)) := by
    rw [atI_of (by decide) (by simp <;> omega)]; rfl
  exact this
theorem lstOf_tup {α : Type} {enc : α → D} (h : ∀ x, (enc x).flat = true) (l : List α) : D.lstOf [.tup (l.map enc)] = some (.lst (l.map enc)) := by
  show (if (l.map enc).all D.flat then some (D.lst (l.map enc)) else none) = _
  rw [if_pos (flat_all h l)]
theorem int_flat (x : Int) : (D.int x).flat = true := rfl
theorem init_ok (m : Mo) (a : Sta) : X_Moment___init__ [.obj "Moment" [] [], eMo m, eSta a] = some (eMm m a.mm, .non) := by
  refine callM_eq rfl ?_
  unfold B_Moment___init__
  simp only [List.map_cons, List.map_nil, List.cons_append, List.nil_append, List.replicate]
  refine seq_ok.mpr (ok_new (y := eMo m) (by simp) rfl (by decide +kernel) (by decide) ?_)
  simp only [List.set_cons_zero]
  refine seq_ok.mpr (ok_new (y := .lst (m.st.map fun x => .str x.1)) (by simp [names_ok]) rfl (by decide +kernel) (by decide) ?_)
  simp only [List.set_cons_zero]
  refine seq_ok.mpr (ok_new (y := .int a.time) (by simp [sta0]) rfl (by decide +kernel) (by decide) ?_)
  simp only [List.set_cons_zero]
  refine seq_ok.mpr (ok_new (y := .lst (a.wait.map eRow)) (dLc_map (fun r => .tup (r.map jD)) eRow a.wait (by simp [sta1]) fun r _ => ⟨_, rfl, rfl, by simp [wipeE, lstOf_tup jD_flat, eRow]⟩) rfl (by decide +kernel) (by decide) ?_)
  simp only [List.set_cons_zero]
  refine seq_ok.mpr (ok_new (y := .lst (a.serv.map eSrow)) (dLc_map (fun r => .tup (r.map ePr)) eSrow a.serv (by simp [sta2]) fun r _ => ⟨_, rfl, rfl, by simp [wipeE, lstOf_tup ePr_flat, eSrow]⟩) rfl (by decide +kernel) (by decide) ?_)
  simp only [List.set_cons_zero]
  refine seq_ok.mpr (ok_new (y := .lst (a.ready.map ePr)) (by simp [sta3, lstOf_tup ePr_flat]) rfl (by decide +kernel) (by decide) ?_)
  simp only [List.set_cons_zero]
  refine seq_ok.mpr (ok_new (y := .lst (a.steps.map .int)) (by simp [sta4, lstOf_tup int_flat]) rfl (by decide +kernel) (by decide) ?_)
  simp only [List.set_cons_zero]
  exact ok_new (y := .lst []) (by simp) rfl (by decide +kernel) (by decide) ⟨rfl, trivial⟩
theorem told_ok (m : Mo) (s : Mm) : F_Moment_told_state [eMm m s] = some (eSta s.told) := by
  refine call_ok rfl ?_
  unfold B_Moment_told_state
  simp only [List.map_cons, List.map_nil, List.cons_append, List.nil_append, List.replicate]
  have e1 := dLc_map (ρ := [some (eMm m s), none, none, none]) (vs := [2]) (tg := .nm 2) (g := dItems (dFld "Moment" "waiting" (dV 0))) (t := tYs) (f := dFlat (dN D.tupOf (aC (dV 2) (aN)))) eRow (fun r => .tup (r.map jD)) s.wait (by simp) fun r _ => ⟨_, rfl, rfl, by simp [wipeE, eRow]⟩
  refine seq_set.mpr ⟨.tup (s.wait.map fun r => .tup (r.map jD)), by simp only [dN_ap, aC_ap, e1, Option.bind_some, aN_ap, tupOf_lst], ?_⟩
  simp only [List.set_cons_succ, List.set_cons_zero]
  have e2 := dLc_map (ρ := [some (eMm m s), some (.tup (s.wait.map fun r => .tup (r.map jD))), none, none]) (vs := [2]) (tg := .nm 2) (g := dItems (dFld "Moment" "serving" (dV 0))) (t := tYs) (f := dFlat (dN D.tupOf (aC (dV 2) (aN)))) eSrow (fun r => .tup (r.map ePr)) s.serv (by simp) fun r _ => ⟨_, rfl, rfl, by simp [wipeE, eSrow]⟩
  refine seq_set.mpr ⟨.tup (s.serv.map fun r => .tup (r.map ePr)), by simp only [dN_ap, aC_ap, e2, Option.bind_some, aN_ap, tupOf_lst], ?_⟩
  simp only [List.set_cons_succ, List.set_cons_zero]
  exact ok_ret.mpr ⟨eSta s.told, by simp [mkT_of, eSta, Mm.told], rfl⟩
theorem happen_ok {m : Mo} {a : Sta} (hm : Mok m) (w : SW m a) : F_happen [eMo m, eSta a] = some (.tup [.lst ((happen m a).1.map eEv), eSta (happen m a).2]) := by
  have h := w.hap hm
  have hp := w.ph
  have d1 := h.e1.2.dec
  have d2' := h.e2.2.dec
  have d3 := h.e3.2.dec
  have d4 := h.e4.2.dec
  have f0 : a.mm.evs.length = 0 := rfl
  refine call_ok rfl ?_
  unfold B_happen
  simp only [List.map_cons, List.map_nil, List.cons_append, List.nil_append, List.replicate]
  refine seq_set.mpr ⟨eMm m a.mm, by simp [init_ok], ?_⟩
  simp only [List.set_cons_succ, List.set_cons_zero]
  refine seq_ok.mpr (ok_met.mpr ⟨_, [], _, .non, rfl, mm_m5 m _, rfl, end_ok hm w.wf (by omega), ?_⟩)
  simp only [List.set_cons_succ, List.set_cons_zero]
  refine seq_ok.mpr (ok_met.mpr ⟨_, [], _, .non, rfl, mm_m9 m _, rfl, settle_ok hm h.e1.1 (by omega), ?_⟩)
  simp only [List.set_cons_succ, List.set_cons_zero]
  refine seq_ok.mpr (ok_met.mpr ⟨_, [], _, .non, rfl, mm_m10 m _, rfl, arrive_ok hm h.e2.1 h.ab (by omega), ?_⟩)
  simp only [List.set_cons_succ, List.set_cons_zero]
  refine seq_ok.mpr (ok_met.mpr ⟨_, [], _, .non, rfl, mm_m9 m _, rfl, settle_ok hm h.e3.1 (by omega), ?_⟩)
  simp only [List.set_cons_succ, List.set_cons_zero]
  have hev : (happen m a).1 = (blocks m (settle m (arrive m (settle m (endServices m a.mm))))).evs := rfl
  have hto : (happen m a).2 = (blocks m (settle m (arrive m (settle m (endServices m a.mm))))).told := rfl
  rw [hev, hto]
  have w4 := h.e4.1
  generalize settle m (arrive m (settle m (endServices m a.mm))) = S at *
  have hl := w4.lens
  have hn := hm.njo
  refine seq_for ePr S.ready (fun done ρ => ∃ o3 o4, ρ = [some (eMo m), some (eSta a), some (eMm m (done.foldl (blockOne m) S)), o3, o4]) ?_ ⟨none, none, rfl⟩ ?_ ?_
  · simp [D.lstOf, prs_pures, flat_all ePr_flat, -List.all_map, -List.all_eq_true]
  · rintro done x rest ρ e ⟨o3, o4, rfl⟩
    obtain ⟨b1, b2, b3, b4, b5, b6, b7⟩ := foldBlock_same (m := m) done (s := S)
    have hx : x ∈ S.ready := by rw [e]; simp
    have v : VS m (done.foldl (blockOne m) S).steps x.2 := by rw [b4]; exact w4.rv x hx
    have hdl := congrArg List.length e
    simp only [List.length_append, List.length_cons] at hdl
    refine ⟨_, rfl, ?_⟩
    simp only [fgt_c, fgt_n, List.set_cons_succ, List.set_cons_zero, setAll_c, setAll_n]
    rw [List.foldl_append, List.foldl_cons, List.foldl_nil]
    have hc : t2 D.eqB (dV 3) (dFld "Moment" "time" (dV 2)) [some (eMo m), some (eSta a), some (eMm m (done.foldl (blockOne m) S)), some (.int x.1), some (jD x.2)] = some (decide (x.1 = (done.foldl (blockOne m) S).time)) := by simp
    by_cases ht : x.1 = (done.foldl (blockOne m) S).time
    · refine (ok_ifT (by rw [hc, decide_eq_true ht])).mpr ?_
      refine ok_met.mpr ⟨_, [.str Wd.block.str, jD x.2, .str (here m (done.foldl (blockOne m) S).steps x.2)], eMm m (blockOne m (done.foldl (blockOne m) S) x), .non, rfl, mm_m1 m _, by simp [here_ok v, Wd.str], ?_, _, _, rfl⟩
      rw [put_ok (by omega)]
      have e2 : blockOne m (done.foldl (blockOne m) S) x = (done.foldl (blockOne m) S).put .block x.2 (here m (done.foldl (blockOne m) S).steps x.2) := if_pos ht
      rw [e2]
    · refine (ok_ifF (by rw [hc, decide_eq_false ht])).mpr ?_
      rw [ok_nil]
      refine ⟨some (.int x.1), some (jD x.2), ?_⟩
      have e2 : blockOne m (done.foldl (blockOne m) S) x = done.foldl (blockOne m) S := if_neg ht
      rw [e2]
  · rintro ρ ⟨o3, o4, rfl⟩
    simp only [fgt_c, fgt_n, List.set_cons_succ, List.set_cons_zero]
    refine ok_fz.mpr (ok_ret.mpr ⟨.tup [.lst ((blocks m S).evs.map eEv), eSta (blocks m S).told], ?_, ?_, ?_⟩)
    · have : S.ready.foldl (blockOne m) S = blocks m S := rfl
      simp [this, told_ok, mkT_of]
    · simp [Out.en]
    · rfl
/-! ### the next time -/
theorem minI_app (x : List Int) : True := trivial
theorem flatMap_len {α β : Type} (f : α → List β) (l : List (List α)) : (l.flatMap fun r => r.map fun x => x).length = l.flatten.length := by
  induction l with
  | nil => rfl
  | cons r l ih => simp [List.flatMap_cons, ih]
theorem next_ok {m : Mo} {a : Sta} (hm : Mok m) (w : SW m a) : F_next_time [eMo m, eSta a] = some (match nextTime m a with | none => .non | some t => .int t) := by
  have hl := w.wf.lens
  have hn := hm.njo
  have hpn := hm.npa
  have hfl : (a.serv.flatMap fun r => r).length = a.serv.flatten.length := by rw [List.flatMap_id']
  have hl2 : a.serv.flatten.length ≤ 60 := by
    have : a.mm.serv.flatten.length = a.serv.flatten.length := rfl
    omega
  refine call_ok rfl ?_
  unfold B_next_time
  simp only [List.map_cons, List.map_nil, List.cons_append, List.nil_append, List.replicate]
  refine seq_tgt.mpr ⟨eSta a, _, rfl, rfl, ?_⟩
  simp only [setAll_c, setAll_n, List.set_cons_succ, List.set_cons_zero]
  refine seq_set.mpr ⟨.lst ((a.serv.flatMap fun r => r).map fun x => .int x.1), dLc2_map (fun r => .tup (r.map ePr)) ePr (fun x => .int x.1) (fun r => r) a.serv (by simp) (by omega) fun r _ => ⟨_, rfl, rfl, by simp [wipeE], fun x _ => ⟨_, rfl, rfl, by simp [wipeE]⟩⟩, ?_⟩
  simp only [List.set_cons_succ, List.set_cons_zero]
  refine seq_ext.mpr ⟨_, _, rfl, dLc_map eJo (fun x => .int x.1) m.jo (by simp [idx3]) fun x _ => ⟨_, rfl, rfl, by simp [wipeE]⟩, ?_, flat_all (fun x => rfl) _, ?_⟩
  · simp only [List.length_map]; omega
  simp only [List.set_cons_succ, List.set_cons_zero]
  refine seq_ext.mpr ⟨_, _, rfl, dLc_map ePa (fun x => .int x.2.2) m.pa (by simp [idx2]) fun x _ => ⟨_, rfl, rfl, by simp [wipeE]⟩, ?_, flat_all (fun x => rfl) _, ?_⟩
  · simp only [List.length_map, List.length_append]; omega
  simp only [List.set_cons_succ, List.set_cons_zero]
  have et : (((a.serv.flatMap fun r => r).map fun x => D.int x.1) ++ (m.jo.map fun x => D.int x.1)) ++ (m.pa.map fun x => D.int x.2.2) = (dueTimes m a).map .int := by
    unfold dueTimes
    simp only [List.map_append, List.map_map, List.map_flatMap]
    rfl
  rw [et]
  have ef := dLc_filter (ρ := [some (eMo m), some (eSta a), some (.int a.time), some (.tup (a.steps.map .int)), some (.tup (a.serv.map fun r => .tup (r.map ePr))), some (.lst ((dueTimes m a).map .int)), none, none, none, none, none, none, none]) (vs := [12]) (tg := .nm 12) (g := dItems (dV 5)) (t := t2 D.geB (dV 12) (dV 2)) (f := dFlat (dV 12)) D.int D.int (fun t => decide (a.time ≤ t)) (dueTimes m a) (by simp) fun t _ => ⟨_, rfl, by simp [wipeE], by simp [wipeE]⟩
  refine seq_set.mpr ⟨.lst (((dueTimes m a).filter fun t => decide (a.time ≤ t)).map .int), ?_, ?_⟩
  · rw [dNewP_ap, ef, Option.bind_some, if_pos (by rw [newP_lst]; exact pures_map (fun x => rfl) _)]
  simp only [List.set_cons_succ, List.set_cons_zero]
  have hlen : ((dueTimes m a).filter fun t => decide (a.time ≤ t)).length = ((dueTimes m a).filter fun t => decide (a.time ≤ t)).length := rfl
  unfold nextTime
  cases q : (dueTimes m a).filter fun t => decide (a.time ≤ t) with
  | nil =>
    refine seq_ok.mpr ((ok_ifT (by simp)).mpr ?_)
    exact ok_ret.mpr ⟨.non, by simp, rfl⟩
  | cons t ts =>
    refine seq_ok.mpr ((ok_ifF (by simp; omega)).mpr ?_)
    rw [ok_nil]
    refine ok_ret.mpr ⟨.int (minI (t :: ts)), ?_, rfl⟩
    have := ints_map (fun x : Int => x) (t :: ts)
    simp only [List.map_id'] at this
    simp only [dFlat_ap, dN_ap, aC_ap, dV_ap, aN_ap, List.getElem?_cons_succ, List.getElem?_cons_zero, Option.join_some, Option.bind_some]
    unfold D.min1
    simp only
    rw [show (t :: ts).map D.int = (t :: ts).map (fun x => D.int x) from rfl, this]
    rfl
theorem first_ok (m : Mo) : F_first_state [eMo m] = some (eSta (firstSta m)) := by
  refine call_ok rfl ?_
  unfold B_first_state
  simp only [List.map_cons, List.map_nil, List.cons_append, List.nil_append, List.replicate]
  have e1 := dLc_map (ρ := [some (eMo m), none, none, none]) (vs := [2]) (tg := .nm 2) (g := dItems (d2 D.idx (dV 0) (dC (.int 0)))) (t := tYs) (f := dFlat (dN D.mkT (aN))) eSt (fun _ => .tup []) m.st (by simp [idx0]) fun r _ => ⟨_, rfl, rfl, by simp [mkT_of]⟩
  refine seq_set.mpr ⟨.tup (m.st.map fun _ => .tup []), by simp only [dN_ap, aC_ap, e1, Option.bind_some, aN_ap, tupOf_lst], ?_⟩
  simp only [List.set_cons_succ, List.set_cons_zero]
  have e2 := dLc_map (ρ := [some (eMo m), some (.tup (m.st.map fun _ => .tup [])), none, none]) (vs := [3]) (tg := .nm 3) (g := dItems (d2 D.idx (dV 0) (dC (.int 3)))) (t := tYs) (f := dFlat (dC (.int (-1)))) eJo (fun _ => .int (-1)) m.jo (by simp [idx3]) fun r _ => ⟨_, rfl, rfl, by simp⟩
  refine ok_ret.mpr ⟨eSta (firstSta m), ?_, rfl⟩
  simp only [dFlat_ap, dN_ap, aC_ap, e2, Option.bind_some, aN_ap, tupOf_lst, dC_ap, dV_ap, List.getElem?_cons_succ, List.getElem?_cons_zero, Option.join_some]
  have e3 : D.mkT [] = some (.tup []) := mkT_of (by decide)
  rw [e3, Option.bind_some]
  simp only [Option.bind_some]
  rw [mkT_of (by simp), Option.bind_some, if_pos flat_tup]
  simp [eSta, firstSta, Function.comp_def]
theorem moved_ok (a : Sta) (t : Int) : F_moved_to [eSta a, .int t] = some (eSta (a.at t)) := by
  refine call_ok rfl ?_
  unfold B_moved_to
  refine ok_ret.mpr ⟨eSta (a.at t), ?_, rfl⟩
  simp [dCut, oSo, eSta]
  rfl
end DL

namespace DL
open PySem PySem.Spec PyProof.Rows L2
def eEvs (l : List EvT) : D := .lst (l.map eEv)
def eOt : Option Int → D
  | none => .non
  | some t => .int t
theorem next_ok' {m : Mo} {a : Sta} (hm : Mok m) (w : SW m a) : F_next_time [eMo m, eSta a] = some (eOt (nextTime m a)) := by
  rw [next_ok hm w]
  cases nextTime m a <;> rfl
theorem notN_ot (o : Option Int) : D.notN (eOt o) .non = some o.isSome := by cases o <;> rfl
theorem run_len {m : Mo} (hm : Mok m) {a : Sta} (w : SW m a) : (run m a).length ≤ 400000 := by
  have h1 := runN_len hm (due m a + 1) w
  have h2 := due_le hm w
  have h3 := w.ph
  have h4 : (due m a + 1) * 60 ≤ 5121 * 60 := Nat.mul_le_mul_right _ (by omega)
  unfold run
  omega
theorem evs_flat (l : List EvT) : (l.map eEv).all D.flat = true := flat_all eEv_flat l
theorem run_ok {m : Mo} {a : Sta} (hm : Mok m) (w : SW m a) : F_run_from [eMo m, eSta a] = some (eEvs (run m a)) := by
  have hlen := run_len hm w
  refine call_ok rfl ?_
  unfold B_run_from
  simp only [List.map_cons, List.map_nil, List.cons_append, List.nil_append, List.replicate]
  refine seq_set.mpr ⟨.lst [], by simp, ?_⟩
  simp only [List.set_cons_succ, List.set_cons_zero]
  refine seq_set.mpr ⟨eOt (nextTime m a), by simp [next_ok' hm w], ?_⟩
  simp only [List.set_cons_succ, List.set_cons_zero]
  have hd := due_le hm w
  refine seq_wh (fun k ρ => ∃ b evs o4, ρ = [some (eMo m), some (eSta b), some (eEvs evs), some (eOt (nextTime m b)), o4] ∧ SW m b ∧ k = due m b ∧ evs ++ run m b = run m a) (due m a) (by omega) ⟨a, [], none, rfl, w, rfl, rfl⟩ ?_
  rintro k ρ ⟨b, evs, o4, rfl, wb, rfl, he⟩
  simp only [fgt_c, fgt_n, List.set_cons_succ, List.set_cons_zero]
  refine ⟨(nextTime m b).isSome, by simp [notN_ot], fun hc => ?_, fun hc => ?_⟩
  · obtain ⟨t, ht⟩ := Option.isSome_iff_exists.mp hc
    obtain ⟨g1, g2, g3⟩ := nextTime_some ht
    have wt := wb.at g2
    obtain ⟨w1, _, _⟩ := wt.next hm
    have hlt := due_lt hm wb ht
    have he2 := he
    rw [run_eq hm wb, ht] at he2
    simp only at he2
    refine seq_tgt.mpr ⟨.tup [eEvs (happen m (b.at t)).1, eSta (happen m (b.at t)).2], _, ?_, rfl, ?_⟩
    · simp only [dN_ap, aC_ap, aN_ap, dV_ap, List.getElem?_cons_zero, List.getElem?_cons_succ, Option.join_some, Option.bind_some]
      rw [ht]
      simp only [eOt, moved_ok, Option.bind_some, happen_ok hm wt]
      rfl
    simp only [setAll_c, setAll_n, List.set_cons_succ, List.set_cons_zero]
    refine seq_ext.mpr ⟨evs.map eEv, (happen m (b.at t)).1.map eEv, rfl, rfl, ?_, evs_flat _, ?_⟩
    · have := congrArg List.length he2
      simp only [List.length_append, List.length_map] at this ⊢
      omega
    simp only [List.set_cons_succ, List.set_cons_zero]
    refine ok_set.mpr ⟨eOt (nextTime m (happen m (b.at t)).2), by simp [next_ok' hm w1], ?_⟩
    refine ⟨due m (happen m (b.at t)).2, hlt, (happen m (b.at t)).2, evs ++ (happen m (b.at t)).1, some (eEvs (happen m (b.at t)).1), ?_, w1, rfl, by rw [List.append_assoc]; exact he2⟩
    simp [eEvs]
  · have hn : nextTime m b = none := by
      cases q : nextTime m b with
      | none => rfl
      | some t => rw [q] at hc; cases hc
    rw [run_eq hm wb, hn] at he
    simp only [List.append_nil] at he
    exact ok_retO.mpr ⟨eEvs evs, rfl, by rw [he]⟩
def trace (m : Mo) : List EvT := run m (firstSta m)
theorem event_run_ok {m : Mo} (hm : Mok m) : F_event_run [eMo m] = some (eEvs (trace m)) := by
  refine call_ok rfl ?_
  unfold B_event_run
  exact ok_ret.mpr ⟨_, by simp [first_ok, run_ok hm (first_sw hm), trace], rfl⟩
/-- the state behind all events ahead of a time -/
def upTo (m : Mo) (t : Int) : Nat → Sta → Sta
  | 0, a => a
  | k + 1, a => match nextTime m a with
    | none => a
    | some u => if u < t then upTo m t k (happen m (a.at u)).2 else a
theorem upTo_fuel {m : Mo} (hm : Mok m) (t : Int) : ∀ (k k' : Nat) {a : Sta}, SW m a → due m a < k → due m a < k' → upTo m t k a = upTo m t k' a
  | 0, _, _, _, h, _ => by omega
  | _ + 1, 0, _, _, _, h => by omega
  | k + 1, k' + 1, a, w, h1, h2 => by
    unfold upTo
    cases q : nextTime m a with
    | none => rfl
    | some u =>
      simp only
      obtain ⟨_, g, _⟩ := nextTime_some q
      have hd := due_lt hm w q
      rw [upTo_fuel hm t k k' ((w.at g).next hm).1 (by omega) (by omega)]
def till (m : Mo) (t : Int) (a : Sta) : Sta := upTo m t (due m a + 1) a
theorem till_eq {m : Mo} (hm : Mok m) {a : Sta} (w : SW m a) (t : Int) : till m t a = match nextTime m a with
    | none => a
    | some u => if u < t then till m t (happen m (a.at u)).2 else a := by
  unfold till
  rw [upTo]
  cases q : nextTime m a with
  | none => rfl
  | some u =>
    simp only
    obtain ⟨_, g, _⟩ := nextTime_some q
    have hd := due_lt hm w q
    rw [upTo_fuel hm t (due m a) (due m (happen m (a.at u)).2 + 1) ((w.at g).next hm).1 (by omega) (by omega)]
theorem till_sw {m : Mo} (hm : Mok m) (t : Int) : ∀ (k : Nat) {a : Sta}, SW m a → SW m (upTo m t k a)
  | 0, a, w => w
  | k + 1, a, w => by
    unfold upTo
    cases q : nextTime m a with
    | none => exact w
    | some u =>
      simp only
      obtain ⟨_, g, _⟩ := nextTime_some q
      split
      · exact till_sw hm t k ((w.at g).next hm).1
      · exact w
def stateAt (m : Mo) (t : Int) : Sta := (till m t (firstSta m)).at t
end DL

/-! Settled moments: at a time at which nothing is due nothing happens. -/
namespace DL
open PySem PySem.Spec PyProof.Rows L2
/-! ### order -/
def Sd (l : List (Int × Nat)) : Prop := l.Pairwise fun x y => pLt y x = false
theorem psort_sd (l : List (Int × Nat)) : Sd (psort l) := isort_sorted pLt_swo l
theorem isort_self {α : Type} {lt : α → α → Bool} : ∀ {l : List α}, l.Pairwise (fun x y => lt y x = false) → isort lt l = l
  | [], _ => rfl
  | x :: l, h => by
    obtain ⟨h1, h2⟩ := List.pairwise_cons.mp h
    rw [isort, isort_self h2]
    cases l with
    | nil => rfl
    | cons y l => rw [ins, if_neg (by rw [h1 y (by simp)]; simp)]
theorem psort_self {l : List (Int × Nat)} (h : Sd l) : psort l = l := isort_self h
theorem Sd.filter {l : List (Int × Nat)} (h : Sd l) (p : Int × Nat → Bool) : Sd (l.filter p) := List.Pairwise.filter p h
theorem Sd.erase {l : List (Int × Nat)} (h : Sd l) (x : Int × Nat) : Sd (l.erase x) := h.sublist List.erase_sublist
structure Ord (s : Mm) : Prop where
  sv : ∀ r ∈ s.serv, Sd r
  rd : Sd s.ready
theorem set_mem {α : Type} {rows : List (List α)} {p : Nat} {r x : List α} (h : x ∈ rows.set p r) : x = r ∨ x ∈ rows := by
  rcases List.mem_or_eq_of_mem_set h with z | z
  · exact .inr z
  · exact .inl z
theorem goOn_ord {m : Mo} {s : Mm} {x : Int × Nat} (o : Ord s) : Ord (goOn m s x) := by
  unfold goOn
  split
  · exact ⟨o.sv, o.rd.erase x⟩
  · split
    · exact o
    · exact ⟨o.sv, o.rd.erase x⟩
theorem foldGo_ord {m : Mo} : ∀ (l : List (Int × Nat)) {s : Mm}, Ord s → Ord (l.foldl (goOn m) s)
  | [], s, o => o
  | x :: l, s, o => foldGo_ord l (goOn_ord o)
/-- all rows but p's are in order -/
def OrdBut (p : Nat) (s : Mm) : Prop := (∀ i r, i ≠ p → s.serv[i]? = some r → Sd r) ∧ Sd s.ready
theorem beginN_but {m : Mo} {p : Nat} : ∀ (k : Nat) {s : Mm}, OrdBut p s → OrdBut p (beginN m p k s)
  | 0, s, o => o
  | k + 1, s, o => by
    unfold beginN
    split
    · exact beginN_but k ⟨fun i r hi h => o.1 i r hi (by
        have h : (s.serv.set p _)[i]? = some r := h
        rw [List.getElem?_set_ne (Ne.symm hi)] at h
        exact h), o.2⟩
    · exact o
theorem beginServices_ord {m : Mo} {p : Nat} {s : Mm} (hp : p < s.serv.length) (o : Ord s) : Ord (beginServices m s p) := by
  obtain ⟨b1, b2⟩ := beginN_but (m := m) (p := p) (waitAt s p).length (s := s) ⟨fun i r _ h => o.sv r (List.mem_of_getElem? h), o.rd⟩
  refine ⟨fun r hr => ?_, b2⟩
  obtain ⟨i, hi⟩ := List.getElem?_of_mem hr
  have hi : ((beginN m p (waitAt s p).length s).serv.set p (psort (servAt (beginN m p (waitAt s p).length s) p)))[i]? = some r := hi
  by_cases q : i = p
  · subst q
    by_cases hl : i < (beginN m i (waitAt s i).length s).serv.length
    · rw [List.getElem?_set_self hl] at hi
      cases hi
      exact psort_sd _
    · rw [List.getElem?_eq_none (by simpa using hl)] at hi
      cases hi
  · rw [List.getElem?_set_ne (Ne.symm q)] at hi
    exact b1 i r q hi
theorem beginAt_ord {m : Mo} {p : Nat} {s : Mm} (hp : p < s.serv.length) (o : Ord s) : Ord (beginAt m s p) := by
  unfold beginAt
  split
  · exact o
  · exact beginServices_ord hp o
theorem foldBegin_ord {m : Mo} : ∀ (l : List Nat) {s : Mm}, (∀ p ∈ l, p < m.st.length) → WF m s → Ord s → Ord (l.foldl (beginAt m) s)
  | [], s, _, _, o => o
  | p :: l, s, h, w, o => foldBegin_ord l (fun q hq => h q (by simp [hq])) (beginAt_wf (h p (by simp)) w).1 (beginAt_ord (by rw [w.rows.v]; exact h p (by simp)) o)
theorem round_ord {m : Mo} (hm : Mok m) {s : Mm} (w : WF m s) (o : Ord s) : Ord (round m s) :=
  foldBegin_ord _ (fun p hp => List.mem_range.mp hp) (roundGo_wf hm w).1 (foldGo_ord _ o)
theorem settleN_ord {m : Mo} (hm : Mok m) : ∀ (k : Nat) {s : Mm}, WF m s → Ord s → Ord (settleN m k s)
  | 0, s, _, o => o
  | k + 1, s, w, o => by
    unfold settleN
    split
    · exact settleN_ord hm k (round_wf hm w).1 (round_ord hm w o)
    · exact round_ord hm w o
theorem settle_ord {m : Mo} (hm : Mok m) {s : Mm} (w : WF m s) (o : Ord s) : Ord (settle m s) := settleN_ord hm _ w o
theorem endFold_serv {m : Mo} : ∀ (l : List Nat) {s : Mm}, (l.foldl (endOne m) s).serv = s.serv ∧ (l.foldl (endOne m) s).wait = s.wait
  | [], s => ⟨rfl, rfl⟩
  | j :: l, s => endFold_serv l (s := endOne m s j)
theorem end_ord {m : Mo} {s : Mm} (o : Ord s) : Ord (endServices m s) := by
  refine ⟨fun r hr => ?_, psort_sd _⟩
  have hr : r ∈ (endLoop m s).serv := hr
  unfold endLoop at hr
  rw [(endFold_serv _).1] at hr
  obtain ⟨r0, h0, rfl⟩ := List.mem_map.mp hr
  exact (o.sv r0 h0).filter _
theorem arriveOne_ord {m : Mo} {s : Mm} {j : Nat} (o : Ord s) : Ord (arriveOne m s j) := by
  unfold arriveOne
  split
  · split
    · exact ⟨o.sv, o.rd⟩
    · exact ⟨o.sv, o.rd⟩
  · exact o
theorem arrive_ord {m : Mo} {s : Mm} (o : Ord s) : Ord (arrive m s) := by
  have gen : ∀ (l : List Nat) (T : Mm), Ord T → Ord (l.foldl (arriveOne m) T) := by
    intro l
    induction l with
    | nil => exact fun T h => h
    | cons j l ih => exact fun T h => ih _ (arriveOne_ord h)
  exact gen _ _ o
/-! ### a round without events -/
structure Stl (m : Mo) (s : Mm) (t : Int) : Prop where
  go : ∀ x ∈ s.ready, ¬ s.steps.getD x.2 0 + 1 = ((m.route x.2).length : Int) ∧ isFull m s (nextSt m s x.2) = true
  be : ∀ p, p < m.st.length → pzM (m.station p).1 t m.pa = true ∨ canBegin m p s = false
theorem goOn_id {m : Mo} {s : Mm} {x : Int × Nat} (h1 : ¬ s.steps.getD x.2 0 + 1 = ((m.route x.2).length : Int)) (h2 : isFull m s (nextSt m s x.2) = true) : goOn m s x = s := by
  unfold goOn
  rw [if_neg h1, if_pos h2]
theorem goOn_no {m : Mo} {s : Mm} {x : Int × Nat} (h : (goOn m s x).evs.length = s.evs.length) : goOn m s x = s ∧ ¬ s.steps.getD x.2 0 + 1 = ((m.route x.2).length : Int) ∧ isFull m s (nextSt m s x.2) = true := by
  unfold goOn at h ⊢
  split at h
  · exfalso
    have : (s.evs ++ [_]).length = s.evs.length := h
    simp at this
  · rename_i h1
    split at h
    · rename_i h2
      rw [if_neg h1, if_pos h2]
      exact ⟨rfl, h1, h2⟩
    · exfalso
      have : (s.evs ++ [_]).length = s.evs.length := h
      simp at this
theorem goOn_len {m : Mo} {s : Mm} {x : Int × Nat} : s.evs.length ≤ (goOn m s x).evs.length := by
  unfold goOn
  split
  · show _ ≤ (s.evs ++ [_]).length; simp
  · split
    · exact Nat.le_refl _
    · show _ ≤ (s.evs ++ [_]).length; simp
theorem foldGo_len {m : Mo} : ∀ (l : List (Int × Nat)) {s : Mm}, s.evs.length ≤ (l.foldl (goOn m) s).evs.length
  | [], s => Nat.le_refl _
  | x :: l, s => Nat.le_trans goOn_len (foldGo_len l)
theorem foldGo_no {m : Mo} : ∀ (l : List (Int × Nat)) {s : Mm}, (l.foldl (goOn m) s).evs.length = s.evs.length → l.foldl (goOn m) s = s ∧ ∀ x ∈ l, ¬ s.steps.getD x.2 0 + 1 = ((m.route x.2).length : Int) ∧ isFull m s (nextSt m s x.2) = true
  | [], s, _ => ⟨rfl, fun _ z => nomatch z⟩
  | x :: l, s, h => by
    have h1 := goOn_len (m := m) (s := s) (x := x)
    have h2 := foldGo_len (m := m) l (s := goOn m s x)
    rw [List.foldl_cons] at h ⊢
    obtain ⟨e, c⟩ := goOn_no (m := m) (s := s) (x := x) (by omega)
    rw [e] at h ⊢
    obtain ⟨e2, c2⟩ := foldGo_no l h
    refine ⟨e2, fun y hy => ?_⟩
    rcases List.mem_cons.mp hy with z | z
    · rw [z]; exact c
    · exact c2 y z
theorem beginN_len {m : Mo} {p : Nat} : ∀ (k : Nat) {s : Mm}, s.evs.length ≤ (beginN m p k s).evs.length
  | 0, s => Nat.le_refl _
  | k + 1, s => by
    unfold beginN
    split
    · refine Nat.le_trans ?_ (beginN_len k)
      show _ ≤ (s.evs ++ [_]).length; simp
    · exact Nat.le_refl _
theorem beginN_no {m : Mo} {p : Nat} {s : Mm} (h : (beginN m p (waitAt s p).length s).evs.length = s.evs.length) : beginN m p (waitAt s p).length s = s ∧ canBegin m p s = false := by
  cases q : (waitAt s p).length with
  | zero =>
    refine ⟨rfl, ?_⟩
    unfold canBegin
    rw [q]; rfl
  | succ k =>
    rw [q] at h
    unfold beginN at h ⊢
    cases c : canBegin m p s with
    | false => simp
    | true =>
      rw [c, if_pos rfl] at h
      have h2 := beginN_len (m := m) (p := p) k (s := beginOne m p s)
      have : (beginOne m p s).evs.length = s.evs.length + 1 := by show (s.evs ++ [_]).length = _; simp
      omega
theorem sortServ_id {s : Mm} {p : Nat} (o : Ord s) : sortServ p s = s := by
  unfold sortServ
  have : s.serv.set p (psort (servAt s p)) = s.serv := by
    by_cases hp : p < s.serv.length
    · have hs : s.serv[p]? = some (servAt s p) := getD_at hp
      rw [psort_self (o.sv _ (List.mem_of_getElem? hs))]
      exact set_self hs
    · rw [List.set_eq_of_length_le (by omega)]
  rw [this]
theorem beginAt_len {m : Mo} {p : Nat} {s : Mm} : s.evs.length ≤ (beginAt m s p).evs.length := by
  unfold beginAt
  split
  · exact Nat.le_refl _
  · exact beginN_len _
theorem beginAt_no {m : Mo} {p : Nat} {s : Mm} (o : Ord s) (h : (beginAt m s p).evs.length = s.evs.length) : beginAt m s p = s ∧ (pzM (m.station p).1 s.time m.pa = true ∨ canBegin m p s = false) := by
  unfold beginAt at h ⊢
  split at h
  · rename_i c
    rw [if_pos c]
    exact ⟨rfl, .inl c⟩
  · rename_i c
    rw [if_neg c]
    have h : (beginN m p (waitAt s p).length s).evs.length = s.evs.length := h
    obtain ⟨e1, e2⟩ := beginN_no h
    refine ⟨?_, .inr e2⟩
    unfold beginServices
    rw [e1, sortServ_id o]
theorem beginAt_id {m : Mo} {p : Nat} {s : Mm} (o : Ord s) (h : pzM (m.station p).1 s.time m.pa = true ∨ canBegin m p s = false) : beginAt m s p = s := by
  unfold beginAt
  split
  · rfl
  · rename_i c
    rcases h with h | h
    · exact absurd h c
    · have : beginN m p (waitAt s p).length s = s := by
        cases (waitAt s p).length with
        | zero => rfl
        | succ k => rw [beginN, if_neg (by rw [h]; simp)]
      unfold beginServices
      rw [this, sortServ_id o]
theorem foldBegin_len {m : Mo} : ∀ (l : List Nat) {s : Mm}, s.evs.length ≤ (l.foldl (beginAt m) s).evs.length
  | [], s => Nat.le_refl _
  | x :: l, s => Nat.le_trans beginAt_len (foldBegin_len l)
theorem foldBegin_no {m : Mo} : ∀ (l : List Nat) {s : Mm}, Ord s → (l.foldl (beginAt m) s).evs.length = s.evs.length → l.foldl (beginAt m) s = s ∧ ∀ p ∈ l, pzM (m.station p).1 s.time m.pa = true ∨ canBegin m p s = false
  | [], s, _, _ => ⟨rfl, fun _ z => nomatch z⟩
  | x :: l, s, o, h => by
    have h1 := beginAt_len (m := m) (s := s) (p := x)
    have h2 := foldBegin_len (m := m) l (s := beginAt m s x)
    rw [List.foldl_cons] at h ⊢
    obtain ⟨e, c⟩ := beginAt_no (m := m) (s := s) (p := x) o (by omega)
    rw [e] at h ⊢
    obtain ⟨e2, c2⟩ := foldBegin_no l o h
    refine ⟨e2, fun y hy => ?_⟩
    rcases List.mem_cons.mp hy with z | z
    · rw [z]; exact c
    · exact c2 y z
/-- a round without events changes nothing, and nothing can go on -/
theorem round_no {m : Mo} {s : Mm} (o : Ord s) (h : (round m s).evs.length = s.evs.length) : round m s = s ∧ Stl m s s.time := by
  have h1 := foldGo_len (m := m) s.ready (s := s)
  have h2 := foldBegin_len (m := m) (List.range m.st.length) (s := roundGo m s)
  unfold round at h ⊢
  have h1 : s.evs.length ≤ (roundGo m s).evs.length := h1
  obtain ⟨e, c⟩ := foldGo_no (m := m) s.ready (s := s) (by show (roundGo m s).evs.length = _; omega)
  have e : roundGo m s = s := e
  rw [e] at h ⊢
  obtain ⟨e2, c2⟩ := foldBegin_no _ o h
  exact ⟨e2, c, fun p hp => c2 p (List.mem_range.mpr hp)⟩
theorem round_id {m : Mo} {s : Mm} (o : Ord s) (h : Stl m s s.time) : round m s = s := by
  have e1 : ∀ (l : List (Int × Nat)), (∀ x ∈ l, x ∈ s.ready) → l.foldl (goOn m) s = s := by
    intro l
    induction l with
    | nil => exact fun _ => rfl
    | cons x l ih =>
      intro hl
      obtain ⟨c1, c2⟩ := h.go x (hl x (by simp))
      rw [List.foldl_cons, goOn_id c1 c2]
      exact ih fun y hy => hl y (by simp [hy])
  have e2 : ∀ (l : List Nat), (∀ p ∈ l, p < m.st.length) → l.foldl (beginAt m) s = s := by
    intro l
    induction l with
    | nil => exact fun _ => rfl
    | cons p l ih =>
      intro hl
      rw [List.foldl_cons, beginAt_id o (h.be p (hl p (by simp)))]
      exact ih fun y hy => hl y (by simp [hy])
  unfold round roundGo
  rw [e1 _ fun _ z => z]
  exact e2 _ fun p hp => List.mem_range.mp hp
theorem settleN_fix {m : Mo} (hm : Mok m) : ∀ (k : Nat) {s : Mm}, WF m s → Ord s → phi m s < k → round m (settleN m k s) = settleN m k s ∧ Stl m (settleN m k s) s.time
  | 0, s, _, _, h => by omega
  | k + 1, s, w, o, h => by
    obtain ⟨w1, g1⟩ := round_wf hm w
    have hd := g1.dec
    have hl := g1.len
    unfold settleN
    split
    · obtain ⟨a, b⟩ := settleN_fix hm k w1 (round_ord hm w o) (by omega)
      rw [g1.tm] at b
      exact ⟨a, b⟩
    · obtain ⟨a, b⟩ := round_no (m := m) o (by omega)
      rw [a]
      exact ⟨a, b⟩
theorem settle_fix {m : Mo} (hm : Mok m) {s : Mm} (w : WF m s) (o : Ord s) : round m (settle m s) = settle m s ∧ Stl m (settle m s) s.time := settleN_fix hm _ w o (Nat.lt_succ_self _)
theorem settle_id {m : Mo} {s : Mm} (o : Ord s) (h : Stl m s s.time) : settle m s = s := by
  unfold settle settleN
  rw [round_id o h, if_neg (by omega)]
/-! ### ready times -/
def Rt (s : Mm) (t : Int) : Prop := ∀ x ∈ s.ready, x.1 ≤ t
theorem goOn_sub {m : Mo} {s : Mm} {x y : Int × Nat} (h : y ∈ (goOn m s x).ready) : y ∈ s.ready := by
  unfold goOn at h
  split at h
  · exact List.mem_of_mem_erase h
  · split at h
    · exact h
    · exact List.mem_of_mem_erase h
theorem foldGo_sub {m : Mo} {y : Int × Nat} : ∀ (l : List (Int × Nat)) {s : Mm}, y ∈ (l.foldl (goOn m) s).ready → y ∈ s.ready
  | [], s, h => h
  | x :: l, s, h => goOn_sub (foldGo_sub l h)
theorem beginN_ready {m : Mo} {p : Nat} : ∀ (k : Nat) {s : Mm}, (beginN m p k s).ready = s.ready
  | 0, s => rfl
  | k + 1, s => by
    unfold beginN
    split
    · exact beginN_ready k
    · rfl
theorem beginAt_ready {m : Mo} {p : Nat} {s : Mm} : (beginAt m s p).ready = s.ready := by
  unfold beginAt
  split
  · rfl
  · exact beginN_ready _
theorem foldBegin_ready {m : Mo} : ∀ (l : List Nat) {s : Mm}, (l.foldl (beginAt m) s).ready = s.ready
  | [], s => rfl
  | p :: l, s => (foldBegin_ready l).trans beginAt_ready
theorem round_sub {m : Mo} {y : Int × Nat} {s : Mm} (h : y ∈ (round m s).ready) : y ∈ s.ready := by
  unfold round at h
  rw [foldBegin_ready] at h
  exact foldGo_sub _ h
theorem settleN_sub {m : Mo} {y : Int × Nat} : ∀ (k : Nat) {s : Mm}, y ∈ (settleN m k s).ready → y ∈ s.ready
  | 0, s, h => h
  | k + 1, s, h => by
    unfold settleN at h
    split at h
    · exact round_sub (settleN_sub k h)
    · exact round_sub h
theorem arrive_ready {m : Mo} {s : Mm} : (arrive m s).ready = s.ready := by
  have gen : ∀ (l : List Nat) (T : Mm), (l.foldl (arriveOne m) T).ready = T.ready := by
    intro l
    induction l with
    | nil => exact fun T => rfl
    | cons j l ih =>
      intro T
      refine (ih _).trans ?_
      unfold arriveOne
      split
      · split
        · rfl
        · rfl
      · rfl
  exact gen _ _
theorem end_ready {m : Mo} {s : Mm} {y : Int × Nat} (h : y ∈ (endServices m s).ready) : y ∈ s.ready ∨ (y.1 = s.time ∧ y.2 ∈ over s) := by
  have gen : ∀ (l : List Nat) (T : Mm), y ∈ (l.foldl (endOne m) T).ready → y ∈ T.ready ∨ (y.1 = T.time ∧ y.2 ∈ l) := by
    intro l
    induction l with
    | nil => exact fun T h => .inl h
    | cons j l ih =>
      intro T h
      rcases ih _ h with z | z
      · have z : y ∈ T.ready ++ [(T.time, j)] := z
        rcases List.mem_append.mp z with z | z
        · exact .inl z
        · rw [List.mem_singleton] at z
          subst z
          exact .inr ⟨rfl, by simp⟩
      · exact .inr ⟨z.1, by simp [z.2]⟩
  have h : y ∈ psort (endLoop m s).ready := h
  rcases gen _ _ ((psort_perm _).mem_iff.mp h) with z | z
  · exact .inl z
  · exact .inr ⟨z.1, (jsort_perm _).mem_iff.mp z.2⟩
/-! ### states that are settled -/
structure SO (m : Mo) (a : Sta) : Prop where
  sw : SW m a
  ord : Ord a.mm
  old : ∀ x ∈ a.ready, x.1 < a.time
theorem SO.at {m : Mo} {a : Sta} (w : SO m a) {t : Int} (h : a.time ≤ t) : SO m (a.at t) := ⟨w.sw.at h, ⟨w.ord.sv, w.ord.rd⟩, fun x hx => by
  have := w.old x hx
  show x.1 < t
  omega⟩
theorem SO.next {m : Mo} (hm : Mok m) {a : Sta} (w : SO m a) : SO m (happen m a).2 ∧ Stl m (happen m a).2.mm a.time := by
  have h := w.sw.hap hm
  obtain ⟨b1, b2, b3, b4, b5, b6, b7⟩ := blocks_same (m := m) (s := settle m (arrive m (settle m (endServices m a.mm))))
  have o1 := end_ord (m := m) w.ord
  have o2 := settle_ord hm h.e1.1 o1
  have o3 := arrive_ord (m := m) o2
  have o4 := settle_ord hm h.e3.1 o3
  obtain ⟨_, st⟩ := settle_fix hm h.e3.1 o3
  have t3 : (arrive m (settle m (endServices m a.mm))).time = a.time := by rw [h.e3.2.tm, h.e2.2.tm, h.e1.2.tm]; rfl
  rw [t3] at st
  have sr : (happen m a).2.ready = (settle m (arrive m (settle m (endServices m a.mm)))).ready := b3
  have ss : (happen m a).2.serv = (settle m (arrive m (settle m (endServices m a.mm)))).serv := b2
  have sw : (happen m a).2.wait = (settle m (arrive m (settle m (endServices m a.mm)))).wait := b1
  have sp : (happen m a).2.steps = (settle m (arrive m (settle m (endServices m a.mm)))).steps := b4
  obtain ⟨n1, n2, n3⟩ := w.sw.next hm
  refine ⟨⟨n1, ⟨fun r hr => ?_, ?_⟩, fun x hx => ?_⟩, ?_⟩
  · have hr : r ∈ (happen m a).2.serv := hr
    rw [ss] at hr; exact o4.sv r hr
  · show Sd (happen m a).2.ready
    rw [sr]; exact o4.rd
  · rw [n2]
    rw [sr] at hx
    have h1 := settleN_sub _ hx
    rw [arrive_ready] at h1
    rcases end_ready (settleN_sub _ h1) with z | z
    · have := w.old x z; omega
    · have : x.1 = a.time := z.1
      omega
  · have e : (happen m a).2.mm = { settle m (arrive m (settle m (endServices m a.mm))) with time := (happen m a).2.time, evs := [] } := by
      unfold Sta.mm
      rw [sr, ss, sw, sp]
      rfl
    rw [e]
    exact ⟨st.go, st.be⟩
theorem first_so {m : Mo} (hm : Mok m) : SO m (firstSta m) ∧ ∀ t, Stl m (firstSta m).mm t := by
  refine ⟨⟨first_sw hm, ⟨fun r hr => ?_, List.Pairwise.nil⟩, (fun x hx => nomatch hx)⟩, fun t => ⟨(fun x hx => nomatch hx), fun p hp => .inr ?_⟩⟩
  · obtain ⟨_, _, rfl⟩ := List.mem_map.mp (show r ∈ m.st.map fun _ => [] from hr)
    exact List.Pairwise.nil
  · unfold canBegin
    have : waitAt (firstSta m).mm p = [] := by
      show (m.st.map fun _ => ([] : List Nat)).getD p [] = []
      rw [List.getD_eq_getElem?_getD, List.getElem?_map]
      cases m.st[p]? <;> rfl
    rw [this]; rfl
/-! ### quiet times -/
theorem pz_true {N : Str} {T : Int} {l : List PaT} : pzM N T l = true ↔ ∃ x ∈ l, x.1 = N ∧ x.2.1 ≤ T ∧ T < x.2.2 := by
  unfold pzM
  rw [List.any_eq_true]
  constructor
  · rintro ⟨x, hx, h⟩
    simp only [Bool.and_eq_true, decide_eq_true_eq] at h
    exact ⟨x, hx, h.1, h.2.1, h.2.2⟩
  · rintro ⟨x, hx, h1, h2, h3⟩
    exact ⟨x, hx, by simp [h1, h2, h3]⟩
theorem quiet {m : Mo} {a : Sta} (w : SO m a) (st : Stl m a.mm (a.time - 1)) {T : Int} (hT : a.time ≤ T) (nd : ∀ u ∈ dueTimes m a, a.time ≤ u → T < u) : happen m (a.at T) = ([], { a with time := T + 1 }) := by
  have o : Ord (a.at T).mm := ⟨w.ord.sv, w.ord.rd⟩
  have hs : ∀ r ∈ a.serv, ∀ x ∈ r, x.1 ≠ T := fun r hr x hx z => by
    have := nd x.1 (List.mem_append_left _ (List.mem_append_left _ (List.mem_flatMap.mpr ⟨r, hr, List.mem_map.mpr ⟨x, hx, rfl⟩⟩))) (by omega)
    omega
  have hj : ∀ j, j < m.jo.length → jtime m j ≠ T := fun j hj z => by
    have : jtime m j ∈ dueTimes m a := List.mem_append_left _ (List.mem_append_right _ (List.mem_map.mpr ⟨m.jo.getD j (0, ""), by
      rw [List.getD_eq_getElem?_getD, List.getElem?_eq_getElem hj]; exact List.getElem_mem hj, rfl⟩))
    have := nd _ this (by omega)
    omega
  have stT : Stl m (a.at T).mm T := ⟨st.go, fun p hp => by
    rcases st.be p hp with z | z
    · obtain ⟨x, hx, h1, h2, h3⟩ := pz_true.mp z
      refine .inl (pz_true.mpr ⟨x, hx, h1, by omega, ?_⟩)
      by_cases q : a.time ≤ x.2.2
      · exact nd x.2.2 (List.mem_append_right _ (List.mem_map.mpr ⟨x, hx, rfl⟩)) q
      · omega
    · exact .inr z⟩
  have e0 : endServ (a.at T).mm = (a.at T).mm := by
    unfold endServ
    have : (a.at T).mm.serv.map (fun r => r.filter fun x => !decide (x.1 = (a.at T).mm.time)) = (a.at T).mm.serv := by
      conv => rhs; rw [← List.map_id (a.at T).mm.serv]
      refine List.map_congr_left fun r hr => ?_
      refine List.filter_eq_self.mpr fun x hx => ?_
      have := hs r hr x hx
      simp only [Bool.not_eq_true', decide_eq_false_iff_not]
      exact this
    rw [this]
  have e1 : over (a.at T).mm = [] := by
    unfold over
    refine List.flatMap_eq_nil_iff.mpr fun r hr => ?_
    rw [List.map_eq_nil_iff]
    refine List.filter_eq_nil_iff.mpr fun x hx => ?_
    have := hs r hr x hx
    simp only [decide_eq_true_eq]
    exact this
  have e2 : endServices m (a.at T).mm = (a.at T).mm := by
    have : endLoop m (a.at T).mm = (a.at T).mm := by
      unfold endLoop
      rw [e1, e0]; rfl
    unfold endServices
    rw [this, psort_self o.rd]
  have e3 : settle m (a.at T).mm = (a.at T).mm := settle_id o stT
  have e4 : arrive m (a.at T).mm = (a.at T).mm := by
    have gen : ∀ (l : List Nat), (∀ j ∈ l, j < m.jo.length) → l.foldl (arriveOne m) (a.at T).mm = (a.at T).mm := by
      intro l
      induction l with
      | nil => exact fun _ => rfl
      | cons j l ih =>
        intro hl
        have : arriveOne m (a.at T).mm j = (a.at T).mm := if_neg (hj j (hl j (by simp)))
        rw [List.foldl_cons, this]
        exact ih fun i hi => hl i (by simp [hi])
    exact gen _ fun j hj => List.mem_range.mp hj
  have e5 : blocks m (a.at T).mm = (a.at T).mm := by
    have gen : ∀ (l : List (Int × Nat)), (∀ x ∈ l, x ∈ a.ready) → l.foldl (blockOne m) (a.at T).mm = (a.at T).mm := by
      intro l
      induction l with
      | nil => exact fun _ => rfl
      | cons x l ih =>
        intro hl
        have hx := w.old x (hl x (by simp))
        have : blockOne m (a.at T).mm x = (a.at T).mm := if_neg (show ¬ x.1 = T by omega)
        rw [List.foldl_cons, this]
        exact ih fun i hi => hl i (by simp [hi])
    exact gen _ fun _ z => z
  have e : happenM m (a.at T) = (a.at T).mm := by
    unfold happenM
    rw [e2, e3, e4, e3, e5]
  unfold happen
  rw [e]
  rfl
end DL

/-! Times of events; runs cut in two. -/
namespace DL
open PySem PySem.Spec PyProof.Rows L2
/-! ### what happens at a time has this time -/
def Tm (s s' : Mm) : Prop := s'.time = s.time ∧ ∀ e ∈ s'.evs, e ∈ s.evs ∨ e.1 = s.time
theorem Tm.refl (s : Mm) : Tm s s := ⟨rfl, fun _ h => .inl h⟩
theorem Tm.trans {s s1 s2 : Mm} (a : Tm s s1) (b : Tm s1 s2) : Tm s s2 := ⟨b.1.trans a.1, fun e h => (b.2 e h).elim (a.2 e) fun z => .inr (z.trans a.1)⟩
theorem Tm.put {s s' : Mm} {w : Wd} {j : Nat} {n : Str} (h1 : s'.time = s.time) (h2 : s'.evs = s.evs ++ [(s.time, w, j, n)]) : Tm s s' := ⟨h1, fun e h => by
  rw [h2] at h
  rcases List.mem_append.mp h with z | z
  · exact .inl z
  · rw [List.mem_singleton] at z; rw [z]; exact .inr rfl⟩
theorem fold_tm {α : Type} {f : Mm → α → Mm} (h : ∀ s x, Tm s (f s x)) : ∀ (l : List α) (s : Mm), Tm s (l.foldl f s)
  | [], s => .refl s
  | x :: l, s => (h s x).trans (fold_tm h l _)
theorem goOn_tm {m : Mo} (s : Mm) (x : Int × Nat) : Tm s (goOn m s x) := by
  unfold goOn
  split
  · exact .put rfl rfl
  · split
    · exact .refl s
    · exact .put rfl rfl
theorem beginN_tm {m : Mo} {p : Nat} : ∀ (k : Nat) (s : Mm), Tm s (beginN m p k s)
  | 0, s => .refl s
  | k + 1, s => by
    unfold beginN
    split
    · exact Tm.trans (s1 := beginOne m p s) (.put rfl rfl) (beginN_tm k _)
    · exact .refl s
theorem beginAt_tm {m : Mo} (s : Mm) (p : Nat) : Tm s (beginAt m s p) := by
  unfold beginAt
  split
  · exact .refl s
  · exact beginN_tm _ s
theorem round_tm {m : Mo} (s : Mm) : Tm s (round m s) := (fold_tm goOn_tm _ _).trans (fold_tm beginAt_tm _ _)
theorem settleN_tm {m : Mo} : ∀ (k : Nat) (s : Mm), Tm s (settleN m k s)
  | 0, s => .refl s
  | k + 1, s => by
    unfold settleN
    split
    · exact (round_tm s).trans (settleN_tm k _)
    · exact round_tm s
theorem end_tm {m : Mo} (s : Mm) : Tm s (endServices m s) := by
  have h : Tm (endServ s) (endLoop m s) := fold_tm (f := endOne m) (fun s x => .put (s' := endOne m s x) rfl rfl) _ _
  exact ⟨h.1, h.2⟩
theorem arrive_tm {m : Mo} (s : Mm) : Tm s (arrive m s) := fold_tm (fun s j => by
  unfold arriveOne
  split
  · split
    · exact .put rfl rfl
    · exact .put rfl rfl
  · exact .refl s) _ _
theorem blocks_tm {m : Mo} (s : Mm) : Tm s (blocks m s) := fold_tm (fun s x => by
  unfold blockOne
  split
  · exact .put rfl rfl
  · exact .refl s) _ _
theorem happen_time {m : Mo} {a : Sta} : ∀ e ∈ (happen m a).1, e.1 = a.time := fun e he => by
  have h : Tm a.mm (happenM m a) := (((((end_tm a.mm).trans (settleN_tm _ _)).trans (arrive_tm _)).trans (settleN_tm _ _)).trans (blocks_tm _))
  rcases h.2 e he with z | z
  · cases z
  · exact z
/-! ### by the runs -/
theorem so_ind {m : Mo} (hm : Mok m) {P : Sta → Prop} (h : ∀ a, SO m a → Stl m a.mm (a.time - 1) → (∀ t, nextTime m a = some t → P (happen m (a.at t)).2) → P a) : ∀ a, SO m a → Stl m a.mm (a.time - 1) → P a := by
  have gen : ∀ (k : Nat) (a : Sta), due m a < k → SO m a → Stl m a.mm (a.time - 1) → P a := by
    intro k
    induction k with
    | zero => intro a h; omega
    | succ k ih =>
      intro a hk w st
      refine h a w st fun t ht => ?_
      obtain ⟨_, g, _⟩ := nextTime_some ht
      obtain ⟨w1, st1⟩ := (w.at g).next hm
      have hd := due_lt hm w.sw ht
      obtain ⟨_, n2, _⟩ := (w.sw.at g).next hm
      refine ih _ (by omega) w1 ?_
      have e : (happen m (a.at t)).2.time - 1 = (a.at t).time := by rw [n2]; omega
      rw [e]
      exact st1
  exact fun a => gen _ a (Nat.lt_succ_self _)
theorem run_time {m : Mo} (hm : Mok m) : ∀ a, SO m a → Stl m a.mm (a.time - 1) → ∀ e ∈ run m a, a.time ≤ e.1 ∧ ∀ t, nextTime m a = some t → t ≤ e.1 := so_ind hm fun a w st ih e he => by
  rw [run_eq hm w.sw] at he
  cases q : nextTime m a with
  | none => rw [q] at he; cases he
  | some t =>
    rw [q] at he
    simp only at he
    obtain ⟨_, g, _⟩ := nextTime_some q
    rcases List.mem_append.mp he with z | z
    · have : e.1 = t := happen_time e z
      exact ⟨by omega, fun t' ht' => by cases ht'; omega⟩
    · have h1 := (ih t q e z).1
      obtain ⟨_, n2, _⟩ := (w.sw.at g).next hm
      have n2 : (happen m (a.at t)).2.time = t + 1 := n2
      exact ⟨by omega, fun t' ht' => by cases ht'; omega⟩
theorem nextTime_at {m : Mo} {a : Sta} {T : Int} (h : a.time ≤ T) (nd : ∀ u ∈ dueTimes m a, a.time ≤ u → T ≤ u) : nextTime m (a.at T) = nextTime m a := by
  have e : (dueTimes m (a.at T)).filter (fun t => decide ((a.at T).time ≤ t)) = (dueTimes m a).filter fun t => decide (a.time ≤ t) := by
    show (dueTimes m a).filter (fun t => decide (T ≤ t)) = _
    refine List.filter_congr fun u hu => ?_
    by_cases q : a.time ≤ u
    · rw [decide_eq_true q, decide_eq_true (nd u hu q)]
    · rw [decide_eq_false q, decide_eq_false (by omega)]
  unfold nextTime
  rw [e]
theorem run_at {m : Mo} (hm : Mok m) {a : Sta} (w : SW m a) {T : Int} (h : a.time ≤ T) (nd : ∀ u ∈ dueTimes m a, a.time ≤ u → T ≤ u) : run m (a.at T) = run m a := by
  rw [run_eq hm w, run_eq hm (w.at h), nextTime_at h nd]
  rfl
structure Til (m : Mo) (T : Int) (b : Sta) : Prop where
  so : SO m b
  st : Stl m b.mm (b.time - 1)
  le : b.time ≤ T
  nd : ∀ u ∈ dueTimes m b, b.time ≤ u → T ≤ u
theorem cut {m : Mo} (hm : Mok m) (T : Int) : ∀ a, SO m a → Stl m a.mm (a.time - 1) → a.time ≤ T → Til m T (till m T a) ∧ run m a = (run m a).filter (fun e => decide (e.1 < T)) ++ run m ((till m T a).at T) ∧ till m (T + 1) a = till m (T + 1) (till m T a) := so_ind hm fun a w st ih hT => by
  have e1 := till_eq hm w.sw T
  have e2 := till_eq hm w.sw (T + 1)
  cases q : nextTime m a with
  | none =>
    rw [q] at e1 e2
    simp only at e1 e2
    have nd : ∀ u ∈ dueTimes m a, a.time ≤ u → T ≤ u := fun u hu hau => absurd hau (nextTime_none q u hu)
    have e3 := run_eq hm w.sw
    rw [q] at e3
    simp only at e3
    refine ⟨by rw [e1]; exact ⟨w, st, hT, nd⟩, ?_, by rw [e1]⟩
    rw [e1, run_at hm w.sw hT nd, e3]; rfl
  | some u =>
    rw [q] at e1 e2
    simp only at e1 e2
    obtain ⟨g1, g2, g3⟩ := nextTime_some q
    by_cases hu : u < T
    · rw [if_pos hu] at e1
      rw [if_pos (by omega)] at e2
      obtain ⟨_, n2, _⟩ := (w.sw.at g2).next hm
      have n2 : (happen m (a.at u)).2.time = u + 1 := n2
      obtain ⟨i1, i2, i3⟩ := ih u q (by omega)
      refine ⟨by rw [e1]; exact i1, ?_, by rw [e1, e2]; exact i3⟩
      have e3 := run_eq hm w.sw
      rw [q] at e3
      simp only at e3
      rw [e1, e3, List.filter_append, List.append_assoc, ← i2]
      congr 1
      refine (List.filter_eq_self.mpr fun e he => ?_).symm
      have : e.1 = u := happen_time e he
      rw [decide_eq_true_eq]; omega
    · rw [if_neg hu] at e1
      have nd : ∀ v ∈ dueTimes m a, a.time ≤ v → T ≤ v := fun v hv hav => by
        have := g3 v hv hav
        omega
      refine ⟨by rw [e1]; exact ⟨w, st, hT, nd⟩, ?_, by rw [e1]⟩
      rw [e1, run_at hm w.sw hT nd]
      have : (run m a).filter (fun e => decide (e.1 < T)) = [] := List.filter_eq_nil_iff.mpr fun e he => by
        have := (run_time hm a w st e he).2 u q
        rw [decide_eq_true_eq]; omega
      rw [this]; rfl
theorem first_time (m : Mo) : (firstSta m).time = 0 := rfl
theorem cut_first {m : Mo} (hm : Mok m) {T : Int} (h : 0 ≤ T) : Til m T (till m T (firstSta m)) ∧ trace m = (trace m).filter (fun e => decide (e.1 < T)) ++ run m (stateAt m T) ∧ till m (T + 1) (firstSta m) = till m (T + 1) (till m T (firstSta m)) :=
  cut hm T (firstSta m) (first_so hm).1 ((first_so hm).2 _) h
theorem stateAt_sw {m : Mo} (hm : Mok m) {T : Int} (h : 0 ≤ T) : SW m (stateAt m T) := by
  obtain ⟨i1, _, _⟩ := cut_first hm h
  exact i1.so.sw.at i1.le
/-- what happens at a time, from the state at this time -/
theorem happen_at {m : Mo} (hm : Mok m) {T : Int} (h : 0 ≤ T) : happen m (stateAt m T) = ((trace m).filter (fun e => decide (e.1 = T)), stateAt m (T + 1)) := by
  obtain ⟨i1, i2, i3⟩ := cut_first hm h
  have w := i1.so.sw.at i1.le
  have hst : stateAt m (T + 1) = (till m (T + 1) (till m T (firstSta m))).at (T + 1) := by unfold stateAt; rw [i3]
  have hs : stateAt m T = (till m T (firstSta m)).at T := rfl
  rw [hst, hs]
  have e0 : (trace m).filter (fun e => decide (e.1 = T)) = (run m ((till m T (firstSta m)).at T)).filter fun e => decide (e.1 = T) := by
    rw [i2, List.filter_append, List.filter_filter]
    have : (trace m).filter (fun e => decide (e.1 = T) && decide (e.1 < T)) = [] := List.filter_eq_nil_iff.mpr fun e he => by
      simp only [Bool.and_eq_true, decide_eq_true_eq]; omega
    rw [this]; rfl
  rw [e0]
  generalize till m T (firstSta m) = b at *
  have er := run_at hm i1.so.sw i1.le i1.nd
  have e4 := run_eq hm i1.so.sw
  have e5 := till_eq hm i1.so.sw (T + 1)
  rw [er]
  have quietE : (∀ u ∈ dueTimes m b, b.time ≤ u → T < u) → (∀ e ∈ run m b, e.1 ≠ T) → till m (T + 1) b = b → happen m (b.at T) = ((run m b).filter (fun e => decide (e.1 = T)), (till m (T + 1) b).at (T + 1)) := fun nd h1 h2 => by
    rw [quiet i1.so i1.st i1.le nd, h2]
    have : (run m b).filter (fun e => decide (e.1 = T)) = [] := List.filter_eq_nil_iff.mpr fun e he => by
      rw [decide_eq_true_eq]; exact h1 e he
    rw [this]; rfl
  cases q : nextTime m b with
  | none =>
    rw [q] at e4 e5
    simp only at e4 e5
    refine quietE (fun u hu hau => absurd hau (nextTime_none q u hu)) (fun e he => ?_) e5
    rw [e4] at he; cases he
  | some u =>
    rw [q] at e4 e5
    simp only at e4 e5
    obtain ⟨g1, g2, g3⟩ := nextTime_some q
    have hTu := i1.nd u g1 g2
    by_cases hu : u = T
    · subst hu
      rw [if_pos (by omega)] at e5
      obtain ⟨w1, st1⟩ := (i1.so.at g2).next hm
      obtain ⟨_, n2, _⟩ := (i1.so.sw.at g2).next hm
      have n2 : (happen m (b.at u)).2.time = u + 1 := n2
      have st1 : Stl m (happen m (b.at u)).2.mm ((happen m (b.at u)).2.time - 1) := by
        rw [n2]
        have e : u + 1 - 1 = (b.at u).time := by show u + 1 - 1 = u; omega
        rw [e]; exact st1
      have e6 := till_eq hm w1.sw (u + 1)
      have e7 : till m (u + 1) (happen m (b.at u)).2 = (happen m (b.at u)).2 := by
        rw [e6]
        cases q2 : nextTime m (happen m (b.at u)).2 with
        | none => rfl
        | some v =>
          simp only
          obtain ⟨_, k2, _⟩ := nextTime_some q2
          rw [if_neg (by omega)]
      rw [e5, e7, e4, List.filter_append]
      have f1 : (happen m (b.at u)).1.filter (fun e => decide (e.1 = u)) = (happen m (b.at u)).1 := List.filter_eq_self.mpr fun e he => by
        rw [decide_eq_true_eq]; exact happen_time e he
      have f2 : (run m (happen m (b.at u)).2).filter (fun e => decide (e.1 = u)) = [] := List.filter_eq_nil_iff.mpr fun e he => by
        have := (run_time hm _ w1 st1 e he).1
        rw [decide_eq_true_eq]; omega
      rw [f1, f2, List.append_nil]
      have e8 : (happen m (b.at u)).2.at (u + 1) = (happen m (b.at u)).2 := by rw [← n2]; rfl
      rw [e8]
    · rw [if_neg (by omega)] at e5
      refine quietE (fun v hv hbv => ?_) (fun e he => ?_) e5
      · have := g3 v hv hbv; omega
      · have := (run_time hm b i1.so i1.st e he).2 u q; omega
end DL

/-! What is told is data that can be compared. -/
namespace DL
open PySem PySem.Spec PyProof.Rows L2
theorem neB_self {d : D} (h : d.shaped = true) : D.neB d d = some false := by
  have gen : (if d.shaped && d.shaped then some (PyData.eqv d.py d.py) else none) = some true := by
    rw [if_pos (by rw [h]; rfl), PySem.SeqAt.eqv_refl _ (PySem.SeqAt.canLay_of_shaped h)]
  have h2 : D.eqB d d = some true := by
    cases d with
    | int i => simp
    | str x => simp
    | non => rfl
    | bl b => exact gen
    | tup ds => exact gen
    | lst ds => exact gen
    | dct _ _ => exact gen
    | obj _ _ _ => exact gen
    | scr _ => exact gen
  unfold D.neB
  rw [h2]
  rfl
/-- the stations' names in events are texts -/
def Tx (s s' : Mm) : Prop := ∀ e ∈ s'.evs, e ∈ s.evs ∨ PyData.strOk e.2.2.2 = true
theorem Tx.refl (s : Mm) : Tx s s := fun _ h => .inl h
theorem Tx.trans {s s1 s2 : Mm} (a : Tx s s1) (b : Tx s1 s2) : Tx s s2 := fun e h => (b e h).elim (a e) .inr
theorem Tx.put {s s' : Mm} {e : EvT} (h2 : s'.evs = s.evs ++ [e]) (h : PyData.strOk e.2.2.2 = true) : Tx s s' := fun x hx => by
  rw [h2] at hx
  rcases List.mem_append.mp hx with z | z
  · exact .inl z
  · rw [List.mem_singleton] at z; rw [z]; exact .inr h
theorem fold_tx {α : Type} {f : Mm → α → Mm} (h : ∀ s x, Tx s (f s x)) : ∀ (l : List α) (s : Mm), Tx s (l.foldl f s)
  | [], s => .refl s
  | x :: l, s => (h s x).trans (fold_tx h l _)
theorem ok_empty : PyData.strOk ("" : Str) = true := by decide +kernel
theorem route_tx {m : Mo} (t : m.tx) (j : Nat) : ∀ s ∈ m.route j, PyData.strOk s.1 = true := by
  unfold Mo.route Mo.kindOf
  cases q : m.ki.find? fun k => decide (k.1 = (m.jo.getD j (0, "")).2) with
  | none => exact fun _ z => nomatch z
  | some k => exact (t.ki k (List.mem_of_find?_eq_some q)).2
theorem getD_tx {l : List (Str × Int)} (h : ∀ s ∈ l, PyData.strOk s.1 = true) (n : Nat) : PyData.strOk (l.getD n ("", 0)).1 = true := by
  rw [List.getD_eq_getElem?_getD]
  cases q : l[n]? with
  | none => exact ok_empty
  | some x => exact h x (List.mem_of_getElem? q)
theorem here_tx {m : Mo} (t : m.tx) (st : List Int) (j : Nat) : PyData.strOk (here m st j) = true := getD_tx (route_tx t j) _
theorem next_tx {m : Mo} (t : m.tx) (s : Mm) (j : Nat) : PyData.strOk (nextSt m s j) = true := getD_tx (route_tx t j) _
theorem firstSt_tx {m : Mo} (t : m.tx) (j : Nat) : PyData.strOk (firstSt m j) = true := by
  have := getD_tx (route_tx t j) 0
  unfold firstSt
  cases q : m.route j with
  | nil => exact ok_empty
  | cons a r => rw [q] at this; simpa using this
theorem station_tx {m : Mo} (t : m.tx) (p : Nat) : PyData.strOk (m.station p).1 = true := by
  unfold Mo.station
  rw [List.getD_eq_getElem?_getD]
  cases q : m.st[p]? with
  | none => exact ok_empty
  | some x => exact (t.st x (List.mem_of_getElem? q)).1
theorem goOn_tx {m : Mo} (t : m.tx) (s : Mm) (x : Int × Nat) : Tx s (goOn m s x) := by
  unfold goOn
  split
  · exact .put rfl (here_tx t _ _)
  · split
    · exact .refl s
    · exact .put rfl (next_tx t _ _)
theorem beginN_tx {m : Mo} (t : m.tx) {p : Nat} : ∀ (k : Nat) (s : Mm), Tx s (beginN m p k s)
  | 0, s => .refl s
  | k + 1, s => by
    unfold beginN
    split
    · exact Tx.trans (s1 := beginOne m p s) (.put rfl (station_tx t p)) (beginN_tx t k _)
    · exact .refl s
theorem beginAt_tx {m : Mo} (t : m.tx) (s : Mm) (p : Nat) : Tx s (beginAt m s p) := by
  unfold beginAt
  split
  · exact .refl s
  · exact beginN_tx t _ s
theorem round_tx {m : Mo} (t : m.tx) (s : Mm) : Tx s (round m s) := (fold_tx (goOn_tx t) _ _).trans (fold_tx (beginAt_tx t) _ _)
theorem settleN_tx {m : Mo} (t : m.tx) : ∀ (k : Nat) (s : Mm), Tx s (settleN m k s)
  | 0, s => .refl s
  | k + 1, s => by
    unfold settleN
    split
    · exact (round_tx t s).trans (settleN_tx t k _)
    · exact round_tx t s
theorem end_tx {m : Mo} (t : m.tx) (s : Mm) : Tx s (endServices m s) := by
  have h : Tx (endServ s) (endLoop m s) := fold_tx (f := endOne m) (fun s x => .put (s' := endOne m s x) rfl (here_tx t _ _)) _ _
  exact h
theorem arrive_tx {m : Mo} (t : m.tx) (s : Mm) : Tx s (arrive m s) := fold_tx (fun s j => by
  unfold arriveOne
  split
  · split
    · exact .put rfl (firstSt_tx t _)
    · exact .put rfl (firstSt_tx t _)
  · exact .refl s) _ _
theorem blocks_tx {m : Mo} (t : m.tx) (s : Mm) : Tx s (blocks m s) := fold_tx (fun s x => by
  unfold blockOne
  split
  · exact .put rfl (here_tx t _ _)
  · exact .refl s) _ _
theorem happen_tx {m : Mo} (t : m.tx) {a : Sta} : ∀ e ∈ (happen m a).1, PyData.strOk e.2.2.2 = true := fun e he => by
  have h : Tx a.mm (happenM m a) := (((((end_tx t a.mm).trans (settleN_tx t _ _)).trans (arrive_tx t _)).trans (settleN_tx t _ _)).trans (blocks_tx t _))
  rcases h e he with z | z
  · cases z
  · exact z
theorem runN_tx {m : Mo} (t : m.tx) : ∀ (k : Nat) {a : Sta}, ∀ e ∈ runN m k a, PyData.strOk e.2.2.2 = true
  | 0, _, _, h => nomatch h
  | k + 1, a, e, h => by
    unfold runN at h
    cases q : nextTime m a with
    | none => rw [q] at h; cases h
    | some u =>
      rw [q] at h
      simp only at h
      rcases List.mem_append.mp h with z | z
      · exact happen_tx t e z
      · exact runN_tx t k e z
theorem wd_tx (w : Wd) : PyData.strOk w.str = true := by cases w <;> decide +kernel
theorem eEv_lay {e : EvT} (h : PyData.strOk e.2.2.2 = true) : (eEv e).py.canLay0 = true := by
  simp [eEv, D.py, D.pys, PyData.canLay0, PyData.canLayAll0, h, wd_tx]
theorem eEv_dep (e : EvT) : (eEv e).py.depth ≤ 10 := by simp [eEv, D.py, D.pys, PyData.depth, PyData.depthAll]
theorem evs_shaped {l : List EvT} (h : ∀ e ∈ l, PyData.strOk e.2.2.2 = true) : (eEvs l).shaped = true := lst_shaped (fun x hx => eEv_lay (h x hx)) eEv_dep
theorem run_shaped {m : Mo} (t : m.tx) (a : Sta) : (eEvs (run m a)).shaped = true := evs_shaped fun e he => runN_tx t _ e he
theorem sta_shaped (a : Sta) : (eSta a).shaped = true := by
  have a1 : PyData.canLayAll0 (D.pys (a.wait.map fun r => .tup (r.map jD))) = true := lay_map fun x hx => by
    have : PyData.canLayAll0 (D.pys (x.map jD)) = true := lay_map fun y _ => rfl
    simp [D.py, PyData.canLay0, this]
  have a2 : PyData.canLayAll0 (D.pys (a.serv.map fun r => .tup (r.map ePr))) = true := lay_map fun x hx => by
    have : PyData.canLayAll0 (D.pys (x.map ePr)) = true := lay_map fun y _ => by simp [ePr, D.py, D.pys, PyData.canLay0, PyData.canLayAll0]
    simp [D.py, PyData.canLay0, this]
  have a3 : PyData.canLayAll0 (D.pys (a.ready.map ePr)) = true := lay_map fun y _ => by simp [ePr, D.py, D.pys, PyData.canLay0, PyData.canLayAll0]
  have a4 : PyData.canLayAll0 (D.pys (a.steps.map .int)) = true := lay_map fun y _ => rfl
  have d1 := depth_map (enc := fun r : List Nat => D.tup (r.map jD)) (n := 10) (fun x => by
    have := depth_map (enc := jD) (n := 2) (fun y => by simp [D.py, PyData.depth]) x
    simp [D.py, PyData.depth]; omega) a.wait
  have d2 := depth_map (enc := fun r : List (Int × Nat) => D.tup (r.map ePr)) (n := 10) (fun x => by
    have := depth_map (enc := ePr) (n := 2) (fun y => by simp [ePr, D.py, D.pys, PyData.depth, PyData.depthAll]) x
    simp [D.py, PyData.depth]; omega) a.serv
  have d3 := depth_map (enc := ePr) (n := 2) (fun y => by simp [ePr, D.py, D.pys, PyData.depth, PyData.depthAll]) a.ready
  have d4 := depth_map (enc := D.int) (n := 2) (fun y => by simp [D.py, PyData.depth]) a.steps
  refine shaped_of ?_ ?_
  · simp [eSta, D.py, D.pys, PyData.canLay0, PyData.canLayAll0, a1, a2, a3, a4]
  · simp [eSta, D.py, D.pys, PyData.depth, PyData.depthAll]
    omega
end DL

namespace DL
open PySem PySem.Spec PyProof.Rows L2
abbrev intL (ds : List Int) : D := .lst (ds.map .int)
theorem ints_at {ds : List Int} {i : Int} (h0 : 0 ≤ i) (h : i < ds.length) : atI (ds.map D.int) i = some (.int (ds.getD i.toNat 0)) := by
  rw [atI_of h0 (by simpa using h), List.getElem?_map, List.getD_eq_getElem?_getD]
  rw [List.getElem?_eq_getElem (by omega)]
  rfl
/-- drawn numbers lie below their sizes -/
def Dr : List Int → List Int → Prop
  | [], [] => True
  | d :: ds, s :: ss => (0 ≤ d ∧ d < s) ∧ Dr ds ss
  | _, _ => False
theorem Dr.len : ∀ {ds ss : List Int}, Dr ds ss → ds.length = ss.length
  | [], [], _ => rfl
  | _ :: _, _ :: _, h => by simp [Dr.len h.2]
  | [], _ :: _, h => h.elim
  | _ :: _, [], h => h.elim
theorem Dr.app : ∀ {ds ss : List Int} {d s : Int}, Dr ds ss → 0 ≤ d → d < s → Dr (ds ++ [d]) (ss ++ [s])
  | [], [], _, _, _, h0, h1 => ⟨⟨h0, h1⟩, trivial⟩
  | _ :: _, _ :: _, _, _, h, h0, h1 => ⟨h.1, Dr.app h.2 h0 h1⟩
  | [], _ :: _, _, _, h, _, _ => h.elim
  | _ :: _, [], _, _, h, _, _ => h.elim
theorem Dr.get : ∀ {ds ss : List Int} (_ : Dr ds ss) (n : Nat), n < ss.length → 0 ≤ ds.getD n 0 ∧ ds.getD n 0 < ss.getD n 0
  | d :: ds, s :: ss, h, 0, _ => h.1
  | d :: ds, s :: ss, h, n + 1, hn => by
    have := Dr.get h.2 n (by simpa using hn)
    simpa using this
  | [], [], _, n, hn => by simp at hn
  | [], _ :: _, h, _, _ => h.elim
  | _ :: _, [], h, _, _ => h.elim
theorem fmod_range {a b : Int} (h : 0 < b) : 0 ≤ a.fmod b ∧ a.fmod b < b := ⟨Int.fmod_nonneg_of_pos a h, Int.fmod_lt_of_pos a h⟩
theorem callF_of {n m : Nat} {F : Fs} {ds : List D} {Q : D → Prop} (hl : ds.length = n) (h : Ok (F (ds.map some ++ List.replicate m none)) fun o => match o with | .rt d _ => Q d | .nx _ => Q .non | _ => False) : ∃ d, callF n m F ds = some d ∧ Q d := by
  obtain ⟨o, e, q⟩ := h
  unfold callF
  rw [if_pos hl, e]
  cases o with
  | rt d ρ => exact ⟨d, rfl, q⟩
  | nx ρ => exact ⟨_, rfl, q⟩
  | br ρ => exact q.elim
  | ct ρ => exact q.elim
theorem cell_ok {ns : List Int} {sd : D} (hsd : Scl sd ns) (k : Int) (hk : 0 ≤ k) : ∃ c, F_L_cell [sd, .int k] = some (.int c) := by
  suffices h : ∃ d, F_L_cell [sd, .int k] = some d ∧ ∃ c, d = .int c by
    obtain ⟨d, e, c, rfl⟩ := h
    exact ⟨c, e⟩
  refine callF_of rfl ?_
  unfold B_L_cell
  by_cases h : k < ns.length
  · have e : atI ns k = some (ns.getD k.toNat 0) := by
      rw [atI_of hk h, List.getD_eq_getElem?_getD, List.getElem?_eq_getElem (by omega)]; rfl
    simp [h, e, hsd.len, hsd.at_]
  · simp [h, hsd.len]
theorem draw_ok {ns : List Int} {sd : D} (hsd : Scl sd ns) (k : Int) (hk : 0 ≤ k) (sz : List Int) (hs : ∀ s ∈ sz, 0 < s ∧ s < 1073741824) (hl : sz.length < 16777216) : ∃ ds, Dr ds sz ∧ F_L_draw [sd, .int k, intL sz] = some (intL ds) := by
  obtain ⟨c, hc⟩ := cell_ok hsd k hk
  suffices h : ∃ d, F_L_draw [sd, .int k, intL sz] = some d ∧ ∃ ds, Dr ds sz ∧ d = intL ds by
    obtain ⟨d, e, ds, h, rfl⟩ := h
    exact ⟨ds, h, e⟩
  have main : ∀ c : Int, Ok ((sSeq (sSet 4 (dN D.mkLF (aN)))
 (sSeq (sIf (t2 D.geB (dV 3) (d2 D.pow (dC (.int 10)) (dC (.int 18))))
 (sSeq (sSet 3 (d2 D.sub (dV 3) (d2 D.pow (dC (.int 10)) (dC (.int 18)))))
 (sSeq (sFor [5] (dItems (dV 2)) (.nm 5)
 (sSeq (sApp 4 (dFlat (d2 D.mod (dV 3) (dV 5))))
 (sSet 3 (d2 D.fdiv (dV 3) (dV 5)))))
 (sRetO 4)))
 (sNil))
 (sSeq (sSet 6 (d2 D.mod (d2 D.add (d2 D.add (dV 3) (dC (.int 1))) (d2 D.mul (dC (.int 31)) (dV 1))) (dC (.int 2147483647))))
 (sSeq (sFor [7] (iRg1 (dN D.len (aC (dV 2) (aN)))) (.nm 7)
 (sSeq (sSet 6 (d2 D.mod (d2 D.add (d2 D.add (d2 D.mul (dV 6) (dC (.int 48271))) (dC (.int 11))) (dV 7)) (dC (.int 2147483647))))
 (sSeq (sSet 6 (d2 D.mod (d2 D.add (d2 D.mul (dV 6) (dC (.int 69621))) (dC (.int 3))) (dC (.int 2147483647))))
 (sApp 4 (dFlat (d2 D.mod (d2 D.fdiv (dV 6) (dC (.int 7))) (d2 D.idx (dV 2) (dV 7))))))))
 (sRetO 4))))) [some (sd), some (.int k), some (intL sz), some (.int c), none, none, none, none]) fun o => match o with | .rt d _ => ∃ ds, Dr ds sz ∧ d = intL ds | .nx _ => False | _ => False := by
    intro c
    have hp : D.pow (.int 10) (.int 18) = some (.int 1000000000000000000) := by rfl
    by_cases hb : 1000000000000000000 ≤ c
    · simp [hp, hb]
      refine seq_for D.int sz (fun done ρ => ∃ c ds o, Dr ds done ∧ ρ = [some (sd), some (.int k), some (intL sz), some (.int c), some (intL ds), o, none, none]) (by simp) ⟨_, [], _, trivial, rfl⟩ ?_ ?_
      · rintro done a rest ρ e ⟨c, ds, o, h, rfl⟩
        have ha := hs a (by rw [e]; simp)
        have hr := fmod_range (a := c) ha.1
        have hdl := h.len
        have := congrArg List.length e
        simp at this
        simp [mod_int (i := c) (j := a) (by omega), fdiv_int (i := c) (j := a) (by omega)]
        exact ⟨by omega, _, ds ++ [c.fmod a], h.app hr.1 hr.2, rfl, by simp⟩
      · rintro ρ ⟨c, ds, o, h, rfl⟩
        simp
        exact ⟨ds, h, rfl⟩
    · simp [hp, hb, mul_int (i := 31) (j := k) (by omega), mod_int (j := 2147483647) (by omega)]
      refine seq_rg sz.length (fun m ρ => ∃ s ds o, Dr ds (sz.take m) ∧ ρ = [some (sd), some (.int k), some (intL sz), some (.int c), some (intL ds), none, some (.int s), o]) (by simp; omega) ⟨_, [], _, trivial, rfl⟩ ?_ ?_
      · rintro m ρ hm ⟨s, ds, o, h, rfl⟩
        have hz : sz.getD m 0 ∈ sz := by rw [List.getD_eq_getElem?_getD, List.getElem?_eq_getElem hm]; exact List.getElem_mem _
        have ha := hs _ hz
        have hdl := h.len
        rw [List.length_take] at hdl
        have hr := fun c => fmod_range (a := c) ha.1
        have hx := ints_at (ds := sz) (i := (m : Int)) (by omega) (by omega)
        simp only [Int.toNat_natCast] at hx
        have hm' : ∀ c, D.mod (.int c) (.int (sz.getD m 0)) = some (.int (c.fmod (sz.getD m 0))) := fun c => mod_int (by omega)
        have hu : ∀ c, D.mul (.int c) (.int 48271) = some (.int (c * 48271)) := fun c => mul_int (by omega)
        have hu' : ∀ c, D.mul (.int c) (.int 69621) = some (.int (c * 69621)) := fun c => mul_int (by omega)
        have h7 : ∀ c, D.fdiv (.int c) (.int 7) = some (.int (c.fdiv 7)) := fun c => fdiv_int (by decide)
        have hM : ∀ c, D.mod (.int c) (.int 2147483647) = some (.int (c.fmod 2147483647)) := fun c => mod_int (by decide)
        simp [hu, hu', h7, hM, hx, hm', -List.getD_eq_getElem?_getD]
        refine ⟨by omega, _, ds ++ [_], ?_, (by simp; rfl), rfl⟩
        rw [← List.take_append_getElem hm]
        have e : sz[m] = sz.getD m 0 := by rw [List.getD_eq_getElem?_getD, List.getElem?_eq_getElem hm]; rfl
        rw [e]
        exact h.app (hr _).1 (hr _).2
      · rintro ρ ⟨c, ds, o, h, rfl⟩
        rw [List.take_length] at h
        simp
        exact ⟨ds, h, rfl⟩
  refine callF_of rfl ?_
  unfold B_L_draw
  refine seq_ok.mpr ⟨.nx [some (sd), some (.int k), some (intL sz), some (.int c), none, none, none, none], by simp [sSet, hc], ?_⟩
  by_cases hlt : c < 0
  · refine seq_ok.mpr ⟨.nx [some (sd), some (.int k), some (intL sz), some (.int (-c)), none, none, none, none], by simp [sIf, sSet, hlt], (main (-c)).imp ?_⟩
    intro o h
    cases o <;> first | exact h | exact h.elim
  · refine seq_ok.mpr ⟨.nx [some (sd), some (.int k), some (intL sz), some (.int c), none, none, none, none], by simp [sIf, sSet, hlt, sNil], (main c).imp ?_⟩
    intro o h
    cases o <;> first | exact h | exact h.elim
end DL

/-! The second way in which models are drawn. -/
namespace DL
open PySem PySem.Spec PyProof.Rows L2
def gi (ds : List Int) (i : Int) : Int := ds.getD i.toNat 0
theorem Dr.at {ds ss : List Int} (h : Dr ds ss) {i : Int} (h0 : 0 ≤ i) (hi : i < ss.length) : atI (ds.map D.int) i = some (.int (gi ds i)) ∧ 0 ≤ gi ds i ∧ gi ds i < gi ss i := by
  have hl := h.len
  have hg := h.get i.toNat (by omega)
  exact ⟨ints_at h0 (by omega), hg.1, hg.2⟩
def sN2 : List Str := ["a", "b1", "c", "d"]
def kN2 : List Str := ["x", "y", "z9"]
def StT.wf2 (x : StT) : Prop := 1 ≤ x.2.1 ∧ x.2.1 ≤ 2 ∧ (x.2.2.1 = none ∨ ∃ r, x.2.2.1 = some r ∧ x.2.1 ≤ r ∧ r ≤ 5) ∧ (x.2.2.2 = "first" ∨ x.2.2.2 = "last" ∨ x.2.2.2 = "priority")
def StepT.wf2 (N : List Str) (s : Str × Int) : Prop := s.1 ∈ N ∧ 1 ≤ s.2 ∧ s.2 ≤ 6
def KiT.wf2 (N : List Str) (x : KiT) : Prop := 0 ≤ x.2.1 ∧ x.2.1 < 3 ∧ 1 ≤ x.2.2.length ∧ x.2.2.length ≤ 3 ∧ Al (StepT.wf2 N) x.2.2
def PaT.wf2 (N : List Str) (x : PaT) : Prop := x.1 ∈ N ∧ 0 ≤ x.2.1 ∧ x.2.1 < x.2.2 ∧ x.2.2 ≤ 20
def PaT.wf3 (N : List Str) (x : PaT) : Prop := x.1 ∈ N ∧ 0 ≤ x.2.1 ∧ x.2.1 < x.2.2 ∧ x.2.2 ≤ 100
theorem PaT.wf2.w3 {N : List Str} {x : PaT} (h : PaT.wf2 N x) : PaT.wf3 N x := ⟨h.1, h.2.1, h.2.2.1, by have := h.2.2.2; omega⟩
def JoT.wf2 (N : List Str) (x : JoT) : Prop := 0 ≤ x.1 ∧ x.1 ≤ 24 ∧ x.2 ∈ N
structure Mo.wf2 (m : Mo) : Prop where
  st : ∃ n, 1 ≤ n ∧ n ≤ 4 ∧ m.st.map (·.1) = sN2.take n
  st' : Al StT.wf2 m.st
  ki : ∃ n, 1 ≤ n ∧ n ≤ 3 ∧ m.ki.map (·.1) = kN2.take n
  ki' : Al (KiT.wf2 (m.st.map (·.1))) m.ki
  pa : m.pa.length ≤ 3
  pa' : Al (PaT.wf2 (m.st.map (·.1))) m.pa
  jo : m.jo.length ≤ 8
  jo' : Al (JoT.wf2 (m.ki.map (·.1))) m.jo
  js : (m.jo.map (·.1)).Pairwise (· ≤ ·)
theorem strs_at {xs : List Str} {i : Int} (h0 : 0 ≤ i) (h : i < xs.length) : ∃ s ∈ xs, atI (xs.map D.str) i = some (.str s) := by
  refine ⟨xs[i.toNat]'(by omega), List.getElem_mem _, ?_⟩
  rw [atI_of h0 (by simpa using h), List.getElem?_map, List.getElem?_eq_getElem (by omega)]
  rfl
theorem map_at {α : Type} {enc : α → D} {xs : List α} {i : Int} (h0 : 0 ≤ i) (h : i < xs.length) : ∃ s ∈ xs, atI (xs.map enc) i = some (enc s) := by
  refine ⟨xs[i.toNat]'(by omega), List.getElem_mem _, ?_⟩
  rw [atI_of h0 (by simpa using h), List.getElem?_map, List.getElem?_eq_getElem (by omega)]
  rfl
theorem room_at2 (s r : Int) (h0 : 0 ≤ r) (h1 : r < 4) : ∃ o, atI [D.non, D.int s, D.int (s + 1), D.int (s + 3)] r = some (eO o) ∧ (o = none ∨ ∃ q, o = some q ∧ s ≤ q ∧ q ≤ s + 3) := by
  have : r = 0 ∨ r = 1 ∨ r = 2 ∨ r = 3 := by omega
  rcases this with rfl | rfl | rfl | rfl
  · exact ⟨none, rfl, .inl rfl⟩
  · exact ⟨some s, rfl, .inr ⟨s, rfl, by omega, by omega⟩⟩
  · exact ⟨some (s + 1), rfl, .inr ⟨_, rfl, by omega, by omega⟩⟩
  · exact ⟨some (s + 3), rfl, .inr ⟨_, rfl, by omega, by omega⟩⟩
theorem disc_at (r : Int) (h0 : 0 ≤ r) (h1 : r < 3) : ∃ o : Str, atI [D.str "first", D.str "last", D.str "priority"] r = some (.str o) ∧ (o = "first" ∨ o = "last" ∨ o = "priority") := by
  have : r = 0 ∨ r = 1 ∨ r = 2 := by omega
  rcases this with rfl | rfl | rfl
  · exact ⟨_, rfl, .inl rfl⟩
  · exact ⟨_, rfl, .inr (.inl rfl)⟩
  · exact ⟨_, rfl, .inr (.inr rfl)⟩
theorem sn2_at (j : Nat) (h : j < 4) : ∃ s : Str, atI [D.str "a", D.str "b1", D.str "c", D.str "d"] (j : Int) = some (.str s) ∧ sN2.take j ++ [s] = sN2.take (j + 1) := by
  have : j = 0 ∨ j = 1 ∨ j = 2 ∨ j = 3 := by omega
  rcases this with rfl | rfl | rfl | rfl
  · exact ⟨_, rfl, rfl⟩
  · exact ⟨_, rfl, rfl⟩
  · exact ⟨_, rfl, rfl⟩
  · exact ⟨_, rfl, rfl⟩
theorem kn2_at (j : Nat) (h : j < 3) : ∃ s : Str, atI [D.str "x", D.str "y", D.str "z9"] (j : Int) = some (.str s) ∧ kN2.take j ++ [s] = kN2.take (j + 1) := by
  have : j = 0 ∨ j = 1 ∨ j = 2 := by omega
  rcases this with rfl | rfl | rfl
  · exact ⟨_, rfl, rfl⟩
  · exact ⟨_, rfl, rfl⟩
  · exact ⟨_, rfl, rfl⟩
/-- a name of the first n -/
theorem sn2_of (n : Nat) (hn : n ≤ 4) (r : Int) (h0 : 0 ≤ r) (h1 : r < n) : ∃ s : Str, atI [D.str "a", D.str "b1", D.str "c", D.str "d"] r = some (.str s) ∧ s ∈ sN2.take n := by
  obtain ⟨j, rfl⟩ := Int.eq_ofNat_of_zero_le h0
  obtain ⟨s, e, h⟩ := sn2_at j (by omega)
  refine ⟨s, e, ?_⟩
  have hm : s ∈ sN2.take (j + 1) := by rw [← h]; simp
  exact List.take_subset_take_left sN2 (by omega) hm
theorem cutL_at {α : Type} {xs : List α} {a b : Nat} (h : a ≤ b) (hb : b ≤ xs.length) : cutL xs (some (a : Int)) (some (b : Int)) = (xs.drop a).take (b - a) := by
  have e : ∀ c : Nat, c ≤ xs.length → ∀ d, HT.sIx xs.length d (some (c : Int)) = c := fun c hc d => by
    unfold HT.sIx
    simp only
    first
      | (rw [if_neg (by omega)]; omega)
      | (split <;> omega)
  unfold cutL
  rw [e a (by omega), e b hb]
theorem stations2_ok {ns : List Int} {sd : D} (hsd : Scl sd ns) (k : Int) (hk : 0 ≤ k) : ∃ st : List StT, Al StT.wf2 st ∧ (∃ n, 1 ≤ n ∧ n ≤ 4 ∧ st.map (·.1) = sN2.take n) ∧ F_L_stations [sd, .int k] = some (.lst (st.map eSt)) := by
  suffices h : ∃ d, F_L_stations [sd, .int k] = some d ∧ ∃ st : List StT, Al StT.wf2 st ∧ (∃ n, 1 ≤ n ∧ n ≤ 4 ∧ st.map (·.1) = sN2.take n) ∧ d = .lst (st.map eSt) by
    obtain ⟨d, e, st, h1, h2, rfl⟩ := h
    exact ⟨st, h1, h2, e⟩
  refine callF_of rfl ?_
  obtain ⟨dg, hd, ed⟩ := draw_ok hsd k hk [4, 2, 4, 3, 2, 4, 3, 2, 4, 3, 2, 4, 3] (by decide) (by decide)
  have b0 := hd.at (i := 0) (by decide) (by simp)
  have a0 : gi dg 0 < 4 := b0.2.2
  simp only [intL, List.map_cons, List.map_nil] at ed
  unfold B_L_stations
  simp [mkL_of, ed]
  refine seq_rg (1 + (gi dg 0).toNat) (fun m ρ => ∃ (st : List StT) (o4 o5 o6 : Option D), st.map (·.1) = sN2.take m ∧ Al StT.wf2 st ∧ ρ = [some sd, some (.int k), some (.lst (dg.map .int)), some (.lst (st.map eSt)), o4, o5, o6]) (by simp [b0]; exact ⟨by omega, by congr 1; omega⟩) ⟨[], none, none, none, rfl, Al.nil, rfl⟩ ?_ ?_
  · rintro j ρ hj ⟨st, o4, o5, o6, e1, e2, rfl⟩
    have hj4 : j < 4 := by omega
    have g1 : gi [4, 2, 4, 3, 2, 4, 3, 2, 4, 3, 2, 4, 3] (1 + 3 * (j : Int)) = 2 := by
      have : j = 0 ∨ j = 1 ∨ j = 2 ∨ j = 3 := by omega
      rcases this with rfl | rfl | rfl | rfl <;> rfl
    have g2 : gi [4, 2, 4, 3, 2, 4, 3, 2, 4, 3, 2, 4, 3] (2 + 3 * (j : Int)) = 4 := by
      have : j = 0 ∨ j = 1 ∨ j = 2 ∨ j = 3 := by omega
      rcases this with rfl | rfl | rfl | rfl <;> rfl
    have g3 : gi [4, 2, 4, 3, 2, 4, 3, 2, 4, 3, 2, 4, 3] (3 + 3 * (j : Int)) = 3 := by
      have : j = 0 ∨ j = 1 ∨ j = 2 ∨ j = 3 := by omega
      rcases this with rfl | rfl | rfl | rfl <;> rfl
    have d1 := hd.at (i := 1 + 3 * (j : Int)) (by omega) (by simp; omega)
    have d2 := hd.at (i := 2 + 3 * (j : Int)) (by omega) (by simp; omega)
    have d3 := hd.at (i := 3 + 3 * (j : Int)) (by omega) (by simp; omega)
    rw [g1] at d1
    rw [g2] at d2
    rw [g3] at d3
    obtain ⟨ro, er, hro⟩ := room_at2 (1 + gi dg (1 + 3 * (j : Int))) _ d2.2.1 d2.2.2
    obtain ⟨di, edi, hdi⟩ := disc_at _ d3.2.1 d3.2.2
    obtain ⟨sn, esn, hsn⟩ := sn2_at j hj4
    have hm3 : D.mul (.int 3) (.int (j : Int)) = some (.int (3 * (j : Int))) := mul_int (by omega)
    have hsl : st.length < 16777216 := by
      have := congrArg List.length e1
      simp at this
      omega
    simp [hm3, d1.1, d2.1, d3.1, mkL_of, er, edi, esn, mkT_of, hsl]
    refine ⟨st ++ [(sn, 1 + gi dg (1 + 3 * (j : Int)), ro, di)], ?_, ?_, ?_⟩
    · rw [List.map_append, e1]
      exact hsn
    · refine e2.snoc ⟨(by first | omega | (simp <;> omega)), (by first | omega | (simp <;> omega)), ?_, hdi⟩
      rcases hro with z | ⟨r, z, h1, h2⟩
      · exact .inl z
      · exact .inr ⟨r, z, h1, by show r ≤ 5; omega⟩
    · simp [eSt]
  · rintro ρ ⟨st, o4, o5, o6, e1, e2, rfl⟩
    simp
    exact ⟨st, e2, ⟨1 + (gi dg 0).toNat, by omega, by omega, e1⟩, rfl⟩
theorem rep_nine : D.repF (.lst [.int 4, .int 6]) (.int 9) = some (intL [4, 6, 4, 6, 4, 6, 4, 6, 4, 6, 4, 6, 4, 6, 4, 6, 4, 6]) := by rfl
theorem gi_k0 : ∀ c : Nat, c < 9 → gi [4, 6, 4, 6, 4, 6, 4, 6, 4, 6, 4, 6, 4, 6, 4, 6, 4, 6] ((2 * c : Nat) : Int) = 4 := by decide
theorem gi_k1 : ∀ c : Nat, c < 9 → gi [4, 6, 4, 6, 4, 6, 4, 6, 4, 6, 4, 6, 4, 6, 4, 6, 4, 6] ((2 * c + 1 : Nat) : Int) = 6 := by decide
theorem kinds2_ok {ns : List Int} {sd : D} (hsd : Scl sd ns) (k : Int) (hk : 0 ≤ k) (n : Nat) (hn : 1 ≤ n ∧ n ≤ 4) : ∃ ki : List KiT, Al (KiT.wf2 (sN2.take n)) ki ∧ (∃ c, 1 ≤ c ∧ c ≤ 3 ∧ ki.map (·.1) = kN2.take c) ∧ F_L_kinds [sd, .int k, .int (n : Int)] = some (.lst (ki.map eKi)) := by
  suffices h : ∃ d, F_L_kinds [sd, .int k, .int (n : Int)] = some d ∧ ∃ ki : List KiT, Al (KiT.wf2 (sN2.take n)) ki ∧ (∃ c, 1 ≤ c ∧ c ≤ 3 ∧ ki.map (·.1) = kN2.take c) ∧ d = .lst (ki.map eKi) by
    obtain ⟨d, e, ki, h1, h2, rfl⟩ := h
    exact ⟨ki, h1, h2, e⟩
  refine callF_of rfl ?_
  obtain ⟨hd, hh, eh⟩ := draw_ok hsd k hk [3, 3, 3, 3, 3, 3, 3] (by decide) (by decide)
  obtain ⟨dg, hg, eg⟩ := draw_ok hsd (k + 1) (by omega) [4, 6, 4, 6, 4, 6, 4, 6, 4, 6, 4, 6, 4, 6, 4, 6, 4, 6] (by decide) (by decide)
  have b0 := hh.at (i := 0) (by decide) (by simp)
  have a0 : gi hd 0 < 3 := b0.2.2
  have hgl : dg.length = 18 := hg.len
  have r9 := rep_nine
  simp only [intL, List.map_cons, List.map_nil] at eh eg r9
  unfold B_L_kinds
  simp [mkL_of, eh, r9, eg]
  refine seq_rg (1 + (gi hd 0).toNat) (fun m ρ => ∃ (ki : List KiT) (o6 o7 o8 o9 : Option D), ki.map (·.1) = kN2.take m ∧ Al (KiT.wf2 (sN2.take n)) ki ∧ ρ = [some sd, some (.int k), some (.int (n : Int)), some (.lst (ki.map eKi)), some (.lst (hd.map .int)), some (.lst (dg.map .int)), o6, o7, o8, o9]) (by simp [b0]; exact ⟨by omega, by congr 1; omega⟩) ⟨[], none, none, none, none, rfl, Al.nil, rfl⟩ ?_ ?_
  · rintro j ρ hj ⟨ki, o6, o7, o8, o9, e1, e2, rfl⟩
    have hj3 : j < 3 := by omega
    have b1 := hh.at (i := 1 + (j : Int)) (by omega) (by simp; omega)
    have b4 := hh.at (i := 4 + (j : Int)) (by omega) (by simp; omega)
    have g1 : gi [3, 3, 3, 3, 3, 3, 3] (1 + (j : Int)) = 3 := by
      have : j = 0 ∨ j = 1 ∨ j = 2 := by omega
      rcases this with rfl | rfl | rfl <;> rfl
    have g4 : gi [3, 3, 3, 3, 3, 3, 3] (4 + (j : Int)) = 3 := by
      have : j = 0 ∨ j = 1 ∨ j = 2 := by omega
      rcases this with rfl | rfl | rfl <;> rfl
    rw [g1] at b1
    rw [g4] at b4
    have hm6 : D.mul (.int 6) (.int (j : Int)) = some (.int (6 * (j : Int))) := mul_int (by omega)
    simp [mkL_of]
    refine seq_rg (1 + (gi hd (1 + (j : Int))).toNat) (fun m ρ => ∃ (rt : List (Str × Int)) (o8 o9 : Option D), rt.length = m ∧ Al (StepT.wf2 (sN2.take n)) rt ∧ ρ = [some sd, some (.int k), some (.int (n : Int)), some (.lst (ki.map eKi)), some (.lst (hd.map .int)), some (.lst (dg.map .int)), some (.int (j : Int)), some (.lst (rt.map eStep)), o8, o9]) (by simp [b1]; exact ⟨by omega, by congr 1; omega⟩) ⟨[], none, none, rfl, Al.nil, rfl⟩ ?_ ?_
    · rintro i ρ hi ⟨rt, o8, o9, f1, f2, rfl⟩
      have hi3 : i < 3 := by omega
      have hm2 : D.mul (.int 2) (.int (i : Int)) = some (.int (2 * (i : Int))) := mul_int (by omega)
      have c0 := hg.at (i := ((2 * (3 * j + i) : Nat) : Int)) (by omega) (by simp; omega)
      have c1 := hg.at (i := ((2 * (3 * j + i) + 1 : Nat) : Int)) (by omega) (by simp; omega)
      rw [gi_k0 _ (by omega)] at c0
      rw [gi_k1 _ (by omega)] at c1
      have hnp : (0 : Int) < (n : Int) := by omega
      have hfm := fmod_range (a := gi dg ((2 * (3 * j + i) : Nat) : Int)) hnp
      have hmd : D.mod (.int (gi dg ((2 * (3 * j + i) : Nat) : Int))) (.int (n : Int)) = some (.int ((gi dg ((2 * (3 * j + i) : Nat) : Int)).fmod (n : Int))) := mod_int (by omega)
      obtain ⟨sn, esn, hsn⟩ := sn2_of n hn.2 _ hfm.1 hfm.2
      have hcut : cutL (dg.map D.int) (some (6 * (j : Int) + 2 * (i : Int))) (some (6 * (j : Int) + 2 * (i : Int) + 2)) = [.int (gi dg ((2 * (3 * j + i) : Nat) : Int)), .int (gi dg ((2 * (3 * j + i) + 1 : Nat) : Int))] := by
        have e0 : 6 * (j : Int) + 2 * (i : Int) = ((2 * (3 * j + i) : Nat) : Int) := by omega
        have e2 : 6 * (j : Int) + 2 * (i : Int) + 2 = ((2 * (3 * j + i) + 2 : Nat) : Int) := by omega
        rw [e2, e0, cutL_at (by omega) (by rw [List.length_map]; omega)]
        have h1 : 2 * (3 * j + i) < (dg.map D.int).length := by rw [List.length_map]; omega
        have h2 : 2 * (3 * j + i) + 1 < (dg.map D.int).length := by rw [List.length_map]; omega
        rw [List.drop_eq_getElem_cons h1, List.drop_eq_getElem_cons h2]
        have s1 : 2 * (3 * j + i) + 2 - 2 * (3 * j + i) = 2 := by omega
        rw [s1]
        simp only [List.take_succ_cons, List.take_zero, List.getElem_map]
        unfold gi
        simp only [Int.toNat_natCast]
        rw [List.getD_eq_getElem?_getD, List.getD_eq_getElem?_getD, List.getElem?_eq_getElem (by omega), List.getElem?_eq_getElem (by omega)]
        rfl
      have hrl : rt.length < 16777216 := by omega
      generalize gi dg ((2 * (3 * j + i) : Nat) : Int) = x0 at *
      generalize gi dg ((2 * (3 * j + i) + 1 : Nat) : Int) = x1 at *
      simp [hm6, hm2, dCut, oSo, D.cut, hcut, mkL_of, hmd, esn, mkT_of, hrl]
      refine ⟨rt ++ [(sn, 1 + x1)], by simp [f1], f2.snoc ⟨hsn, (by first | omega | (simp <;> omega)), (by first | omega | (simp <;> omega))⟩, by simp [eStep]⟩
    · rintro ρ ⟨rt, o8, o9, f1, f2, rfl⟩
      obtain ⟨kn, ekn, hkn⟩ := kn2_at j hj3
      have hkl : ki.length < 16777216 := by
        have := congrArg List.length e1
        simp at this
        omega
      simp [mkL_of, mkT_of, ekn, b4, hkl, pures_map eStep_pure]
      refine ⟨ki ++ [(kn, gi hd (4 + (j : Int)), rt)], ?_, ?_, by simp [eKi]⟩
      · rw [List.map_append, e1]
        exact hkn
      · exact e2.snoc ⟨b4.2.1, b4.2.2, (by first | omega | (simp <;> omega)), (by first | omega | (simp <;> omega)), f2⟩
  · rintro ρ ⟨ki, o6, o7, o8, o9, e1, e2, rfl⟩
    simp
    exact ⟨ki, e2, ⟨1 + (gi hd 0).toNat, by omega, by omega, e1⟩, rfl⟩
end DL

namespace DL
open PySem PySem.Spec PyProof.Rows L2
def nk2 (s : Str) : Int := if s = "a" then 0 else if s = "b1" then 1 else if s = "c" then 2 else 3
theorem nk2_lt : ∀ x ∈ sN2, ∀ y ∈ sN2, decide (x.cps.toList < y.cps.toList) = decide (nk2 x < nk2 y) := by decide +kernel
theorem nk2_inj : ∀ x ∈ sN2, ∀ y ∈ sN2, (x == y) = decide (nk2 x = nk2 y) := by decide +kernel
theorem ok_names2 : ∀ x ∈ sN2 ++ kN2 ++ (["first", "last", "priority"] : List Str), PyData.strOk x = true := by decide +kernel
theorem sn2_nodup : sN2.Nodup := by decide +kernel
theorem kn2_nodup : kN2.Nodup := by decide +kernel
theorem sn2_mem {s : Str} {n : Nat} (h : s ∈ sN2.take n) : s ∈ sN2 := List.mem_of_mem_take h
def paKey2 (x : PaT) : Int := nk2 x.1 * 1000000 + x.2.1 * 1000 + x.2.2
theorem pa_lt2 {x y : PaT} {n : Nat} (hx : PaT.wf3 (sN2.take n) x) (hy : PaT.wf3 (sN2.take n) y) : D.ltI (ePa x) (ePa y) = some (decide (paKey2 x < paKey2 y)) := by
  have hxm := sn2_mem hx.1
  have hym := sn2_mem hy.1
  have h1 := nk2_lt _ hxm _ hym
  have h2 := nk2_inj _ hxm _ hym
  have b1 := hx.2
  have b2 := hy.2
  obtain ⟨x1, x2, x3⟩ := x
  obtain ⟨y1, y2, y3⟩ := y
  simp only at h1 h2 b1 b2
  unfold ePa
  simp only [D.ltI, D.ltT, D.py, PyData.eqv, D.lt1]
  by_cases e1 : nk2 x1 = nk2 y1
  · have q : (x1 == y1) = true := by rw [h2, decide_eq_true e1]
    rw [if_pos q]
    by_cases e2 : x2 = y2
    · rw [if_pos (by simp [e2])]
      by_cases e3 : x3 = y3
      · rw [if_pos (by simp [e3])]
        rw [decide_eq_false (show ¬ paKey2 (x1, x2, x3) < paKey2 (y1, y2, y3) by unfold paKey2; simp only; omega)]
      · rw [if_neg (by simp [e3])]
        refine congrArg some (Bool.eq_iff_iff.mpr ?_)
        simp only [decide_eq_true_eq]
        simp only [paKey2, e1]
        omega
    · rw [if_neg (by simp [e2])]
      refine congrArg some (Bool.eq_iff_iff.mpr ?_)
      simp only [decide_eq_true_eq]
      simp only [paKey2, e1]
      omega
  · have q : ¬ (x1 == y1) = true := by rw [h2]; simp [e1]
    rw [if_neg q, h1]
    refine congrArg some (Bool.eq_iff_iff.mpr ?_)
    simp only [decide_eq_true_eq]
    simp only [paKey2]
    omega
def Mo.srt2 (m : Mo) : Mo := { m with pa := isort (fun x y => decide (paKey2 x < paKey2 y)) m.pa }
theorem ePa_sh2 {x : PaT} {n : Nat} (hx : PaT.wf3 (sN2.take n) x) : (ePa x).shaped = true := by
  have := ok_names2 x.1 (List.mem_append_left _ (List.mem_append_left _ (sn2_mem hx.1)))
  refine shaped_of ?_ ?_
  · simp [ePa, D.py, D.pys, PyData.canLay0, PyData.canLayAll0, this]
  · simp [ePa, D.py, D.pys, PyData.depth, PyData.depthAll]
theorem sort_pa2 {l : List PaT} {n : Nat} (h : Al (PaT.wf3 (sN2.take n)) l) : D.sorted [.lst (l.map ePa)] = some (.lst ((isort (fun x y => decide (paKey2 x < paKey2 y)) l).map ePa)) :=
  sorted_swo ePa (fun x y => decide (paKey2 x < paKey2 y)) (swo_key paKey2) 3 l (fun x hx => ⟨rfl, ePa_sh2 (h x hx), rfl⟩) fun x hx y hy => pa_lt2 (h x hx) (h y hy)
theorem rep_eight : D.repF (.lst [.int 4, .int 3]) (.int 8) = some (intL [4, 3, 4, 3, 4, 3, 4, 3, 4, 3, 4, 3, 4, 3, 4, 3]) := by rfl
theorem add_nine : D.add (.lst [.int 9]) (.lst [.int 4, .int 3, .int 4, .int 3, .int 4, .int 3, .int 4, .int 3, .int 4, .int 3, .int 4, .int 3, .int 4, .int 3, .int 4, .int 3]) = some (.lst [.int 9, .int 4, .int 3, .int 4, .int 3, .int 4, .int 3, .int 4, .int 3, .int 4, .int 3, .int 4, .int 3, .int 4, .int 3, .int 4, .int 3]) := by rfl
theorem gi_m1 : ∀ j : Nat, j < 8 → gi [9, 4, 3, 4, 3, 4, 3, 4, 3, 4, 3, 4, 3, 4, 3, 4, 3] (1 + 2 * (j : Int)) = 4 := by decide
theorem gi_m2 : ∀ j : Nat, j < 8 → gi [9, 4, 3, 4, 3, 4, 3, 4, 3, 4, 3, 4, 3, 4, 3, 4, 3] (2 + 2 * (j : Int)) = 3 := by decide
theorem gi_p1 : ∀ j : Nat, j < 3 → gi [4, 4, 2, 3, 4, 2, 3, 4, 2, 3] (1 + 3 * (j : Int)) = 4 := by decide
theorem gi_p2 : ∀ j : Nat, j < 3 → gi [4, 4, 2, 3, 4, 2, 3, 4, 2, 3] (2 + 3 * (j : Int)) = 2 := by decide
theorem gi_p3 : ∀ j : Nat, j < 3 → gi [4, 4, 2, 3, 4, 2, 3, 4, 2, 3] (3 + 3 * (j : Int)) = 3 := by decide
theorem pw_snoc {l : List Int} {t : Int} (h : l.Pairwise (· ≤ ·)) (k : ∀ x ∈ l, x ≤ t) : (l ++ [t]).Pairwise (· ≤ ·) :=
  List.pairwise_append.mpr ⟨h, List.pairwise_singleton _ _, fun a ha b hb => by rw [List.mem_singleton.mp hb]; exact k a ha⟩
theorem model2_ok {ns : List Int} {sd : D} (hsd : Scl sd ns) (k : Int) (hk : 0 ≤ k) : ∃ m : Mo, m.wf2 ∧ F_L_model [sd, .int k] = some (eMo m.srt2) := by
  suffices h : ∃ d, F_L_model [sd, .int k] = some d ∧ ∃ m : Mo, m.wf2 ∧ d = eMo m.srt2 by
    obtain ⟨d, e, m, w, rfl⟩ := h
    exact ⟨m, w, e⟩
  refine callF_of rfl ?_
  obtain ⟨st, st2, ⟨n, n1, n2, st1⟩, est⟩ := stations2_ok hsd k hk
  obtain ⟨ki, ki2, ⟨c, c1, c2, ki1⟩, eki⟩ := kinds2_ok hsd (k + 1) (by omega) n ⟨n1, n2⟩
  have hsl : st.length = n := by
    have := congrArg List.length st1
    rw [List.length_map, List.length_take] at this
    have : sN2.length = 4 := rfl
    omega
  have hkl : ki.length = c := by
    have := congrArg List.length ki1
    rw [List.length_map, List.length_take] at this
    have : kN2.length = 3 := rfl
    omega
  obtain ⟨dg, hd, ed⟩ := draw_ok hsd (k + 3) (by omega) [4, 4, 2, 3, 4, 2, 3, 4, 2, 3] (by decide) (by decide)
  obtain ⟨mr, hr, er⟩ := draw_ok hsd (k + 4) (by omega) [9, 4, 3, 4, 3, 4, 3, 4, 3, 4, 3, 4, 3, 4, 3, 4, 3] (by decide) (by decide)
  have b0 := hd.at (i := 0) (by decide) (by simp)
  have p0 : gi dg 0 < 4 := b0.2.2
  have q0 := hr.at (i := 0) (by decide) (by simp)
  have q1 : gi mr 0 < 9 := q0.2.2
  have r8 := rep_eight
  simp only [intL, List.map_cons, List.map_nil] at ed er r8
  unfold B_L_model
  simp [est, eki, hsl, mkL_of, ed]
  -- the pauses
  refine seq_rg (gi dg 0).toNat (fun m ρ => ∃ (pa : List PaT) (o6 o7 : Option D), pa.length = m ∧ Al (PaT.wf2 (sN2.take n)) pa ∧ ρ = [some sd, some (.int k), some (.lst (st.map eSt)), some (.lst (ki.map eKi)), some (.lst (dg.map .int)), some (.lst (pa.map ePa)), o6, o7, none, none, none]) (by simp [b0]; omega) ⟨[], none, none, rfl, Al.nil, rfl⟩ ?_ ?_
  · rintro j ρ hj ⟨pa, o6, o7, e1, e2, rfl⟩
    have hj3 : j < 3 := by omega
    have d1 := hd.at (i := 1 + 3 * (j : Int)) (by omega) (by simp; omega)
    have d2 := hd.at (i := 2 + 3 * (j : Int)) (by omega) (by simp; omega)
    have d3 := hd.at (i := 3 + 3 * (j : Int)) (by omega) (by simp; omega)
    rw [gi_p1 j hj3] at d1
    rw [gi_p2 j hj3] at d2
    rw [gi_p3 j hj3] at d3
    have hm3 : D.mul (.int 3) (.int (j : Int)) = some (.int (3 * (j : Int))) := mul_int (by omega)
    have hm6 : D.mul (.int 6) (.int (j : Int)) = some (.int (6 * (j : Int))) := mul_int (by omega)
    have hnp : (0 : Int) < (st.length : Int) := by omega
    have hfm := fmod_range (a := gi dg (1 + 3 * (j : Int))) hnp
    have hmd : D.mod (.int (gi dg (1 + 3 * (j : Int)))) (.int (st.length : Int)) = some (.int ((gi dg (1 + 3 * (j : Int))).fmod (st.length : Int))) := mod_int (by omega)
    obtain ⟨x, hx, ex⟩ := map_at (enc := eSt) hfm.1 hfm.2
    have hxn : x.1 ∈ sN2.take n := by rw [← st1]; exact List.mem_map.mpr ⟨x, hx, rfl⟩
    have hpl : pa.length < 16777216 := by omega
    rw [hsl] at hmd ex
    generalize gi dg (1 + 3 * (j : Int)) = x1 at *
    generalize gi dg (2 + 3 * (j : Int)) = x2 at *
    generalize gi dg (3 + 3 * (j : Int)) = x3 at *
    simp [hm3, hm6, d1.1, d2.1, d3.1, hsl, hmd, ex, mkT_of, hpl]
    refine ⟨pa ++ [(x.1, 6 * (j : Int) + x2, 6 * (j : Int) + x2 + 1 + x3)], by simp [e1], e2.snoc ⟨hxn, (by first | omega | (simp <;> omega)), (by first | omega | (simp <;> omega)), (by first | omega | (simp <;> omega))⟩, by simp [ePa]⟩
  rintro ρ ⟨pa, o6, o7, pa1, pa2, rfl⟩
  simp [mkL_of, r8, add_nine, er]
  -- the jobs
  refine seq_rg (gi mr 0).toNat (fun m ρ => ∃ (jo : List JoT) (o6 : Option D) (t : Int), jo.length = m ∧ Al (JoT.wf2 (ki.map (·.1))) jo ∧ (jo.map (·.1)).Pairwise (· ≤ ·) ∧ (∀ x ∈ jo, x.1 ≤ t) ∧ 0 ≤ t ∧ t ≤ 3 * m ∧ ρ = [some sd, some (.int k), some (.lst (st.map eSt)), some (.lst (ki.map eKi)), some (.lst (dg.map .int)), some (.lst (pa.map ePa)), o6, none, some (.lst (mr.map .int)), some (.lst (jo.map eJo)), some (.int t)]) (by simp [q0]; omega) ⟨[], none, 0, rfl, Al.nil, List.Pairwise.nil, fun _ z => (nomatch z), by omega, by omega, rfl⟩ ?_ ?_
  · rintro j ρ hj ⟨jo, o6, t, e1, e2, e3, e4, e5, e6, rfl⟩
    have hj8 : j < 8 := by omega
    have d1 := hr.at (i := 1 + 2 * (j : Int)) (by omega) (by simp; omega)
    have d2 := hr.at (i := 2 + 2 * (j : Int)) (by omega) (by simp; omega)
    rw [gi_m1 j hj8] at d1
    rw [gi_m2 j hj8] at d2
    have hm2 : D.mul (.int 2) (.int (j : Int)) = some (.int (2 * (j : Int))) := mul_int (by omega)
    have hnp : (0 : Int) < (ki.length : Int) := by omega
    have hfm := fmod_range (a := gi mr (2 + 2 * (j : Int))) hnp
    have hmd : D.mod (.int (gi mr (2 + 2 * (j : Int)))) (.int (ki.length : Int)) = some (.int ((gi mr (2 + 2 * (j : Int))).fmod (ki.length : Int))) := mod_int (by omega)
    obtain ⟨x, hx, ex⟩ := map_at (enc := eKi) hfm.1 hfm.2
    have ex' : eKi x = .tup [.str x.1, .int x.2.1, .tup (x.2.2.map eStep)] := rfl
    have hjl : jo.length < 16777216 := by omega
    rw [hkl] at hmd ex
    generalize gi mr (1 + 2 * (j : Int)) = x1 at *
    generalize gi mr (2 + 2 * (j : Int)) = x2 at *
    simp [hm2, d1.1, d2.1, hkl, hmd, ex, ex', mkT_of, hjl]
    refine ⟨jo ++ [(t + x1, x.1)], by simp [e1], e2.snoc ⟨(by first | omega | (simp <;> omega)), (by first | omega | (simp <;> omega)), List.mem_map.mpr ⟨x, hx, rfl⟩⟩, ?_, _, t + x1, ?_, by omega, by omega, rfl, by simp [eJo], rfl⟩
    · rw [List.map_append]
      refine pw_snoc e3 fun y hy => ?_
      obtain ⟨z, hz, rfl⟩ := List.mem_map.mp hy
      have := e4 z hz
      show z.1 ≤ t + x1
      omega
    · suffices H : ∀ y ∈ jo ++ [(t + x1, x.1)], y.1 ≤ t + x1 from fun a b h => H (a, b) h
      intro y hy
      rcases List.mem_append.mp hy with z | z
      · have := e4 y z; omega
      · rw [List.mem_singleton.mp z]; exact Int.le_refl _
  rintro ρ ⟨jo, o6, t, jo1, jo2, jo3, jo4, jo5, jo6, rfl⟩
  simp [sort_pa2 (fun x hx => (pa2 x hx).w3), mkT_of]
  exact ⟨⟨st, ki, pa, jo⟩, ⟨⟨n, n1, n2, st1⟩, st2, ⟨c, c1, c2, ki1⟩, by rw [st1]; exact ki2, by show pa.length ≤ 3; omega, by rw [st1]; exact pa2, by show jo.length ≤ 8; omega, jo2, jo3⟩, rfl⟩
theorem isort_al2 {α : Type} {P : α → Prop} {lt : α → α → Bool} {l : List α} (h : Al P l) : Al P (isort lt l) := fun x hx => h x ((isort_perm lt l).mem_iff.mp hx)
theorem Mo.wf2.tx {m : Mo} (w : m.wf2) : m.srt2.tx := by
  obtain ⟨n, _, _, e⟩ := w.st
  obtain ⟨n', _, _, e'⟩ := w.ki
  have hs : ∀ s ∈ m.st.map (·.1), PyData.strOk s = true := fun s h => ok_names2 s (List.mem_append_left _ (List.mem_append_left _ (sn2_mem (n := n) (by rw [← e]; exact h))))
  have hk : ∀ s ∈ m.ki.map (·.1), PyData.strOk s = true := fun s h => ok_names2 s (List.mem_append_left _ (List.mem_append_right _ (List.mem_of_mem_take (i := n') (by rw [← e']; exact h))))
  refine ⟨fun x hx => ⟨hs _ (List.mem_map.mpr ⟨x, hx, rfl⟩), ok_names2 _ (List.mem_append_right _ ?_)⟩, fun x hx => ⟨hk _ (List.mem_map.mpr ⟨x, hx, rfl⟩), fun s z => hs _ ((w.ki' x hx).2.2.2.2 s z).1⟩, isort_al2 fun x hx => hs _ (w.pa' x hx).1, fun x hx => hk _ (w.jo' x hx).2.2⟩
  rcases (w.st' x hx).2.2.2 with z | z | z <;> rw [z] <;> decide +kernel
theorem Mo.wf2.mok {m : Mo} (w : m.wf2) : Mok m.srt2 := by
  obtain ⟨n, n1, n2, e⟩ := w.st
  obtain ⟨n', n1', n2', e'⟩ := w.ki
  have sl : m.st.length ≤ 4 := by
    have := congrArg List.length e
    rw [List.length_map, List.length_take] at this
    omega
  refine ⟨?_, fun k hk => ?_, fun j hj => ?_, ?_, ?_, ?_⟩
  · show (m.st.map (·.1)).Nodup
    rw [e]; exact sn2_nodup.sublist (List.take_sublist _ _)
  · obtain ⟨_, _, h3, h4, h5⟩ := w.ki' k hk
    exact ⟨fun z => by rw [z] at h3; simp at h3, by omega, fun s hs => (h5 s hs).1⟩
  · obtain ⟨_, _, h3⟩ := w.jo' j hj
    obtain ⟨k, hk, ek⟩ := List.mem_map.mp h3
    exact ⟨k, hk, ek⟩
  · show m.st.length ≤ 100; omega
  · show m.jo.length ≤ 60
    have := w.jo; omega
  · show (isort _ m.pa).length ≤ 60
    rw [isort_len]; have := w.pa; omega
end DL

/-! Cuts of models, common to the laws. -/
namespace DL
open PySem PySem.Spec PyProof.Rows L2
theorem cutL_to {α : Type} (xs : List α) (k : Nat) : cutL xs none (some (k : Int)) = xs.take k := by
  unfold cutL HT.sIx
  simp only [HT.sIx]
  rw [List.drop_zero]
  split
  · omega
  · by_cases h : (k : Int).toNat ≤ xs.length
    · rw [Nat.min_eq_left h]; simp
    · rw [Nat.min_eq_right (by omega), List.take_of_length_le (by omega), List.take_of_length_le (by omega)]
theorem cutL_from {α : Type} (xs : List α) (k : Nat) : cutL xs (some (k : Int)) none = xs.drop k := by
  unfold cutL HT.sIx
  simp only
  split
  · omega
  · by_cases h : (k : Int).toNat ≤ xs.length
    · rw [Nat.min_eq_left h, List.take_of_length_le (by rw [List.length_drop]; omega)]; rfl
    · rw [Nat.min_eq_right (by omega), List.drop_eq_nil_of_le (Nat.le_refl _), List.drop_eq_nil_of_le (by omega)]; simp
theorem cut_to {α : Type} {enc : α → D} (xs : List α) (k : Nat) : D.cut (.tup (xs.map enc)) none (some (k : Int)) = some (.tup ((xs.take k).map enc)) := by
  simp [D.cut, cutL_to, List.map_take]
theorem cut_from {α : Type} {enc : α → D} (xs : List α) (k : Nat) : D.cut (.tup (xs.map enc)) (some (k : Int)) none = some (.tup ((xs.drop k).map enc)) := by
  simp [D.cut, cutL_from, List.map_drop]
theorem cut_from1 {α : Type} {enc : α → D} (xs : List α) (k : Nat) : D.cut (.tup (xs.map enc)) (some ((k : Int) + 1)) none = some (.tup ((xs.drop (k + 1)).map enc)) := cut_from xs (k + 1)
theorem add_tup {x y : List D} (h : x.length + y.length ≤ 16777216) : D.add (.tup x) (.tup y) = some (.tup (x ++ y)) := if_pos h
/-- the same model without one job -/
def Mo.less (m : Mo) (a : Nat) : Mo := { m with jo := m.jo.take a ++ m.jo.drop (a + 1) }
theorem Mo.less_mem {m : Mo} {a : Nat} {j : JoT} (h : j ∈ (m.less a).jo) : j ∈ m.jo := by
  rcases List.mem_append.mp h with z | z
  · exact List.mem_of_mem_take z
  · exact List.mem_of_mem_drop z
theorem Mok.less {m : Mo} (h : Mok m) (a : Nat) : Mok (m.less a) := ⟨h.nd, h.rt, fun j hj => h.jk j (Mo.less_mem hj), h.nst, by
  have := h.njo
  simp [Mo.less]; omega, h.npa⟩
theorem Mo.tx.less {m : Mo} (t : m.tx) (a : Nat) : (m.less a).tx := ⟨t.st, t.ki, t.pa, fun j hj => t.jo j (Mo.less_mem hj)⟩
theorem less_jobs {m : Mo} {a : Nat} (hm : Mok m) : D.add (.tup ((m.jo.map eJo).take a)) (.tup ((m.jo.map eJo).drop (a + 1))) = some (.tup ((m.less a).jo.map eJo)) := by
  have := hm.njo
  rw [add_tup (by simp; omega), ← List.map_take, ← List.map_drop, ← List.map_append]
  rfl
theorem cutL_but {α : Type} (xs : List α) : cutL xs none (some (-1 : Int)) = xs.dropLast := by
  unfold cutL HT.sIx
  simp only
  rw [if_pos (by decide), List.drop_zero, List.dropLast_eq_take]
  congr 1
  omega
theorem atI_last {α : Type} {xs : List α} {x : α} (h : xs.getLast? = some x) : atI xs (-1) = some x := by
  have hn : xs ≠ [] := fun e => by rw [e] at h; cases h
  have hl : 0 < xs.length := List.length_pos_iff.mpr hn
  have e1 : ixN xs.length (-1) = some (xs.length - 1) := by
    unfold ixN
    rw [if_neg (by decide), if_pos (by omega)]
    congr 1
    omega
  unfold atI
  rw [e1, Option.bind_some, ← List.getLast?_eq_getElem?]
  exact h
theorem Mo.tx.sh2 {m : Mo} (t : m.tx) : (eMo m).shaped = true := by
  have a1 : PyData.canLayAll0 (D.pys (m.st.map eSt)) = true := lay_map fun x hx => by
    have := t.st x hx
    simp [eSt, D.py, D.pys, PyData.canLay0, PyData.canLayAll0, this.1, this.2, (eO_py _).1]
  have a2 : PyData.canLayAll0 (D.pys (m.ki.map eKi)) = true := lay_map fun x hx => by
    have := t.ki x hx
    have b : PyData.canLayAll0 (D.pys (x.2.2.map eStep)) = true := lay_map fun s hs => by
      have := this.2 s hs
      simp [eStep, D.py, D.pys, PyData.canLay0, PyData.canLayAll0, this]
    simp [eKi, D.py, D.pys, PyData.canLay0, PyData.canLayAll0, this.1, b]
  have a3 : PyData.canLayAll0 (D.pys (m.pa.map ePa)) = true := lay_map fun x hx => by
    have := t.pa x hx
    simp [ePa, D.py, D.pys, PyData.canLay0, PyData.canLayAll0, this]
  have a4 : PyData.canLayAll0 (D.pys (m.jo.map eJo)) = true := lay_map fun x hx => by
    have := t.jo x hx
    simp [eJo, D.py, D.pys, PyData.canLay0, PyData.canLayAll0, this]
  have d1 := depth_map (enc := eSt) (n := 10) (fun x => by
    have := (eO_py x.2.2.1).2.1
    simp [eSt, D.py, D.pys, PyData.depth, PyData.depthAll]
    omega) m.st
  have d2 := depth_map (enc := eKi) (n := 10) (fun x => by
    have := depth_map (enc := eStep) (n := 2) (fun s => by simp [eStep, D.py, D.pys, PyData.depth, PyData.depthAll]) x.2.2
    simp [eKi, D.py, D.pys, PyData.depth, PyData.depthAll]
    omega) m.ki
  have d3 := depth_map (enc := ePa) (n := 10) (fun x => by simp [ePa, D.py, D.pys, PyData.depth, PyData.depthAll]) m.pa
  have d4 := depth_map (enc := eJo) (n := 10) (fun x => by simp [eJo, D.py, D.pys, PyData.depth, PyData.depthAll]) m.jo
  refine shaped_of ?_ ?_
  · simp [eMo, D.py, D.pys, PyData.canLay0, PyData.canLayAll0, a1, a2, a3, a4]
  · simp [eMo, D.py, D.pys, PyData.depth, PyData.depthAll]
    omega
end DL

/-! What the events tell of one job. -/
namespace DL
open PySem PySem.Spec PyProof.Rows L2
abbrev HE := Int × Wd × Str
def cwk (j : Nat) (e : EvT) : Bool := decide (e.2.2.1 = j) && !decide (e.2.1 = .block)
def cwe (e : EvT) : HE := (e.1, e.2.1, e.2.2.2)
def cw (E : List EvT) (j : Nat) : List HE := (E.filter (cwk j)).map cwe
theorem cw_app (E E' : List EvT) (j : Nat) : cw (E ++ E') j = cw E j ++ cw E' j := by unfold cw; rw [List.filter_append, List.map_append]
theorem cw_own {T : Int} {w : Wd} {j : Nat} {n : Str} (h : w ≠ .block) : cw [(T, w, j, n)] j = [(T, w, n)] := by
  unfold cw
  rw [List.filter_cons_of_pos (by simp [cwk, h])]
  rfl
theorem cw_other {T : Int} {w : Wd} {i j : Nat} {n : Str} (h : i ≠ j) : cw [(T, w, j, n)] i = [] := by
  unfold cw
  rw [List.filter_cons_of_neg (by simp [cwk]; intro z; exact absurd z.symm h)]
  rfl
theorem cw_block {T : Int} {i j : Nat} {n : Str} : cw [(T, .block, j, n)] i = [] := by
  unfold cw
  rw [List.filter_cons_of_neg (by simp [cwk])]
  rfl
structure Row where
  name : Str
  came : Int
  began : Option Int
  ended : Option Int
  went : Option Int
def oEv (o : Option Int) (w : Wd) (n : Str) : List HE := match o with
  | none => []
  | some t => [(t, w, n)]
def rowEv (w0 : Wd) (r : Row) : List HE := (r.came, w0, r.name) :: (oEv r.began .begin r.name ++ oEv r.ended .fin r.name)
def pref : Wd → List Row → List HE
  | _, [] => []
  | w0, r :: rs => rowEv w0 r ++ pref .move rs
def wl (R : List Row) : Wd := if R.isEmpty then .come else .move
theorem pref_snoc' : ∀ (R : List Row) (w0 : Wd) (r : Row), pref w0 (R ++ [r]) = pref w0 R ++ rowEv (if R.isEmpty then w0 else .move) r
  | [], w0, r => by simp [pref]
  | x :: R, w0, r => by
    rw [List.cons_append, pref, pref_snoc' R .move r, pref, List.append_assoc]
    simp
theorem pref_snoc (R : List Row) (r : Row) : pref .come (R ++ [r]) = pref .come R ++ rowEv (wl R) r := pref_snoc' R .come r
def nm (m : Mo) (j i : Nat) : Str := ((m.route j).getD i ("", 0)).1
def ln (m : Mo) (j i : Nat) : Int := ((m.route j).getD i ("", 0)).2
/-- a stay that is over -/
def RowDone (m : Mo) (j i : Nat) (r : Row) (w : Int) : Prop := r.name = nm m j i ∧ r.went = some w ∧ ∃ b, r.began = some b ∧ r.ended = some (b + ln m j i) ∧ r.came ≤ b ∧ b + ln m j i ≤ w ∧ pzM r.name b m.pa = false
/-- a stay that is not over -/
def RowPart (m : Mo) (T : Int) (j i : Nat) (r : Row) : Prop := r.name = nm m j i ∧ r.went = none ∧ r.came ≤ T ∧ i < (m.route j).length ∧ ((r.began = none ∧ r.ended = none) ∨ ∃ b, r.began = some b ∧ r.came ≤ b ∧ b ≤ T ∧ pzM r.name b m.pa = false ∧ (r.ended = none ∨ (r.ended = some (b + ln m j i) ∧ b + ln m j i ≤ T)))
/-- stays that are over, from a time to a time -/
def Chain (m : Mo) (j : Nat) : Nat → Int → List Row → Int → Prop
  | _, c, [], c' => c = c'
  | i, c, r :: rs, c' => r.came = c ∧ ∃ w, RowDone m j i r w ∧ Chain m j (i + 1) w rs c'
theorem Chain.snoc {m : Mo} {j : Nat} : ∀ {R : List Row} {i : Nat} {c c' : Int} {r : Row} {w : Int}, Chain m j i c R c' → r.came = c' → RowDone m j (i + R.length) r w → Chain m j i c (R ++ [r]) w
  | [], i, c, c', r, w, h, hc, hd => ⟨by rw [hc]; exact h.symm, w, hd, rfl⟩
  | x :: R, i, c, c', r, w, ⟨h1, w1, h2, h3⟩, hc, hd => ⟨h1, w1, h2, h3.snoc hc (by
    rw [List.length_cons] at hd
    rw [show i + 1 + R.length = i + (R.length + 1) by omega]; exact hd)⟩
section
variable (m : Mo) (T : Int) (E : List EvT) (j : Nat)
/-- a job on its way -/
def Act (sj : Int) (W : Nat → Prop) (V : Nat → Int → Prop) (Rd : Int → Prop) : Prop := ∃ R r, sj = (R.length : Int) ∧ Chain m j 0 (jtime m j) R r.came ∧ cw E j = pref .come R ++ rowEv (wl R) r ∧ RowPart m T j R.length r ∧
  (∀ p, W p → r.began = none ∧ (m.station p).1 = r.name) ∧ (∀ p u, V p u → r.ended = none ∧ (m.station p).1 = r.name ∧ ∃ b, r.began = some b ∧ u = b + ln m j R.length) ∧ (∀ u, Rd u → r.ended = some u)
/-- a job that has left -/
def Gone : Prop := ∃ R w, Chain m j 0 (jtime m j) R w ∧ R.length = (m.route j).length ∧ w ≤ T ∧ cw E j = pref .come R ++ [(w, .leave, nm m j ((m.route j).length - 1))]
def HJ (sj : Int) (W : Nat → Prop) (V : Nat → Int → Prop) (Rd : Int → Prop) : Prop :=
  (sj = -1 ∧ cw E j = []) ∨ (sj = -3 ∧ jtime m j ≤ T ∧ cw E j = [(jtime m j, .lost, nm m j 0)]) ∨ (sj = -2 ∧ Gone m T E j) ∨ Act m T E j sj W V Rd
end
section
variable {m : Mo} {T : Int} {E E' : List EvT} {j : Nat}
theorem Act.other {sj : Int} {W W' : Nat → Prop} {V V' : Nat → Int → Prop} {Rd Rd' : Int → Prop} (h : Act m T E j sj W V Rd) (hc : cw E' j = cw E j) (hW : ∀ p, W' p → W p) (hV : ∀ p u, V' p u → V p u) (hR : ∀ u, Rd' u → Rd u) : Act m T E' j sj W' V' Rd' := by
  obtain ⟨R, r, h1, h2, h3, h4, h5, h6, h7⟩ := h
  exact ⟨R, r, h1, h2, by rw [hc]; exact h3, h4, fun p z => h5 p (hW p z), fun p u z => h6 p u (hV p u z), fun u z => h7 u (hR u z)⟩
theorem HJ.other {sj : Int} {W W' : Nat → Prop} {V V' : Nat → Int → Prop} {Rd Rd' : Int → Prop} (h : HJ m T E j sj W V Rd) (hc : cw E' j = cw E j) (hW : ∀ p, W' p → W p) (hV : ∀ p u, V' p u → V p u) (hR : ∀ u, Rd' u → Rd u) : HJ m T E' j sj W' V' Rd' := by
  rcases h with h | h | h | h
  · exact .inl ⟨h.1, by rw [hc]; exact h.2⟩
  · exact .inr (.inl ⟨h.1, h.2.1, by rw [hc]; exact h.2.2⟩)
  · obtain ⟨R, w, a, b, c, d⟩ := h.2
    exact .inr (.inr (.inl ⟨h.1, R, w, a, b, c, by rw [hc]; exact d⟩))
  · exact .inr (.inr (.inr (h.other hc hW hV hR)))
theorem HJ.later {sj : Int} {W : Nat → Prop} {V : Nat → Int → Prop} {Rd : Int → Prop} {T' : Int} (h : HJ m T E j sj W V Rd) (ht : T ≤ T') : HJ m T' E j sj W V Rd := by
  rcases h with h | h | h | h
  · exact .inl h
  · exact .inr (.inl ⟨h.1, by omega, h.2.2⟩)
  · obtain ⟨R, w, a, b, c, d⟩ := h.2
    exact .inr (.inr (.inl ⟨h.1, R, w, a, b, by omega, d⟩))
  · obtain ⟨R, r, h1, h2, h3, ⟨g1, g2, g3, g0, g4⟩, h5, h6, h7⟩ := h
    refine .inr (.inr (.inr ⟨R, r, h1, h2, h3, ⟨g1, g2, by omega, g0, ?_⟩, h5, h6, h7⟩))
    rcases g4 with g | ⟨b, b1, b2, b3, b4, b5⟩
    · exact .inl g
    · refine .inr ⟨b, b1, b2, by omega, b4, ?_⟩
      rcases b5 with q | ⟨q, q2⟩
      · exact .inl q
      · exact .inr ⟨q, by omega⟩
theorem HJ.act {sj : Int} {W : Nat → Prop} {V : Nat → Int → Prop} {Rd : Int → Prop} (h : HJ m T E j sj W V Rd) (h0 : 0 ≤ sj) : Act m T E j sj W V Rd := by
  rcases h with h | h | h | h
  · have := h.1; omega
  · have := h.1; omega
  · have := h.1; omega
  · exact h
end
/-- the history goes with the state -/
def Hs (m : Mo) (E0 : List EvT) (s : Mm) : Prop := ∀ i, i < m.jo.length → HJ m s.time (E0 ++ s.evs) i (s.steps.getD i 0) (fun p => i ∈ waitAt s p) (fun p u => (u, i) ∈ servAt s p) (fun u => (u, i) ∈ s.ready)
section
variable {m : Mo} {E0 : List EvT}
theorem app_ev (E0 : List EvT) (s : Mm) (e : EvT) : E0 ++ (s.evs ++ [e]) = (E0 ++ s.evs) ++ [e] := (List.append_assoc ..).symm
theorem cw_put (E0 : List EvT) (s : Mm) {T : Int} {w : Wd} {i j : Nat} {n : Str} (h : i ≠ j) : cw (E0 ++ (s.evs ++ [(T, w, j, n)])) i = cw (E0 ++ s.evs) i := by
  rw [app_ev, cw_app, cw_other h, List.append_nil]
theorem cw_put_own (E0 : List EvT) (s : Mm) {T : Int} {w : Wd} {j : Nat} {n : Str} (h : w ≠ .block) : cw (E0 ++ (s.evs ++ [(T, w, j, n)])) j = cw (E0 ++ s.evs) j ++ [(T, w, n)] := by
  rw [app_ev, cw_app, cw_own h]
theorem block_h {s : Mm} {x : Int × Nat} (h : Hs m E0 s) : Hs m E0 (blockOne m s x) := fun i hi => by
  unfold blockOne
  split
  · refine (h i hi).other ?_ (fun _ z => z) (fun _ _ z => z) (fun _ z => z)
    show cw (E0 ++ (s.evs ++ [_])) i = _
    rw [app_ev, cw_app, cw_block, List.append_nil]
  · exact h i hi
theorem steps_other {s : Mm} {i j : Nat} {v : Int} (h : i ≠ j) : (s.steps.set j v).getD i 0 = s.steps.getD i 0 := by
  rw [List.getD_eq_getElem?_getD, List.getElem?_set_ne (Ne.symm h), List.getD_eq_getElem?_getD]
theorem steps_own {s : Mm} {j : Nat} {v : Int} (h : j < s.steps.length) : (s.steps.set j v).getD j 0 = v := by
  rw [List.getD_eq_getElem?_getD, List.getElem?_set_self h]; rfl
theorem act_of {s : Mm} {W : Nat → Prop} {V : Nat → Int → Prop} {Rd : Int → Prop} {j : Nat} {T : Int} {E : List EvT} (v : VS m s.steps j) (h : HJ m T E j (s.steps.getD j 0) W V Rd) : Act m T E j (s.steps.getD j 0) W V Rd := by
  obtain ⟨_, k, e, _⟩ := v
  refine h.act ?_
  rw [List.getD_eq_getElem?_getD, e]
  show (0 : Int) ≤ (k : Int)
  omega
theorem here_nm {s : Mm} {j k : Nat} (h : s.steps.getD j 0 = (k : Int)) : here m s.steps j = nm m j k := by
  unfold here stepOf nm; rw [h]; rfl
theorem nodup_keyH {α : Type} {β : Type} {f : α → β} : ∀ {xs : List α}, (xs.map f).Nodup → ∀ x ∈ xs, ∀ y ∈ xs, f x = f y → x = y
  | [], _, _, h, _, _ => nomatch h
  | a :: xs, n, x, hx, y, hy => fun e => by
    rw [List.map_cons, List.nodup_cons] at n
    rcases List.mem_cons.mp hx with h1 | h1
    · rcases List.mem_cons.mp hy with h2 | h2
      · rw [h1, h2]
      · exact absurd (List.mem_map.mpr ⟨y, h2, by rw [← e, h1]⟩) n.1
    · rcases List.mem_cons.mp hy with h2 | h2
      · exact absurd (List.mem_map.mpr ⟨x, h1, by rw [e, h2]⟩) n.1
      · exact nodup_keyH n.2 x h1 y h2 e
/-- tuples that begin with names, one for each -/
theorem nd_rr {s : Mm} (w : WF m s) : (s.ready.map (·.2)).Nodup := by
  have := w.nd
  unfold jobs at this
  exact (List.nodup_append.mp (List.nodup_append.mp this).2.1).2.1
theorem rd_once {s : Mm} (w : WF m s) {x : Int × Nat} (h : x ∈ s.ready) {u : Int} (hu : (u, x.2) ∈ s.ready.erase x) : False := by
  have hn := w.rnd
  have h2 : (u, x.2) ∈ s.ready := List.mem_of_mem_erase hu
  have he : (u, x.2) = x := by
    have := nd_rr w
    exact nodup_keyH this _ h2 _ h rfl
  rw [he] at hu
  exact (List.Nodup.mem_erase_iff hn).mp hu |>.1 rfl
end
end DL

namespace DL
open PySem PySem.Spec PyProof.Rows L2
section
variable {m : Mo} {E0 : List EvT}
theorem station_place {n : Str} (h : n ∈ m.names) : (m.station (m.place n)).1 = n := by
  have hl := m.place_lt h
  have h1 : m.names[m.place n]? = some n := by
    unfold Mo.place
    have h2 : m.names.idxOf n < m.names.length := List.idxOf_lt_length_of_mem h
    rw [List.getElem?_eq_getElem h2, List.getElem_idxOf]
  unfold Mo.station
  rw [List.getD_eq_getElem?_getD]
  unfold Mo.names at h1
  rw [List.getElem?_map] at h1
  cases q : m.st[m.place n]? with
  | none => rw [q] at h1; cases h1
  | some r => rw [q] at h1; cases h1; rfl
theorem getD_set_mem {α : Type} {rows : List (List α)} {p p' : Nat} {r : List α} {x : α} (h : x ∈ (rows.set p r).getD p' []) : (p' = p ∧ x ∈ r) ∨ x ∈ rows.getD p' [] := by
  by_cases e : p' = p
  · subst e
    by_cases hl : p' < rows.length
    · rw [List.getD_eq_getElem?_getD, List.getElem?_set_self hl] at h
      exact .inl ⟨rfl, h⟩
    · rw [List.getD_eq_getElem?_getD, List.getElem?_eq_none (by rw [List.length_set]; omega)] at h
      cases h
  · rw [List.getD_eq_getElem?_getD, List.getElem?_set_ne (Ne.symm e), ← List.getD_eq_getElem?_getD] at h
    exact .inr h
theorem leave_h {s : Mm} (w : WF m s) {x : Int × Nat} (hx : x ∈ s.ready) (hk : s.steps.getD x.2 0 + 1 = ((m.route x.2).length : Int)) (h : Hs m E0 s) : Hs m E0 (leaveOne m s x) := fun i hi => by
  have hv := w.rv x hx
  by_cases e : i = x.2
  · subst e
    obtain ⟨R, r, h1, h2, h3, ⟨g1, g2, g3, g0, g4⟩, h5, h6, h7⟩ := act_of hv (h _ hi)
    have he := h7 x.1 hx
    rcases g4 with g | ⟨b, b1, b2, b3, b4, b5⟩
    · rw [g.2] at he; cases he
    rcases b5 with q | ⟨q, q2⟩
    · rw [q] at he; cases he
    refine .inr (.inr (.inl ⟨steps_own (by rw [w.sl]; exact hv.1), R ++ [{ r with went := some s.time }], s.time, h2.snoc rfl ⟨?_, rfl, b, b1, ?_, b2, ?_, b4⟩, ?_, Int.le_refl _, ?_⟩))
    · rw [Nat.zero_add]; exact g1
    · rw [Nat.zero_add]; exact q
    · rw [Nat.zero_add]; exact q2
    · rw [List.length_append, List.length_singleton]; omega
    · show cw (E0 ++ (s.evs ++ [(s.time, Wd.leave, x.2, here m s.steps x.2)])) x.2 = _
      rw [cw_put_own E0 s (by decide), h3, pref_snoc, here_nm h1]
      have : R.length = (m.route x.2).length - 1 := by omega
      rw [this]
      rfl
  · refine HJ.other (by rw [show (leaveOne m s x).steps.getD i 0 = s.steps.getD i 0 from steps_other e]; exact h i hi) ?_ (fun _ z => z) (fun _ _ z => z) (fun _ z => List.mem_of_mem_erase z)
    exact cw_put E0 s e
theorem move_h {s : Mm} (w : WF m s) {x : Int × Nat} (hx : x ∈ s.ready) (hk : ¬ s.steps.getD x.2 0 + 1 = ((m.route x.2).length : Int)) (hn : nextSt m s x.2 ∈ m.names) (h : Hs m E0 s) : Hs m E0 (moveOne m s x (nextSt m s x.2)) := fun i hi => by
  have hv := w.rv x hx
  by_cases e : i = x.2
  · subst e
    obtain ⟨R, r, h1, h2, h3, ⟨g1, g2, g3, g0, g4⟩, h5, h6, h7⟩ := act_of hv (h _ hi)
    have he := h7 x.1 hx
    rcases g4 with g | ⟨b, b1, b2, b3, b4, b5⟩
    · rw [g.2] at he; cases he
    rcases b5 with q | ⟨q, q2⟩
    · rw [q] at he; cases he
    have hnm : nextSt m s x.2 = nm m x.2 (R.length + 1) := by
      unfold nextSt nm
      rw [h1]; rfl
    generalize nextSt m s x.2 = N at *
    refine .inr (.inr (.inr ⟨R ++ [{ r with went := some s.time }], ⟨N, s.time, none, none, none⟩, ?_, h2.snoc rfl ⟨?_, rfl, b, b1, ?_, b2, ?_, b4⟩, ?_, ⟨?_, rfl, Int.le_refl _, ?_, .inl ⟨rfl, rfl⟩⟩, fun p hp => ?_, fun p u hp => ?_, fun u hu => ?_⟩))
    · rw [show (moveOne m s x N).steps.getD x.2 0 = s.steps.getD x.2 0 + 1 from steps_own (by rw [w.sl]; exact hv.1), h1, List.length_append, List.length_singleton]; omega
    · rw [Nat.zero_add]; exact g1
    · rw [Nat.zero_add]; exact q
    · rw [Nat.zero_add]; exact q2
    · show cw (E0 ++ (s.evs ++ [(s.time, Wd.move, x.2, N)])) x.2 = _
      rw [cw_put_own E0 s (by decide), h3, pref_snoc]
      have : wl (R ++ [{ r with went := some s.time }]) = .move := by unfold wl; simp
      rw [this]
      rfl
    · rw [List.length_append, List.length_singleton]; exact hnm
    · rw [List.length_append, List.length_singleton]; omega
    · rcases getD_set_mem hp with ⟨z, _⟩ | z
      · refine ⟨rfl, ?_⟩
        rw [z]; exact station_place hn
      · have := (h5 p z).1
        rw [b1] at this; cases this
    · have := (h6 p u hp).1
      rw [q] at this; cases this
    · exact (rd_once w hx hu).elim
  · refine HJ.other (by rw [show (moveOne m s x (nextSt m s x.2)).steps.getD i 0 = s.steps.getD i 0 from steps_other e]; exact h i hi) (cw_put E0 s e) (fun p z => ?_) (fun _ _ z => z) (fun _ z => List.mem_of_mem_erase z)
    rcases getD_set_mem z with ⟨z1, z2⟩ | z
    · rcases List.mem_append.mp z2 with y | y
      · rw [z1]; exact y
      · exact absurd (List.mem_singleton.mp y) e
    · exact z
theorem goOn_h (hm : Mok m) {s : Mm} (w : WF m s) {x : Int × Nat} (hx : x ∈ s.ready) (h : Hs m E0 s) : Hs m E0 (goOn m s x) := by
  unfold goOn
  split
  · exact leave_h w hx (by assumption) h
  split
  · exact h
  · exact move_h w hx (by assumption) (nextSt_mem hm (w.rv x hx) (by assumption)) h
theorem foldGo_h (hm : Mok m) : ∀ (l : List (Int × Nat)) {s : Mm}, WF m s → l.Nodup → (∀ x ∈ l, x ∈ s.ready) → Hs m E0 s → Hs m E0 (l.foldl (goOn m) s)
  | [], _, _, _, _, h => h
  | x :: l, s, w, n, hl, h => by
    obtain ⟨n1, n2⟩ := List.nodup_cons.mp n
    have hx := hl x (by simp)
    exact foldGo_h hm l (goOn_wf hm w hx).1 n2 (fun y hy => goOn_ready (hl y (by simp [hy])) fun z => n1 (z ▸ hy)) (goOn_h hm w hx h)
theorem mem_serv {s : Mm} {p : Nat} {x : Int × Nat} (h : x ∈ servAt s p) : x ∈ s.serv.flatten := by
  unfold servAt at h
  rw [List.getD_eq_getElem?_getD] at h
  cases q : s.serv[p]? with
  | none => rw [q] at h; cases h
  | some r => rw [q] at h; exact List.mem_flatten.mpr ⟨r, List.mem_of_getElem? q, h⟩
theorem mem_wait {s : Mm} {p j : Nat} (h : j ∈ waitAt s p) : j ∈ s.wait.flatten := by
  unfold waitAt at h
  rw [List.getD_eq_getElem?_getD] at h
  cases q : s.wait[p]? with
  | none => rw [q] at h; cases h
  | some r => rw [q] at h; exact List.mem_flatten.mpr ⟨r, List.mem_of_getElem? q, h⟩
theorem sv_w {s : Mm} (nd : (jobs s).Nodup) {p p' : Nat} {u : Int} {j : Nat} (h : (u, j) ∈ servAt s p) (hw : j ∈ waitAt s p') : False := by
  unfold jobs at nd
  exact (List.nodup_append.mp nd).2.2 j (mem_wait hw) j (List.mem_append_left _ (List.mem_map.mpr ⟨(u, j), mem_serv h, rfl⟩)) rfl
theorem begin_h {s : Mm} (w : WF m s) {p : Nat} (hp : p < m.st.length) (hw : 0 < (waitAt s p).length) (hz : pzM (m.station p).1 s.time m.pa = false) (h : Hs m E0 s) : Hs m E0 (beginOne m p s) := fun i hi => by
  have hc := chosen_mem (m := m) hw
  have w' := (beginOne_wf w hp hw).1
  have hps : p < s.serv.length := by rw [w.rows.v]; exact hp
  by_cases e : i = chosen m s p
  · have hv : VS m s.steps i := w.vs i (List.mem_append_left _ (mem_wait (by rw [e]; exact hc)))
    obtain ⟨R, r, h1, h2, h3, ⟨g1, g2, g3, g0, g4⟩, h5, h6, h7⟩ := act_of hv (h _ hi)
    have h5' := h5 p (by rw [e]; exact hc)
    have gg : r.began = none ∧ r.ended = none := by
      rcases g4 with g | ⟨b, b1, _⟩
      · exact g
      · rw [b1] at h5'; cases h5'.1
    have hlen : (stepOf m s.steps i).2 = ln m i R.length := by
      unfold stepOf ln
      rw [h1]; rfl
    refine .inr (.inr (.inr ⟨R, { r with began := some s.time }, h1, h2, ?_, ⟨g1, g2, g3, g0, .inr ⟨s.time, rfl, g3, Int.le_refl _, ?_, .inl gg.2⟩⟩, fun p' hp' => ?_, fun p' u hp' => ?_, fun u hu => ?_⟩))
    · show cw (E0 ++ (s.evs ++ [(s.time, Wd.begin, chosen m s p, (m.station p).1)])) i = _
      rw [← e, cw_put_own E0 s (by decide), h3, h5'.2]
      unfold rowEv
      rw [gg.1, gg.2]
      simp [oEv]
    · show pzM r.name s.time m.pa = false
      rw [← h5'.2]; exact hz
    · have hin : (s.time + (stepOf m s.steps (chosen m s p)).2, i) ∈ servAt (beginOne m p s) p := by
        show _ ∈ (s.serv.set p _).getD p []
        rw [List.getD_eq_getElem?_getD, List.getElem?_set_self hps]
        rw [e]
        exact List.mem_append_right _ (List.mem_singleton.mpr rfl)
      exact (sv_w w'.nd hin hp').elim
    · rcases getD_set_mem hp' with ⟨z1, z2⟩ | z
      · rcases List.mem_append.mp z2 with y | y
        · have := (h6 p u y).2.2
          obtain ⟨b, b1, _⟩ := this
          rw [gg.1] at b1; cases b1
        · have := List.mem_singleton.mp y
          cases this
          refine ⟨gg.2, by rw [z1]; exact h5'.2, s.time, rfl, ?_⟩
          rw [← hlen]
      · have := (h6 p' u z).2.2
        obtain ⟨b, b1, _⟩ := this
        rw [gg.1] at b1; cases b1
    · have := h7 u hu
      rw [gg.2] at this; cases this
  · refine HJ.other (h i hi) (cw_put E0 s e) (fun p' z => ?_) (fun p' u z => ?_) (fun _ z => z)
    · rcases getD_set_mem z with ⟨z1, z2⟩ | z
      · rw [z1]; exact List.mem_of_mem_erase z2
      · exact z
    · rcases getD_set_mem z with ⟨z1, z2⟩ | z
      · rcases List.mem_append.mp z2 with y | y
        · rw [z1]; exact y
        · have := congrArg Prod.snd (List.mem_singleton.mp y)
          exact absurd this e
      · exact z
theorem beginN_h {p : Nat} (hp : p < m.st.length) {T : Int} (hz : pzM (m.station p).1 T m.pa = false) : ∀ (k : Nat) {s : Mm}, s.time = T → WF m s → Hs m E0 s → Hs m E0 (beginN m p k s)
  | 0, _, _, _, h => h
  | k + 1, s, ht, w, h => by
    unfold beginN
    split
    · rename_i hc
      have h0 : 0 < (waitAt s p).length := by
        unfold canBegin at hc
        simp only [Bool.and_eq_true, decide_eq_true_eq] at hc
        exact hc.1
      exact beginN_h hp hz k ht (beginOne_wf w hp h0).1 (begin_h w hp h0 (by rw [ht]; exact hz) h)
    · exact h
theorem beginAt_h {p : Nat} (hp : p < m.st.length) {s : Mm} (w : WF m s) (h : Hs m E0 s) : Hs m E0 (beginAt m s p) := by
  unfold beginAt
  split
  · exact h
  · rename_i hz
    have h2 := beginN_h (E0 := E0) hp (T := s.time) (by simpa using hz) (waitAt s p).length rfl w h
    intro i hi
    refine HJ.other (h2 i hi) rfl (fun _ z => z) (fun p' u z => ?_) (fun _ z => z)
    rcases getD_set_mem z with ⟨z1, z2⟩ | z
    · rw [z1]; exact (psort_perm _).mem_iff.mp z2
    · exact z
theorem foldBegin_h : ∀ (l : List Nat) {s : Mm}, (∀ p ∈ l, p < m.st.length) → WF m s → Hs m E0 s → Hs m E0 (l.foldl (beginAt m) s)
  | [], _, _, _, h => h
  | p :: l, s, hl, w, h => foldBegin_h l (fun q hq => hl q (List.mem_cons_of_mem _ hq)) (beginAt_wf (hl p (by simp)) w).1 (beginAt_h (hl p (by simp)) w h)
theorem round_h (hm : Mok m) {s : Mm} (w : WF m s) (h : Hs m E0 s) : Hs m E0 (round m s) :=
  foldBegin_h _ (fun p hp => List.mem_range.mp hp) (roundGo_wf hm w).1 (foldGo_h hm _ w w.rnd (fun _ z => z) h)
theorem settleN_h (hm : Mok m) : ∀ (k : Nat) {s : Mm}, WF m s → Hs m E0 s → Hs m E0 (settleN m k s)
  | 0, _, _, h => h
  | k + 1, s, w, h => by
    unfold settleN
    split
    · exact settleN_h hm k (round_wf hm w).1 (round_h hm w h)
    · exact round_h hm w h
end
end DL

namespace DL
open PySem PySem.Spec PyProof.Rows L2
section
variable {m : Mo} {E0 : List EvT}
/-- a job whose service ends now -/
def Pend (m : Mo) (T : Int) (E : List EvT) (j : Nat) (sj : Int) : Prop := ∃ R r b, sj = (R.length : Int) ∧ Chain m j 0 (jtime m j) R r.came ∧ cw E j = pref .come R ++ rowEv (wl R) r ∧ r.name = nm m j R.length ∧ r.went = none ∧ r.began = some b ∧ r.ended = none ∧ r.came ≤ b ∧ b ≤ T ∧ pzM r.name b m.pa = false ∧ R.length < (m.route j).length ∧ T = b + ln m j R.length
def HE2 (m : Mo) (E0 : List EvT) (l : List Nat) (s : Mm) : Prop := ∀ i, i < m.jo.length → (i ∉ l → HJ m s.time (E0 ++ s.evs) i (s.steps.getD i 0) (fun p => i ∈ waitAt s p) (fun p u => (u, i) ∈ servAt s p) (fun u => (u, i) ∈ s.ready)) ∧ (i ∈ l → Pend m s.time (E0 ++ s.evs) i (s.steps.getD i 0))
theorem mem_ready_jobs {s : Mm} {u : Int} {j : Nat} (h : (u, j) ∈ s.ready) : j ∈ jobs s := List.mem_append_right _ (List.mem_append_right _ (List.mem_map.mpr ⟨(u, j), h, rfl⟩))
theorem mem_serv_jobs {s : Mm} {p : Nat} {u : Int} {j : Nat} (h : (u, j) ∈ servAt s p) : j ∈ jobs s := List.mem_append_right _ (List.mem_append_left _ (List.mem_map.mpr ⟨(u, j), mem_serv h, rfl⟩))
theorem mem_wait_jobs {s : Mm} {p : Nat} {j : Nat} (h : j ∈ waitAt s p) : j ∈ jobs s := List.mem_append_left _ (mem_wait h)
theorem endOne_h {j : Nat} {l : List Nat} {s : Mm} (e : EndI m (j :: l) s) (h : HE2 m E0 (j :: l) s) : HE2 m E0 l (endOne m s j) := fun i hi => by
  have nd := e.nd
  rw [List.cons_append] at nd
  obtain ⟨n1, n2⟩ := List.nodup_cons.mp nd
  have nj : j ∉ jobs s := fun z => n1 (List.mem_append_right _ z)
  have nl : j ∉ l := fun z => n1 (List.mem_append_left _ z)
  by_cases q : i = j
  · subst q
    refine ⟨fun _ => ?_, fun z => absurd z nl⟩
    obtain ⟨R, r, b, h1, h2, h3, h4, h5, h6, h7, h8, h9, h10, h12, h11⟩ := (h i hi).2 (by simp)
    refine .inr (.inr (.inr ⟨R, { r with ended := some s.time }, h1, h2, ?_, ⟨h4, h5, by show r.came ≤ s.time; omega, h12, .inr ⟨b, h6, h8, h9, h10, .inr ⟨by rw [h11], by show b + _ ≤ s.time; omega⟩⟩⟩, fun p z => absurd (mem_wait_jobs (s := s) z) nj, fun p u z => absurd (mem_serv_jobs (s := s) z) nj, fun u z => ?_⟩))
    · show cw (E0 ++ (s.evs ++ [(s.time, Wd.fin, i, here m s.steps i)])) i = _
      rw [cw_put_own E0 s (by decide), h3, here_nm h1, ← h4]
      unfold rowEv
      rw [h6, h7]
      simp [oEv]
    · rcases List.mem_append.mp z with y | y
      · exact absurd (mem_ready_jobs y) nj
      · have : u = s.time := congrArg Prod.fst (List.mem_singleton.mp y)
        show some s.time = some u
        rw [this]
  · have hc : cw (E0 ++ (endOne m s j).evs) i = cw (E0 ++ s.evs) i := cw_put E0 s q
    refine ⟨fun z => ?_, fun z => ?_⟩
    · refine ((h i hi).1 fun y => ?_).other hc (fun _ z => z) (fun _ _ z => z) fun u z => ?_
      · rcases List.mem_cons.mp y with y | y
        · exact q y
        · exact z y
      · rcases List.mem_append.mp z with y | y
        · exact y
        · exact absurd (congrArg Prod.snd (List.mem_singleton.mp y)) q
    · obtain ⟨R, r, b, h1, h2, h3, h'⟩ := (h i hi).2 (List.mem_cons_of_mem _ z)
      exact ⟨R, r, b, h1, h2, by rw [hc]; exact h3, h'⟩
theorem endFold_h : ∀ (l : List Nat) {s : Mm}, EndI m l s → HE2 m E0 l s → HE2 m E0 [] (l.foldl (endOne m) s)
  | [], _, _, h => h
  | j :: l, s, e, h => endFold_h l (endOne_i e) (endOne_h e h)
theorem map_at_row {α β : Type} {f : List α → List β} (hf : f [] = []) {rows : List (List α)} {p : Nat} : (rows.map f).getD p [] = f (rows.getD p []) := by
  rw [List.getD_eq_getElem?_getD, List.getElem?_map, List.getD_eq_getElem?_getD]
  cases rows[p]? with
  | none => exact hf.symm
  | some r => rfl
theorem mem_flat_at {α : Type} {rows : List (List α)} {x : α} (h : x ∈ rows.flatten) : ∃ p, x ∈ rows.getD p [] := by
  obtain ⟨r, hr, hx⟩ := List.mem_flatten.mp h
  obtain ⟨p, hp, e⟩ := List.getElem_of_mem hr
  refine ⟨p, ?_⟩
  rw [List.getD_eq_getElem?_getD, List.getElem?_eq_getElem hp]
  show x ∈ rows[p]
  rw [e]; exact hx
theorem end_h {s : Mm} (w : WF m s) (h : Hs m E0 s) : Hs m E0 (endServices m s) := by
  obtain ⟨e, _⟩ := end_start w
  have h0 : HE2 m E0 (jsort (over s)) (endServ s) := fun i hi => by
    refine ⟨fun _ => (h i hi).other rfl (fun _ z => z) (fun p u z => ?_) (fun _ z => z), fun z => ?_⟩
    · have : (u, i) ∈ (s.serv.map fun r => r.filter fun x => !decide (x.1 = s.time)).getD p [] := z
      rw [map_at_row rfl] at this
      exact (List.mem_filter.mp this).1
    · have hz := (jsort_perm _).mem_iff.mp z
      unfold over at hz
      obtain ⟨r, hr, hx0⟩ := List.mem_flatMap.mp hz
      obtain ⟨x, hx, rfl⟩ := List.mem_map.mp hx0
      obtain ⟨hx1, hx2⟩ := List.mem_filter.mp hx
      rw [decide_eq_true_eq] at hx2
      have hfl : x ∈ s.serv.flatten := List.mem_flatten.mpr ⟨r, hr, hx1⟩
      obtain ⟨p, hp⟩ := mem_flat_at hfl
      have hv : VS m s.steps x.2 := w.vs _ (List.mem_append_right _ (List.mem_append_left _ (List.mem_map.mpr ⟨x, hfl, rfl⟩)))
      obtain ⟨R, r', h1, h2, h3, ⟨g1, g2, g3, g0, g4⟩, h5, h6, h7⟩ := act_of hv (h _ hi)
      obtain ⟨k1, k2, b, k3, k4⟩ := h6 p x.1 hp
      rcases g4 with g | ⟨b', b1, b2, b3, b4, _⟩
      · rw [g.1] at k3; cases k3
      · rw [b1] at k3
        cases k3
        exact ⟨R, r', b, h1, h2, h3, g1, g2, b1, k1, b2, b3, b4, g0, by show s.time = _; rw [← hx2, k4]⟩
  have h1 := endFold_h _ e h0
  intro i hi
  refine HJ.other ((h1 i hi).1 (by simp)) rfl (fun _ z => z) (fun _ _ z => z) fun u z => ?_
  exact (psort_perm _).mem_iff.mp z
theorem arriveOne_h (hm : Mok m) {s : Mm} (w : WF m s) {j : Nat} (hj : j < m.jo.length) (hs : jtime m j = s.time → s.steps.getD j 0 = -1) (h : Hs m E0 s) : Hs m E0 (arriveOne m s j) := by
  unfold arriveOne
  split
  · rename_i ht
    have hs := hs ht
    have nj := not_job w hs (by decide)
    have hsl : j < s.steps.length := by rw [w.sl]; exact hj
    have hcw : cw (E0 ++ s.evs) j = [] := by
      rcases h j hj with q | q | q | ⟨R, r, q, _⟩
      · exact q.2
      · rw [hs] at q; exact absurd q.1 (by decide)
      · rw [hs] at q; exact absurd q.1 (by decide)
      · rw [hs] at q; omega
    have hf : firstSt m j = nm m j 0 := by
      unfold firstSt nm
      cases m.route j <;> rfl
    split
    · intro i hi
      by_cases e : i = j
      · subst e
        refine .inr (.inl ⟨steps_own hsl, by show jtime m i ≤ s.time; omega, ?_⟩)
        show cw (E0 ++ (s.evs ++ [(s.time, Wd.lost, i, firstSt m i)])) i = _
        rw [cw_put_own E0 s (by decide), hcw, hf, ht]
        rfl
      · exact HJ.other (by rw [show (lostOne m s j).steps.getD i 0 = s.steps.getD i 0 from steps_other e]; exact h i hi) (cw_put E0 s e) (fun _ z => z) (fun _ _ z => z) (fun _ z => z)
    · intro i hi
      by_cases e : i = j
      · subst e
        refine .inr (.inr (.inr ⟨[], ⟨firstSt m i, s.time, none, none, none⟩, steps_own hsl, ht, ?_, ⟨hf, rfl, Int.le_refl _, ?_, .inl ⟨rfl, rfl⟩⟩, fun p z => ?_, fun p u z => absurd (mem_serv_jobs (s := s) z) nj, fun u z => absurd (mem_ready_jobs (s := s) z) nj⟩))
        · show cw (E0 ++ (s.evs ++ [(s.time, Wd.come, i, firstSt m i)])) i = _
          rw [cw_put_own E0 s (by decide), hcw]
          rfl
        · obtain ⟨kd, hk1, hk2⟩ := hm.kind hi
          have := (hm.rt kd hk2).1
          unfold Mo.route
          rw [hk1]
          exact List.length_pos_iff.mpr this
        · refine ⟨rfl, ?_⟩
          rcases getD_set_mem z with ⟨z1, _⟩ | z
          · rw [z1]; exact station_place (firstSt_mem hm hi)
          · exact absurd (mem_wait_jobs (s := s) z) nj
      · refine HJ.other (by rw [show (comeOne m s j).steps.getD i 0 = s.steps.getD i 0 from steps_other e]; exact h i hi) (cw_put E0 s e) (fun p z => ?_) (fun _ _ z => z) (fun _ z => z)
        rcases getD_set_mem z with ⟨z1, z2⟩ | z
        · rcases List.mem_append.mp z2 with y | y
          · rw [z1]; exact y
          · exact absurd (List.mem_singleton.mp y) e
        · exact z
  · exact h
theorem foldArr_h (hm : Mok m) : ∀ (l : List Nat) {s : Mm}, l.Nodup → (∀ j ∈ l, j < m.jo.length ∧ (jtime m j = s.time → s.steps.getD j 0 = -1)) → WF m s → Hs m E0 s → Hs m E0 (l.foldl (arriveOne m) s)
  | [], _, _, _, _, h => h
  | j :: l, s, n, hl, w, h => by
    obtain ⟨n1, n2⟩ := List.nodup_cons.mp n
    exact foldArr_h hm l n2 (fun i hi => ⟨(hl i (by simp [hi])).1, fun ht => by
      have hij : i ≠ j := fun z => n1 (z ▸ hi)
      rw [arriveOne_other hij]
      exact (hl i (by simp [hi])).2 (by rw [ht, arriveOne_time])⟩) (arriveOne_wf hm w (hl j (by simp)).1 (hl j (by simp)).2).1 (arriveOne_h hm w (hl j (by simp)).1 (hl j (by simp)).2 h)
theorem blocks_h {s : Mm} (h : Hs m E0 s) : Hs m E0 (blocks m s) := by
  unfold blocks
  generalize s.ready = l
  induction l generalizing s with
  | nil => exact h
  | cons x l ih => exact ih (block_h h)
/-- the history of a state of the program -/
def Hst (m : Mo) (E0 : List EvT) (a : Sta) : Prop := Hs m E0 a.mm
theorem happen_h (hm : Mok m) {a : Sta} (w : SW m a) (h : Hst m E0 a) : Hst m (E0 ++ (happen m a).1) (happen m a).2 := by
  have H := SW.hap hm w
  have h1 : Hs m E0 (endServices m a.mm) := end_h w.wf h
  have h2 : Hs m E0 (settle m (endServices m a.mm)) := settleN_h hm _ H.e1.1 h1
  have h3 : Hs m E0 (arrive m (settle m (endServices m a.mm))) := foldArr_h hm _ List.nodup_range (fun j hj => ⟨List.mem_range.mp hj, H.ab j (List.mem_range.mp hj)⟩) H.e2.1 h2
  have h4 : Hs m E0 (settle m (arrive m (settle m (endServices m a.mm)))) := settleN_h hm _ H.e3.1 h3
  have h5 : Hs m E0 (happenM m a) := blocks_h h4
  intro i hi
  have := (h5 i hi).later (T' := (happenM m a).time + 1) (by omega)
  show HJ m ((happenM m a).time + 1) (E0 ++ (happenM m a).evs ++ []) i ((happenM m a).steps.getD i 0) (fun p => i ∈ waitAt (happenM m a) p) (fun p u => (u, i) ∈ servAt (happenM m a) p) (fun u => (u, i) ∈ (happenM m a).ready)
  rw [List.append_nil]
  exact this
theorem Hst.at {a : Sta} (h : Hst m E0 a) {t : Int} (ht : a.time ≤ t) : Hst m E0 (a.at t) := fun i hi => (h i hi).later ht
/-- the last state of a run -/
def lastN (m : Mo) : Nat → Sta → Sta
  | 0, a => a
  | k + 1, a => match nextTime m a with
    | none => a
    | some t => lastN m k (happen m (a.at t)).2
def lastOf (m : Mo) (a : Sta) : Sta := lastN m (due m a + 1) a
theorem lastN_fuel (hm : Mok m) : ∀ (k k' : Nat) {a : Sta}, SW m a → due m a < k → due m a < k' → lastN m k a = lastN m k' a
  | 0, _, _, _, h, _ => by omega
  | _ + 1, 0, _, _, _, h => by omega
  | k + 1, k' + 1, a, w, h1, h2 => by
    unfold lastN
    cases q : nextTime m a with
    | none => rfl
    | some u =>
      simp only
      obtain ⟨_, g, _⟩ := nextTime_some q
      have hd := due_lt hm w q
      rw [lastN_fuel hm k k' ((w.at g).next hm).1 (by omega) (by omega)]
theorem lastOf_eq (hm : Mok m) {a : Sta} (w : SW m a) : lastOf m a = match nextTime m a with
    | none => a
    | some u => lastOf m (happen m (a.at u)).2 := by
  unfold lastOf
  rw [lastN]
  cases q : nextTime m a with
  | none => rfl
  | some u =>
    simp only
    obtain ⟨_, g, _⟩ := nextTime_some q
    have hd := due_lt hm w q
    rw [lastN_fuel hm (due m a) (due m (happen m (a.at u)).2 + 1) ((w.at g).next hm).1 (by omega) (by omega)]
def lastSta (m : Mo) : Sta := lastOf m (firstSta m)
/-- a job that is absent comes later -/
def Abs (m : Mo) (a : Sta) : Prop := ∀ j, j < m.jo.length → a.steps.getD j 0 = -1 → a.time ≤ jtime m j
structure Fin (m : Mo) (E : List EvT) (b : Sta) : Prop where
  so : SO m b
  st : Stl m b.mm (b.time - 1)
  nx : nextTime m b = none
  hs : Hst m E b
theorem run_h (hm : Mok m) : ∀ a, SO m a → Stl m a.mm (a.time - 1) → ∀ E0, Hst m E0 a → Fin m (E0 ++ run m a) (lastOf m a) := so_ind hm fun a w st ih E0 h => by
  rw [run_eq hm w.sw, lastOf_eq hm w.sw]
  cases q : nextTime m a with
  | none =>
    simp only
    rw [List.append_nil]
    exact ⟨w, st, q, h⟩
  | some t =>
    simp only
    obtain ⟨_, g, _⟩ := nextTime_some q
    have := ih t q (E0 ++ (happen m (a.at t)).1) (happen_h hm (w.sw.at g) (h.at g))
    rw [List.append_assoc] at this
    exact this
theorem first_h : Hst m [] (firstSta m) := fun i hi => by
  refine .inl ⟨?_, rfl⟩
  show ((m.jo.map fun _ => (-1 : Int))).getD i 0 = -1
  rw [List.getD_eq_getElem?_getD, List.getElem?_map, List.getElem?_eq_getElem hi]
  rfl
theorem trace_h (hm : Mok m) : Fin m (trace m) (lastSta m) := run_h hm (firstSta m) (first_so hm).1 ((first_so hm).2 _) [] first_h
end
end DL

/-! Where blocks stand among one job's events; the order of the times. -/
namespace DL
open PySem PySem.Spec PyProof.Rows L2
def ow (E : List EvT) (j : Nat) : List Wd := (E.filter fun e => decide (e.2.2.1 = j)).map (·.2.1)
theorem ow_app (E E' : List EvT) (j : Nat) : ow (E ++ E') j = ow E j ++ ow E' j := by unfold ow; rw [List.filter_append, List.map_append]
theorem ow_own {T : Int} {w : Wd} {j : Nat} {n : Str} : ow [(T, w, j, n)] j = [w] := by
  unfold ow
  rw [List.filter_cons_of_pos (by simp)]
  rfl
theorem ow_other {T : Int} {w : Wd} {i j : Nat} {n : Str} (h : i ≠ j) : ow [(T, w, j, n)] i = [] := by
  unfold ow
  rw [List.filter_cons_of_neg (by simp; intro z; exact absurd z.symm h)]
  rfl
/-- each block stands right behind an end -/
def GoodB (ws : List Wd) : Prop := ∀ l1 l2, ws = l1 ++ Wd.block :: l2 → l1.getLast? = some .fin
theorem GoodB.nil : GoodB [] := fun l1 l2 h => by cases l1 <;> cases h
theorem GoodB.snoc {ws : List Wd} {w : Wd} (h : GoodB ws) (hw : w = .block → ws.getLast? = some .fin) : GoodB (ws ++ [w]) := fun l1 l2 e => by
  rcases List.eq_nil_or_concat l2 with rfl | ⟨l2', x, rfl⟩
  · have := List.append_inj' e rfl
    rw [← this.1]
    exact hw (by simpa using this.2)
  · rw [List.concat_eq_append] at e
    rw [← List.cons_append, ← List.append_assoc] at e
    exact h l1 l2' (List.append_inj' e rfl).1
def Bs (E0 : List EvT) (s : Mm) : Prop := ∀ j, GoodB (ow (E0 ++ s.evs) j) ∧ ∀ u, (u, j) ∈ s.ready → u = s.time → (ow (E0 ++ s.evs) j).getLast? = some .fin
section
variable {m : Mo} {E0 : List EvT}
theorem ow_put (s : Mm) {T : Int} {w : Wd} {i j : Nat} {n : Str} (h : i ≠ j) : ow (E0 ++ (s.evs ++ [(T, w, j, n)])) i = ow (E0 ++ s.evs) i := by
  rw [← List.append_assoc, ow_app, ow_other h, List.append_nil]
theorem ow_put_own (s : Mm) {T : Int} {w : Wd} {j : Nat} {n : Str} : ow (E0 ++ (s.evs ++ [(T, w, j, n)])) j = ow (E0 ++ s.evs) j ++ [w] := by
  rw [← List.append_assoc, ow_app, ow_own]
theorem Bs.put {s s' : Mm} {w : Wd} {j : Nat} {n : Str} (h : Bs E0 s) (ht : s'.time = s.time) (he : s'.evs = s.evs ++ [(s.time, w, j, n)]) (hw : w ≠ .block) (hr : ∀ x ∈ s'.ready, x ∈ s.ready ∧ x.2 ≠ j) : Bs E0 s' := fun i => by
  rw [he, ht]
  by_cases e : i = j
  · subst e
    rw [ow_put_own]
    exact ⟨(h i).1.snoc fun z => absurd z hw, fun u hu => absurd rfl (hr _ hu).2⟩
  · rw [ow_put s e]
    exact ⟨(h i).1, fun u hu => (h i).2 u (hr _ hu).1⟩
theorem goOn_b {s : Mm} (w : WF m s) {x : Int × Nat} (hx : x ∈ s.ready) (h : Bs E0 s) : Bs E0 (goOn m s x) := by
  have key : ∀ y ∈ s.ready.erase x, y ∈ s.ready ∧ y.2 ≠ x.2 := fun y hy => ⟨List.mem_of_mem_erase hy, fun z => rd_once w hx (u := y.1) (by rw [← z]; exact hy)⟩
  unfold goOn
  split
  · exact h.put rfl rfl (by decide) key
  split
  · exact h
  · exact h.put rfl rfl (by decide) key
theorem foldGo_b (hm : Mok m) : ∀ (l : List (Int × Nat)) {s : Mm}, WF m s → l.Nodup → (∀ x ∈ l, x ∈ s.ready) → Bs E0 s → Bs E0 (l.foldl (goOn m) s)
  | [], _, _, _, _, h => h
  | x :: l, s, w, n, hl, h => by
    obtain ⟨n1, n2⟩ := List.nodup_cons.mp n
    have hx := hl x (by simp)
    exact foldGo_b hm l (goOn_wf hm w hx).1 n2 (fun y hy => goOn_ready (hl y (by simp [hy])) fun z => n1 (z ▸ hy)) (goOn_b w hx h)
theorem wait_ready {s : Mm} (w : WF m s) {p j : Nat} (h : j ∈ waitAt s p) {u : Int} (hr : (u, j) ∈ s.ready) : False := by
  have nd := w.nd
  unfold jobs at nd
  exact (List.nodup_append.mp nd).2.2 j (mem_wait h) j (List.mem_append_right _ (List.mem_map.mpr ⟨(u, j), hr, rfl⟩)) rfl
theorem begin_b {s : Mm} (w : WF m s) {p : Nat} (hw : 0 < (waitAt s p).length) (h : Bs E0 s) : Bs E0 (beginOne m p s) := by
  have hc := chosen_mem (m := m) hw
  exact h.put rfl rfl (by decide) fun x hx => ⟨hx, fun z => wait_ready w hc (u := x.1) (by rw [← z]; exact hx)⟩
theorem beginN_b {p : Nat} (hp : p < m.st.length) : ∀ (k : Nat) {s : Mm}, WF m s → Bs E0 s → Bs E0 (beginN m p k s)
  | 0, _, _, h => h
  | k + 1, s, w, h => by
    unfold beginN
    split
    · rename_i hc
      have h0 : 0 < (waitAt s p).length := by
        unfold canBegin at hc
        simp only [Bool.and_eq_true, decide_eq_true_eq] at hc
        exact hc.1
      exact beginN_b hp k (beginOne_wf w hp h0).1 (begin_b w h0 h)
    · exact h
theorem beginAt_b {p : Nat} (hp : p < m.st.length) {s : Mm} (w : WF m s) (h : Bs E0 s) : Bs E0 (beginAt m s p) := by
  unfold beginAt
  split
  · exact h
  · exact beginN_b (E0 := E0) hp (waitAt s p).length w h
theorem foldBegin_b : ∀ (l : List Nat) {s : Mm}, (∀ p ∈ l, p < m.st.length) → WF m s → Bs E0 s → Bs E0 (l.foldl (beginAt m) s)
  | [], _, _, _, h => h
  | p :: l, s, hl, w, h => foldBegin_b l (fun q hq => hl q (List.mem_cons_of_mem _ hq)) (beginAt_wf (hl p (by simp)) w).1 (beginAt_b (hl p (by simp)) w h)
theorem round_b (hm : Mok m) {s : Mm} (w : WF m s) (h : Bs E0 s) : Bs E0 (round m s) :=
  foldBegin_b _ (fun p hp => List.mem_range.mp hp) (roundGo_wf hm w).1 (foldGo_b hm _ w w.rnd (fun _ z => z) h)
theorem settleN_b (hm : Mok m) : ∀ (k : Nat) {s : Mm}, WF m s → Bs E0 s → Bs E0 (settleN m k s)
  | 0, _, _, h => h
  | k + 1, s, w, h => by
    unfold settleN
    split
    · exact settleN_b hm k (round_wf hm w).1 (round_b hm w h)
    · exact round_b hm w h
theorem endOne_b {j : Nat} {l : List Nat} {s : Mm} (e : EndI m (j :: l) s) (h : Bs E0 s) : Bs E0 (endOne m s j) := fun i => by
  have nd := e.nd
  rw [List.cons_append] at nd
  have nj : j ∉ jobs s := fun z => (List.nodup_cons.mp nd).1 (List.mem_append_right _ z)
  show GoodB (ow (E0 ++ (s.evs ++ [(s.time, Wd.fin, j, here m s.steps j)])) i) ∧ ∀ u, (u, i) ∈ s.ready ++ [(s.time, j)] → u = s.time → (ow (E0 ++ (s.evs ++ [(s.time, Wd.fin, j, here m s.steps j)])) i).getLast? = some .fin
  by_cases q : i = j
  · subst q
    rw [ow_put_own]
    exact ⟨(h i).1.snoc (fun z => nomatch z), fun u _ _ => List.getLast?_concat ..⟩
  · rw [ow_put s q]
    refine ⟨(h i).1, fun u hu => (h i).2 u ?_⟩
    rcases List.mem_append.mp hu with y | y
    · exact y
    · exact absurd (congrArg Prod.snd (List.mem_singleton.mp y)) q
theorem endFold_b : ∀ (l : List Nat) {s : Mm}, EndI m l s → Bs E0 s → Bs E0 (l.foldl (endOne m) s)
  | [], _, _, h => h
  | j :: l, s, e, h => endFold_b l (endOne_i e) (endOne_b e h)
theorem end_b {s : Mm} (w : WF m s) (h : Bs E0 s) : Bs E0 (endServices m s) := by
  obtain ⟨e, _⟩ := end_start w
  have h1 := endFold_b (E0 := E0) _ e h
  exact fun i => ⟨(h1 i).1, fun u hu => (h1 i).2 u ((psort_perm _).mem_iff.mp hu)⟩
theorem arriveOne_b {s : Mm} (w : WF m s) {j : Nat} (hs : jtime m j = s.time → s.steps.getD j 0 = -1) (h : Bs E0 s) : Bs E0 (arriveOne m s j) := by
  unfold arriveOne
  split
  · rename_i ht
    have nj := not_job w (hs ht) (by decide)
    have key : ∀ x ∈ s.ready, x ∈ s.ready ∧ x.2 ≠ j := fun x hx => ⟨hx, fun z => nj (by rw [← z]; exact mem_ready_jobs (u := x.1) hx)⟩
    split
    · exact h.put rfl rfl (by decide) key
    · exact h.put rfl rfl (by decide) key
  · exact h
theorem foldArr_b (hm : Mok m) : ∀ (l : List Nat) {s : Mm}, l.Nodup → (∀ j ∈ l, j < m.jo.length ∧ (jtime m j = s.time → s.steps.getD j 0 = -1)) → WF m s → Bs E0 s → Bs E0 (l.foldl (arriveOne m) s)
  | [], _, _, _, _, h => h
  | j :: l, s, n, hl, w, h => by
    obtain ⟨n1, n2⟩ := List.nodup_cons.mp n
    exact foldArr_b hm l n2 (fun i hi => ⟨(hl i (by simp [hi])).1, fun ht => by
      have hij : i ≠ j := fun z => n1 (z ▸ hi)
      rw [arriveOne_other hij]
      exact (hl i (by simp [hi])).2 (by rw [ht, arriveOne_time])⟩) (arriveOne_wf hm w (hl j (by simp)).1 (hl j (by simp)).2).1 (arriveOne_b w (hl j (by simp)).2 h)
theorem foldBlock_b : ∀ (l : List (Int × Nat)) {s : Mm}, (l.map (·.2)).Nodup → (∀ x ∈ l, x.1 = s.time → (ow (E0 ++ s.evs) x.2).getLast? = some .fin) → (∀ j, GoodB (ow (E0 ++ s.evs) j)) → ∀ j, GoodB (ow (E0 ++ (l.foldl (blockOne m) s).evs) j)
  | [], _, _, _, h => h
  | x :: l, s, n, hl, h => by
    rw [List.map_cons, List.nodup_cons] at n
    rw [List.foldl_cons]
    unfold blockOne
    split
    · rename_i ht
      refine foldBlock_b l n.2 (fun y hy hyt => ?_) fun j => ?_
      · have hne : y.2 ≠ x.2 := fun z => n.1 (z ▸ List.mem_map.mpr ⟨y, hy, rfl⟩)
        show (ow (E0 ++ (s.evs ++ [(s.time, Wd.block, x.2, _)])) y.2).getLast? = _
        rw [ow_put s hne]
        exact hl y (List.mem_cons_of_mem _ hy) hyt
      · show GoodB (ow (E0 ++ (s.evs ++ [(s.time, Wd.block, x.2, _)])) j)
        by_cases e : j = x.2
        · subst e
          rw [ow_put_own]
          exact (h x.2).snoc fun _ => hl x (by simp) ht
        · rw [ow_put s e]; exact h j
    · exact foldBlock_b l n.2 (fun y hy hyt => hl y (List.mem_cons_of_mem _ hy) hyt) h
theorem happen_b (hm : Mok m) {a : Sta} (w : SO m a) (h : ∀ j, GoodB (ow E0 j)) : ∀ j, GoodB (ow (E0 ++ (happen m a).1) j) := by
  have H := SW.hap hm w.sw
  have h0 : Bs E0 a.mm := fun j => by
    show GoodB (ow (E0 ++ []) j) ∧ ∀ u, (u, j) ∈ a.ready → u = a.time → (ow (E0 ++ []) j).getLast? = some .fin
    rw [List.append_nil]
    exact ⟨h j, fun u hu hut => by have := w.old (u, j) hu; simp only at this; omega⟩
  have h1 : Bs E0 (endServices m a.mm) := end_b w.sw.wf h0
  have h2 : Bs E0 (settle m (endServices m a.mm)) := settleN_b hm _ H.e1.1 h1
  have h3 : Bs E0 (arrive m (settle m (endServices m a.mm))) := foldArr_b hm _ List.nodup_range (fun j hj => ⟨List.mem_range.mp hj, H.ab j (List.mem_range.mp hj)⟩) H.e2.1 h2
  have h4 : Bs E0 (settle m (arrive m (settle m (endServices m a.mm)))) := settleN_b hm _ H.e3.1 h3
  exact foldBlock_b _ (nd_rr H.e4.1) (fun x hx ht => (h4 x.2).2 x.1 hx ht) fun j => (h4 j).1
theorem run_b (hm : Mok m) : ∀ a, SO m a → Stl m a.mm (a.time - 1) → ∀ E0, (∀ j, GoodB (ow E0 j)) → ∀ j, GoodB (ow (E0 ++ run m a) j) := so_ind hm fun a w st ih E0 h => by
  rw [run_eq hm w.sw]
  cases q : nextTime m a with
  | none => simp only; rw [List.append_nil]; exact h
  | some t =>
    simp only
    obtain ⟨_, g, _⟩ := nextTime_some q
    have := ih t q (E0 ++ (happen m (a.at t)).1) (happen_b hm (w.at g) h)
    rw [List.append_assoc] at this
    exact this
theorem trace_b (hm : Mok m) : ∀ j, GoodB (ow (trace m) j) := run_b hm (firstSta m) (first_so hm).1 ((first_so hm).2 _) [] fun j => GoodB.nil
theorem run_sorted (hm : Mok m) : ∀ a, SO m a → Stl m a.mm (a.time - 1) → (run m a).Pairwise fun x y => x.1 ≤ y.1 := so_ind hm fun a w st ih => by
  rw [run_eq hm w.sw]
  cases q : nextTime m a with
  | none => exact List.Pairwise.nil
  | some t =>
    simp only
    obtain ⟨_, g, _⟩ := nextTime_some q
    obtain ⟨w2, st2⟩ := (w.at g).next hm
    obtain ⟨_, n2, _⟩ := (w.sw.at g).next hm
    have n2 : (happen m (a.at t)).2.time = t + 1 := n2
    refine List.pairwise_append.mpr ⟨?_, ih t q, fun x hx y hy => ?_⟩
    · refine List.pairwise_iff_forall_sublist.mpr fun {x y} hs => ?_
      have hx : x ∈ (happen m (a.at t)).1 := hs.subset (by simp)
      have hy : y ∈ (happen m (a.at t)).1 := hs.subset (by simp)
      rw [happen_time x hx, happen_time y hy]
      exact Int.le_refl _
    · have h1 : x.1 = t := happen_time x hx
      have h2 := (run_time hm _ w2 (by rw [n2]; rw [show t + 1 - 1 = (a.at t).time by show t + 1 - 1 = t; omega]; exact st2) y hy).1
      omega
theorem trace_sorted (hm : Mok m) : (trace m).Pairwise fun x y => x.1 ≤ y.1 := run_sorted hm (firstSta m) (first_so hm).1 ((first_so hm).2 _)
end
end DL

/-! At the end no job is absent; the words of a job. -/
namespace DL
open PySem PySem.Spec PyProof.Rows L2
section
variable {m : Mo} {E0 : List EvT}
theorem abm_h {E : List EvT} {j : Nat} {sj T : Int} {W : Nat → Prop} {V : Nat → Int → Prop} {Rd : Int → Prop} (h : HJ m T E j sj W V Rd) (hne : cw E j ≠ []) : sj ≠ -1 := by
  rcases h with q | q | q | ⟨R, r, q, _⟩
  · exact absurd q.2 hne
  · omega
  · omega
  · omega
theorem hist_ne {E : List EvT} {j : Nat} {sj T : Int} {W : Nat → Prop} {V : Nat → Int → Prop} {Rd : Int → Prop} (h : HJ m T E j sj W V Rd) (hs : sj ≠ -1) : ∃ w n l, cw E j = (jtime m j, w, n) :: l := by
  rcases h with q | q | ⟨_, R, w, a, b, c, e⟩ | ⟨R, r, a, b, c, _⟩
  · exact absurd q.1 hs
  · exact ⟨_, _, _, q.2.2⟩
  · cases R with
    | nil =>
      have : jtime m j = w := a
      exact ⟨.leave, _, [], by rw [e, ← this]; rfl⟩
    | cons r R =>
      have : r.came = jtime m j := a.1
      exact ⟨.come, r.name, _, by rw [e, ← this]; rfl⟩
  · cases R with
    | nil =>
      have : jtime m j = r.came := b
      exact ⟨.come, r.name, _, by rw [c, this]; rfl⟩
    | cons x R =>
      have : x.came = jtime m j := b.1
      exact ⟨.come, x.name, _, by rw [c, ← this]; rfl⟩
end
/-- what the words of a whole way are -/
def rowW (w0 : Wd) : List Wd := [w0, .begin, .fin]
def fullW : Nat → List Wd
  | 0 => []
  | n + 1 => rowW .come ++ (List.replicate n (rowW .move)).flatten
theorem pref_words {m : Mo} {j : Nat} : ∀ {R : List Row} {i : Nat} {c c' : Int} (w0 : Wd), Chain m j i c R c' → (pref w0 R).map (·.2.1) = (match R with | [] => [] | _ :: R' => rowW w0 ++ (List.replicate R'.length (rowW .move)).flatten)
  | [], _, _, _, _, _ => rfl
  | r :: R, i, c, c', w0, ⟨_, w, ⟨_, _, b, b1, b2, _⟩, h⟩ => by
    have hr : (rowEv w0 r).map (·.2.1) = rowW w0 := by
      unfold rowEv
      rw [b1, b2]
      rfl
    rw [pref, List.map_append, hr, pref_words .move h]
    cases R with
    | nil => rfl
    | cons x R => rfl
theorem full_pref {m : Mo} {j : Nat} {R : List Row} {c c' : Int} (h : Chain m j 0 c R c') : (pref .come R).map (·.2.1) = fullW R.length := by
  rw [pref_words .come h]
  cases R <;> rfl
theorem fullW_succ (n : Nat) : fullW (n + 1) = fullW n ++ rowW (if n = 0 then .come else .move) := by
  cases n with
  | zero => rfl
  | succ n =>
    show rowW .come ++ (List.replicate (n + 1) (rowW .move)).flatten = (rowW .come ++ (List.replicate n (rowW .move)).flatten) ++ rowW .move
    rw [List.replicate_succ', List.flatten_append, List.append_assoc]
    simp
theorem fullW_pre {n k : Nat} (h : n ≤ k) : ∃ t, fullW k = fullW n ++ t := by
  induction k with
  | zero => exact ⟨[], by rw [show n = 0 by omega]; rfl⟩
  | succ k ih =>
    by_cases e : n = k + 1
    · exact ⟨[], by rw [e, List.append_nil]⟩
    · obtain ⟨t, ht⟩ := ih (by omega)
      exact ⟨t ++ rowW (if k = 0 then .come else .move), by rw [fullW_succ, ht, List.append_assoc]⟩
theorem fullW_len (n : Nat) : (fullW n).length = 3 * n := by
  induction n with
  | zero => rfl
  | succ n ih => rw [fullW_succ, List.length_append, ih]; show 3 * n + 3 = _; omega
/-- the words of a job: lost, or the beginning of a whole way -/
theorem words_ok {m : Mo} {E : List EvT} {j : Nat} {sj T : Int} {W : Nat → Prop} {V : Nat → Int → Prop} {Rd : Int → Prop} (h : HJ m T E j sj W V Rd) (hs : sj ≠ -1) :
    ∃ l x, (cw E j).map (·.2.1) = l ++ [x] ∧ ((cw E j).map (·.2.1) = [.lost] ∨ ∃ t, fullW (m.route j).length ++ [.leave] = (cw E j).map (·.2.1) ++ t) ∧ (-1 ≤ sj ↔ x ≠ .lost ∧ x ≠ .leave) := by
  rcases h with q | q | ⟨q, R, w, a, b, c, e⟩ | ⟨R, r, a, b, c, ⟨_, _, _, g0, g4⟩, _⟩
  · exact absurd q.1 hs
  · refine ⟨[], .lost, by rw [q.2.2]; rfl, .inl (by rw [q.2.2]; rfl), ?_⟩
    rw [q.1]; simp
  · refine ⟨fullW R.length, .leave, by rw [e, List.map_append, full_pref a]; rfl, .inr ⟨[], by rw [e, List.map_append, full_pref a, b, List.append_nil]; rfl⟩, ?_⟩
    rw [q]; simp
  · have hp := full_pref b
    have hw : wl R = if R.length = 0 then .come else .move := by
      unfold wl; cases R <;> rfl
    obtain ⟨t, ht⟩ := fullW_pre (n := R.length + 1) (k := (m.route j).length) g0
    have key : ∀ (u v : List Wd), rowW (wl R) = u ++ v → fullW (m.route j).length ++ [.leave] = (fullW R.length ++ u) ++ (v ++ t ++ [.leave]) := fun u v huv => by
      rw [ht, fullW_succ, ← hw, huv]
      simp [List.append_assoc]
    have hsj : -1 ≤ sj := by omega
    have mk : ∀ (u v : List Wd) (l : List Wd) (x : Wd), (rowEv (wl R) r).map (·.2.1) = u → rowW (wl R) = u ++ v → u = l ++ [x] → x ≠ .lost ∧ x ≠ .leave → ∃ l x, (cw E j).map (·.2.1) = l ++ [x] ∧ ((cw E j).map (·.2.1) = [.lost] ∨ ∃ t, fullW (m.route j).length ++ [.leave] = (cw E j).map (·.2.1) ++ t) ∧ (-1 ≤ sj ↔ x ≠ .lost ∧ x ≠ .leave) := fun u v l x h1 h2 h3 h4 => by
      have hc : (cw E j).map (·.2.1) = fullW R.length ++ u := by rw [c, List.map_append, hp, h1]
      exact ⟨fullW R.length ++ l, x, by rw [hc, h3, List.append_assoc], .inr ⟨_, by rw [hc]; exact key u v h2⟩, ⟨fun _ => h4, fun _ => hsj⟩⟩
    have hwl : wl R ≠ .lost ∧ wl R ≠ .leave := by
      cases R with
      | nil => exact ⟨by decide, by decide⟩
      | cons x R => exact ⟨(fun z => nomatch z), (fun z => nomatch z)⟩
    rcases g4 with g | ⟨b', b1, _, _, _, b5⟩
    · exact mk [wl R] [.begin, .fin] [] (wl R) (by unfold rowEv; rw [g.1, g.2]; rfl) rfl rfl hwl
    · rcases b5 with z | ⟨z, _⟩
      · exact mk [wl R, .begin] [.fin] [wl R] .begin (by unfold rowEv; rw [b1, z]; rfl) rfl rfl ⟨by decide, by decide⟩
      · exact mk [wl R, .begin, .fin] [] [wl R, .begin] .fin (by unfold rowEv; rw [b1, z]; rfl) rfl rfl ⟨by decide, by decide⟩
section
variable {m : Mo}
theorem arriveOne_len {s : Mm} {j : Nat} : (arriveOne m s j).steps.length = s.steps.length := by
  unfold arriveOne
  split
  · split <;> exact List.length_set
  · rfl
theorem arr_sets {s : Mm} {j : Nat} (hl : j < s.steps.length) (ht : jtime m j = s.time) : (arriveOne m s j).steps.getD j 0 ≠ -1 := by
  unfold arriveOne
  rw [if_pos ht]
  split
  · rw [show (lostOne m s j).steps.getD j 0 = -3 from steps_own hl]; decide
  · rw [show (comeOne m s j).steps.getD j 0 = 0 from steps_own hl]; decide
theorem arr_rest {j : Nat} : ∀ (l : List Nat) (s : Mm), j ∉ l → (l.foldl (arriveOne m) s).steps.getD j 0 = s.steps.getD j 0
  | [], _, _ => rfl
  | i :: l, s, h => by
    have hne : j ≠ i := fun z => h (by rw [z]; exact List.mem_cons_self)
    rw [List.foldl_cons, arr_rest l _ fun z => h (List.mem_cons_of_mem _ z), arriveOne_other hne]
theorem arr_fold {j : Nat} : ∀ (l : List Nat) (s : Mm), l.Nodup → j ∈ l → j < s.steps.length → jtime m j = s.time → (l.foldl (arriveOne m) s).steps.getD j 0 ≠ -1
  | [], _, _, h, _, _ => nomatch h
  | i :: l, s, n, h, hl, ht => by
    obtain ⟨n1, n2⟩ := List.nodup_cons.mp n
    rw [List.foldl_cons]
    rcases List.mem_cons.mp h with e | e
    · subst e
      rw [arr_rest l _ n1]
      exact arr_sets hl ht
    · exact arr_fold l _ n2 e (by rw [arriveOne_len]; exact hl) (by rw [arriveOne_time]; exact ht)
/-- a job that is absent comes later -/
theorem happen_abs (hm : Mok m) {E0 : List EvT} {a : Sta} (w : SW m a) (h : Hst m E0 a) (ha : ∀ j, j < m.jo.length → a.steps.getD j 0 = -1 → a.time ≤ jtime m j) : ∀ j, j < m.jo.length → (happen m a).2.steps.getD j 0 = -1 → (happen m a).2.time ≤ jtime m j := fun j hj hs => by
  have H := SW.hap hm w
  obtain ⟨_, n2, _⟩ := w.next hm
  rw [n2]
  have hf := happen_h hm w h j hj
  have hc : cw (E0 ++ (happen m a).1) j = [] := by
    have hf : HJ m _ (E0 ++ (happen m a).1 ++ []) j _ _ _ _ := hf
    rw [List.append_nil] at hf
    rcases hf with q | q | q | ⟨R, r, q, _⟩
    · exact q.2
    · have := q.1; have hs : (happen m a).2.mm.steps.getD j 0 = -1 := hs; omega
    · have := q.1; have hs : (happen m a).2.mm.steps.getD j 0 = -1 := hs; omega
    · have hs : (happen m a).2.mm.steps.getD j 0 = -1 := hs; omega
  have hc0 : cw E0 j = [] := by
    rw [cw_app] at hc
    exact (List.append_eq_nil_iff.mp hc).1
  have h0 : a.steps.getD j 0 = -1 := by
    refine Classical.byContradiction fun z => ?_
    obtain ⟨w1, n1, l, e⟩ := hist_ne (h j hj) z
    have e : cw (E0 ++ []) j = _ := e
    rw [List.append_nil, hc0] at e
    cases e
  have hge := ha j hj h0
  by_cases hq : jtime m j = a.time
  · exfalso
    have h1 : Hs m E0 (endServices m a.mm) := end_h w.wf h
    have h2 : Hs m E0 (settle m (endServices m a.mm)) := settleN_h hm _ H.e1.1 h1
    have h3 : Hs m E0 (arrive m (settle m (endServices m a.mm))) := foldArr_h hm _ List.nodup_range (fun j hj => ⟨List.mem_range.mp hj, H.ab j (List.mem_range.mp hj)⟩) H.e2.1 h2
    have ht : (settle m (endServices m a.mm)).time = a.time := by rw [H.e2.2.tm, H.e1.2.tm]; rfl
    have hne : (arrive m (settle m (endServices m a.mm))).steps.getD j 0 ≠ -1 := arr_fold _ _ List.nodup_range (List.mem_range.mpr hj) (by rw [H.e2.1.sl]; exact hj) (by rw [ht]; exact hq)
    obtain ⟨w1, n1, l, e⟩ := hist_ne (h3 j hj) hne
    obtain ⟨l4, e4⟩ := H.e4.2.ev
    have e5 : ∃ l5, (happen m a).1 = (settle m (arrive m (settle m (endServices m a.mm)))).evs ++ l5 := by
      show ∃ l5, (blocks m _).evs = _ ++ l5
      unfold blocks
      generalize (settle m (arrive m (settle m (endServices m a.mm)))).ready = rd
      generalize settle m (arrive m (settle m (endServices m a.mm))) = s
      induction rd generalizing s with
      | nil => exact ⟨[], (List.append_nil _).symm⟩
      | cons x rd ih =>
        rw [List.foldl_cons]
        obtain ⟨l5, e⟩ := ih (blockOne m s x)
        rw [e]
        unfold blockOne
        split
        · exact ⟨[(s.time, .block, x.2, here m s.steps x.2)] ++ l5, by show (s.evs ++ [_]) ++ l5 = _; rw [List.append_assoc]⟩
        · exact ⟨l5, rfl⟩
    obtain ⟨l5, e5⟩ := e5
    rw [e5, e4, ← List.append_assoc, ← List.append_assoc, cw_app, cw_app, e] at hc
    cases hc
  · omega
theorem run_abs (hm : Mok m) : ∀ a, SO m a → Stl m a.mm (a.time - 1) → ∀ E0, Hst m E0 a → (∀ j, j < m.jo.length → a.steps.getD j 0 = -1 → a.time ≤ jtime m j) → ∀ j, j < m.jo.length → (lastOf m a).steps.getD j 0 ≠ -1 := so_ind hm fun a w st ih E0 h ha j hj => by
  rw [lastOf_eq hm w.sw]
  have hdue : jtime m j ∈ dueTimes m a := by
    unfold dueTimes jtime
    refine List.mem_append_left _ (List.mem_append_right _ (List.mem_map.mpr ⟨m.jo.getD j (0, ""), ?_, rfl⟩))
    rw [List.getD_eq_getElem?_getD, List.getElem?_eq_getElem hj]; exact List.getElem_mem hj
  cases q : nextTime m a with
  | none =>
    simp only
    exact fun z => absurd (ha j hj z) (nextTime_none q _ hdue)
  | some t =>
    simp only
    obtain ⟨_, g, g3⟩ := nextTime_some q
    refine ih t q (E0 ++ (happen m (a.at t)).1) (happen_h hm (w.sw.at g) (h.at g)) (happen_abs hm (w.sw.at g) (h.at g) fun i hi hs => ?_) j hj
    have hd2 : jtime m i ∈ dueTimes m a := by
      unfold dueTimes jtime
      refine List.mem_append_left _ (List.mem_append_right _ (List.mem_map.mpr ⟨m.jo.getD i (0, ""), ?_, rfl⟩))
      rw [List.getD_eq_getElem?_getD, List.getElem?_eq_getElem hi]; exact List.getElem_mem hi
    exact g3 _ hd2 (ha i hi hs)
theorem last_here (hm : Mok m) (h0 : ∀ j, j < m.jo.length → 0 ≤ jtime m j) : ∀ j, j < m.jo.length → (lastSta m).steps.getD j 0 ≠ -1 := run_abs hm (firstSta m) (first_so hm).1 ((first_so hm).2 _) [] first_h fun j hj _ => h0 j hj
end
end DL

/-! The last state of a run, the jobs that are stuck. -/
namespace DL
open PySem PySem.Spec PyProof.Rows L2
theorem tail_sta {a : Sta} : D.cut (eSta a) (some 1) none = some (.tup [.tup (a.wait.map fun r => .tup (r.map jD)), .tup (a.serv.map fun r => .tup (r.map ePr)), .tup (a.ready.map ePr), .tup (a.steps.map .int)]) := by
  have h1 : ∀ xs : List D, cutL xs (some (1 : Int)) none = xs.drop 1 := fun xs => by
    unfold cutL HT.sIx
    simp only
    rw [if_neg (by decide)]
    by_cases h : 1 ≤ xs.length
    · rw [Nat.min_eq_left (by simpa using h), List.take_of_length_le (by rw [List.length_drop]; omega)]; rfl
    · have : xs = [] := List.eq_nil_of_length_eq_zero (by omega)
      rw [this]; rfl
  exact congrArg (fun x => some (D.tup x)) (h1 _)
theorem at_sta {a : Sta} {t : Int} : D.add (.tup [.int t]) (.tup [.tup (a.wait.map fun r => .tup (r.map jD)), .tup (a.serv.map fun r => .tup (r.map ePr)), .tup (a.ready.map ePr), .tup (a.steps.map .int)]) = some (eSta (a.at t)) := by
  unfold D.add
  simp only
  rw [if_pos (by simp)]
  rfl
theorem last_ok {m : Mo} (hm : Mok m) : F_last_state [eMo m] = some (eSta (lastSta m)) := by
  have w := first_sw hm
  refine call_ok rfl ?_
  unfold B_last_state
  simp only [List.map_cons, List.map_nil, List.cons_append, List.nil_append, List.replicate]
  refine seq_set.mpr ⟨eSta (firstSta m), by simp [first_ok], ?_⟩
  simp only [List.set_cons_succ, List.set_cons_zero]
  refine seq_set.mpr ⟨eOt (nextTime m (firstSta m)), by simp [next_ok' hm w], ?_⟩
  simp only [List.set_cons_succ, List.set_cons_zero]
  have hd := due_le hm w
  refine seq_wh (fun k ρ => ∃ b o3, ρ = [some (eMo m), some (eSta b), some (eOt (nextTime m b)), o3] ∧ SW m b ∧ k = due m b ∧ lastOf m b = lastSta m) (due m (firstSta m)) (by omega) ⟨firstSta m, none, rfl, w, rfl, rfl⟩ ?_
  rintro k ρ ⟨b, o3, rfl, wb, rfl, he⟩
  simp only [fgt_c, fgt_n, List.set_cons_succ, List.set_cons_zero]
  have hte := lastOf_eq hm wb
  cases q : nextTime m b with
  | none =>
    rw [q] at hte
    simp only at hte
    refine ⟨false, by simp [eOt, D.notN, D.isN, D.isNon], (fun hc => by cases hc), fun _ => ?_⟩
    refine ok_ret.mpr ⟨eSta (lastSta m), ?_, rfl⟩
    rw [← he, hte]
    rfl
  | some u =>
    rw [q] at hte
    simp only at hte
    obtain ⟨_, g2, _⟩ := nextTime_some q
    have wt := wb.at g2
    obtain ⟨w1, _, _⟩ := wt.next hm
    have hlt := due_lt hm wb q
    refine ⟨true, by simp [eOt, D.notN, D.isN, D.isNon], fun _ => ?_, (fun hc => by cases hc)⟩
    refine seq_tgt.mpr ⟨.tup [eEvs (happen m (b.at u)).1, eSta (happen m (b.at u)).2], _, ?_, rfl, ?_⟩
    · have hm1 : D.mkT [.int u] = some (.tup [.int u]) := mkT_of (by simp)
      simp only [d2_ap, dN_ap, aC_ap, aN_ap, dCut, oSo, oNo_ap, dC_ap, dV_ap, List.getElem?_cons_zero, List.getElem?_cons_succ, Option.join_some, Option.bind_some, eOt, hm1, tail_sta, at_sta, happen_ok hm wt]
      rfl
    simp only [setAll_c, setAll_n, List.set_cons_succ, List.set_cons_zero]
    refine ok_set.mpr ⟨eOt (nextTime m (happen m (b.at u)).2), by simp [next_ok' hm w1], ?_⟩
    exact ⟨due m (happen m (b.at u)).2, hlt, (happen m (b.at u)).2, _, rfl, w1, rfl, by rw [← hte]; exact he⟩
def stuckT (m : Mo) : List Nat := (List.range m.jo.length).filter fun j => decide (-1 ≤ (lastSta m).steps.getD j 0)
theorem stuck_ok {m : Mo} (hm : Mok m) : F_stuck [eMo m] = some (.lst ((stuckT m).map jD)) := by
  have w := (trace_h hm).so.sw
  have hsl : (lastSta m).steps.length = m.jo.length := w.wf.sl
  have hj := hm.njo
  refine call_ok rfl ?_
  unfold B_stuck
  simp only [List.map_cons, List.map_nil, List.cons_append, List.nil_append, List.replicate]
  have i4 : D.idx (eSta (lastSta m)) (.int 4) = some (.tup ((lastSta m).steps.map .int)) := by
    unfold eSta
    rw [idx_tup]
    exact atI_nat (xs := [_, _, _, _, _]) (k := 4) (by simp)
  refine seq_set.mpr ⟨.tup ((lastSta m).steps.map .int), by simp only [d2_ap, dN_ap, aC_ap, aN_ap, dC_ap, dV_ap, List.getElem?_cons_zero, Option.join_some, Option.bind_some, last_ok hm, i4], ?_⟩
  simp only [List.set_cons_succ, List.set_cons_zero]
  refine ok_ret.mpr ⟨.lst ((stuckT m).map jD), ?_, rfl⟩
  refine dLc_filter jD jD (fun j => decide (-1 ≤ (lastSta m).steps.getD j 0)) (List.range m.jo.length) ?_ fun j hj => ⟨_, rfl, ?_, fun _ => ?_⟩
  · rw [iRg1_ap]
    simp only [dN_ap, aC_ap, aN_ap, dV_ap, List.getElem?_cons_succ, List.getElem?_cons_zero, Option.join_some, Option.bind_some, len_tup, List.length_map, hsl]
    rw [if_pos (by omega)]
    show some ((List.range _).map _) = _
    rw [Int.toNat_natCast]
    congr 1
    refine List.map_congr_left fun i _ => ?_
    show D.int (0 + (i : Int)) = D.int (i : Int)
    rw [Int.zero_add]
  · have hl : j < m.jo.length := List.mem_range.mp hj
    have : D.idx (.tup ((lastSta m).steps.map .int)) (jD j) = some (.int ((lastSta m).steps.getD j 0)) := by
      rw [idx_tup, atI_nat (by simp [hsl]; omega), List.getElem?_map, List.getD_eq_getElem?_getD, List.getElem?_eq_getElem (by rw [hsl]; exact hl)]; rfl
    simp only [t2_ap, d2_ap, d1_ap, dC_ap, dV_ap, wipeE, List.set_cons_succ, List.set_cons_zero, List.foldl_cons, List.foldl_nil, List.getElem?_cons_succ, List.getElem?_cons_zero, Option.join_some, Option.bind_some, this, neg_int, geB_int]
  · simp [wipeE]
end DL

/-! Each event tells of a job and a station of the model. -/
namespace DL
open PySem PySem.Spec PyProof.Rows L2
def Evk (m : Mo) (e : EvT) : Prop := e.2.2.1 < m.jo.length ∧ e.2.2.2 ∈ m.names
def Evks (m : Mo) (s : Mm) : Prop := ∀ e ∈ s.evs, Evk m e
section
variable {m : Mo}
theorem Evks.put {s s' : Mm} {w : Wd} {j : Nat} {n : Str} (h : Evks m s) (he : s'.evs = s.evs ++ [(s.time, w, j, n)]) (hj : j < m.jo.length) (hn : n ∈ m.names) : Evks m s' := fun e z => by
  rw [he] at z
  rcases List.mem_append.mp z with z | z
  · exact h e z
  · rw [List.mem_singleton.mp z]; exact ⟨hj, hn⟩
theorem here_mem (hm : Mok m) {st : List Int} {j : Nat} (v : VS m st j) : here m st j ∈ m.names := by
  obtain ⟨kd, hk1, hk2⟩ := hm.kind v.1
  refine (hm.rt kd hk2).2.2 _ ?_
  have h2 := v.mem
  unfold Mo.route at h2
  rw [hk1] at h2
  exact h2
theorem station_mem {p : Nat} (hp : p < m.st.length) : (m.station p).1 ∈ m.names := by
  unfold Mo.station Mo.names
  rw [List.getD_eq_getElem?_getD, List.getElem?_eq_getElem hp]
  exact List.mem_map.mpr ⟨_, List.getElem_mem hp, rfl⟩
theorem goOn_e (hm : Mok m) {s : Mm} (w : WF m s) {x : Int × Nat} (hx : x ∈ s.ready) (h : Evks m s) : Evks m (goOn m s x) := by
  have v := w.rv x hx
  unfold goOn
  split
  · exact h.put rfl v.1 (here_mem hm v)
  split
  · exact h
  · rename_i hk _
    exact h.put rfl v.1 (nextSt_mem hm v hk)
theorem foldGo_e (hm : Mok m) : ∀ (l : List (Int × Nat)) {s : Mm}, WF m s → l.Nodup → (∀ x ∈ l, x ∈ s.ready) → Evks m s → Evks m (l.foldl (goOn m) s)
  | [], _, _, _, _, h => h
  | x :: l, s, w, n, hl, h => by
    obtain ⟨n1, n2⟩ := List.nodup_cons.mp n
    have hx := hl x (by simp)
    exact foldGo_e hm l (goOn_wf hm w hx).1 n2 (fun y hy => goOn_ready (hl y (by simp [hy])) fun z => n1 (z ▸ hy)) (goOn_e hm w hx h)
theorem wait_lt {s : Mm} (w : WF m s) {p j : Nat} (hj : j ∈ waitAt s p) : j < m.jo.length := by
  unfold waitAt at hj
  rw [List.getD_eq_getElem?_getD] at hj
  cases q : s.wait[p]? with
  | none => rw [q] at hj; cases hj
  | some r => rw [q] at hj; exact (w.wv r (List.mem_of_getElem? q) j hj).1
theorem beginN_e {p : Nat} (hp : p < m.st.length) : ∀ (k : Nat) {s : Mm}, WF m s → Evks m s → Evks m (beginN m p k s)
  | 0, _, _, h => h
  | k + 1, s, w, h => by
    unfold beginN
    split
    · rename_i hc
      have h0 : 0 < (waitAt s p).length := by
        unfold canBegin at hc
        simp only [Bool.and_eq_true, decide_eq_true_eq] at hc
        exact hc.1
      exact beginN_e hp k (beginOne_wf w hp h0).1 (h.put rfl (wait_lt w (chosen_mem (m := m) h0)) (station_mem hp))
    · exact h
theorem beginAt_e {p : Nat} (hp : p < m.st.length) {s : Mm} (w : WF m s) (h : Evks m s) : Evks m (beginAt m s p) := by
  unfold beginAt
  split
  · exact h
  · exact beginN_e hp (waitAt s p).length w h
theorem foldBegin_e : ∀ (l : List Nat) {s : Mm}, (∀ p ∈ l, p < m.st.length) → WF m s → Evks m s → Evks m (l.foldl (beginAt m) s)
  | [], _, _, _, h => h
  | p :: l, s, hl, w, h => foldBegin_e l (fun q hq => hl q (List.mem_cons_of_mem _ hq)) (beginAt_wf (hl p (by simp)) w).1 (beginAt_e (hl p (by simp)) w h)
theorem round_e (hm : Mok m) {s : Mm} (w : WF m s) (h : Evks m s) : Evks m (round m s) :=
  foldBegin_e _ (fun p hp => List.mem_range.mp hp) (roundGo_wf hm w).1 (foldGo_e hm _ w w.rnd (fun _ z => z) h)
theorem settleN_e (hm : Mok m) : ∀ (k : Nat) {s : Mm}, WF m s → Evks m s → Evks m (settleN m k s)
  | 0, _, _, h => h
  | k + 1, s, w, h => by
    unfold settleN
    split
    · exact settleN_e hm k (round_wf hm w).1 (round_e hm w h)
    · exact round_e hm w h
theorem endFold_e (hm : Mok m) : ∀ (l : List Nat) {s : Mm}, EndI m l s → Evks m s → Evks m (l.foldl (endOne m) s)
  | [], _, _, h => h
  | j :: l, s, e, h => endFold_e hm l (endOne_i e) (h.put rfl (e.vs j (by simp)).1 (here_mem hm (e.vs j (by simp))))
theorem end_e (hm : Mok m) {s : Mm} (w : WF m s) (h : Evks m s) : Evks m (endServices m s) := by
  obtain ⟨e, _⟩ := end_start w
  exact endFold_e hm _ e h
theorem arriveOne_e (hm : Mok m) {s : Mm} {j : Nat} (hj : j < m.jo.length) (h : Evks m s) : Evks m (arriveOne m s j) := by
  have hn := firstSt_mem hm hj
  unfold arriveOne
  split
  · split
    · exact h.put rfl hj hn
    · exact h.put rfl hj hn
  · exact h
theorem foldArr_e (hm : Mok m) : ∀ (l : List Nat) {s : Mm}, (∀ j ∈ l, j < m.jo.length) → Evks m s → Evks m (l.foldl (arriveOne m) s)
  | [], _, _, h => h
  | j :: l, s, hl, h => foldArr_e hm l (fun i hi => hl i (by simp [hi])) (arriveOne_e hm (hl j (by simp)) h)
theorem foldBlock_e (hm : Mok m) : ∀ (l : List (Int × Nat)) {s : Mm}, (∀ x ∈ l, VS m s.steps x.2) → Evks m s → Evks m (l.foldl (blockOne m) s)
  | [], _, _, h => h
  | x :: l, s, hl, h => by
    have hx := hl x (by simp)
    refine foldBlock_e hm l (s := blockOne m s x) (fun y hy => ?_) ?_
    · rw [(blockOne_same (m := m) (s := s) (x := x)).2.2.2.1]; exact hl y (by simp [hy])
    · unfold blockOne
      split
      · exact h.put rfl hx.1 (here_mem hm hx)
      · exact h
theorem happen_e (hm : Mok m) {a : Sta} (w : SW m a) : ∀ e ∈ (happen m a).1, Evk m e := by
  have H := SW.hap hm w
  have h1 : Evks m (endServices m a.mm) := end_e hm w.wf fun e z => nomatch z
  have h2 : Evks m (settle m (endServices m a.mm)) := settleN_e hm _ H.e1.1 h1
  have h3 : Evks m (arrive m (settle m (endServices m a.mm))) := foldArr_e hm _ (fun j hj => List.mem_range.mp hj) h2
  have h4 : Evks m (settle m (arrive m (settle m (endServices m a.mm)))) := settleN_e hm _ H.e3.1 h3
  exact foldBlock_e hm _ H.e4.1.rv h4
theorem run_e (hm : Mok m) : ∀ a, SO m a → Stl m a.mm (a.time - 1) → ∀ E0, (∀ e ∈ E0, Evk m e) → ∀ e ∈ E0 ++ run m a, Evk m e := so_ind hm fun a w st ih E0 h => by
  rw [run_eq hm w.sw]
  cases q : nextTime m a with
  | none => simp only; rw [List.append_nil]; exact h
  | some t =>
    simp only
    obtain ⟨_, g, _⟩ := nextTime_some q
    have := ih t q (E0 ++ (happen m (a.at t)).1) (fun e z => by
      rcases List.mem_append.mp z with z | z
      · exact h e z
      · exact happen_e hm (w.at g).sw e z)
    rw [List.append_assoc] at this
    exact this
theorem trace_e (hm : Mok m) : ∀ e ∈ trace m, Evk m e := run_e hm (firstSta m) (first_so hm).1 ((first_so hm).2 _) [] fun _ z => nomatch z
end
end DL

/-! Everybody leaves just if as many leave as there are jobs. -/
namespace DL
open PySem PySem.Spec PyProof.Rows L2
def isW (w : Wd) (e : EvT) : Bool := decide (e.2.1 = w)
def isH (w : Wd) (e : HE) : Bool := decide (e.2.1 = w)
def outW (w : Wd) : Prop := w ≠ .leave ∧ w ≠ .lost
theorem oEv_out {o : Option Int} {w : Wd} {n : Str} (h : outW w) : ∀ e ∈ oEv o w n, outW e.2.1 := fun e he => by
  cases o with
  | none => cases he
  | some t => rw [List.mem_singleton.mp he]; exact h
theorem rowEv_out {w0 : Wd} {r : Row} (h : outW w0) : ∀ e ∈ rowEv w0 r, outW e.2.1 := fun e he => by
  unfold rowEv at he
  rcases List.mem_cons.mp he with rfl | he
  · exact h
  · rcases List.mem_append.mp he with he | he
    · exact oEv_out ⟨by decide, by decide⟩ e he
    · exact oEv_out ⟨by decide, by decide⟩ e he
theorem pref_out : ∀ {R : List Row} {w0 : Wd}, outW w0 → ∀ e ∈ pref w0 R, outW e.2.1
  | [], _, _, e, he => nomatch he
  | r :: R, w0, h, e, he => by
    unfold pref at he
    rcases List.mem_append.mp he with he | he
    · exact rowEv_out h e he
    · exact pref_out ⟨by decide, by decide⟩ e he
theorem wl_out (R : List Row) : outW (wl R) := by
  unfold wl
  split <;> exact ⟨by decide, by decide⟩
theorem filt_out {l : List HE} (h : ∀ e ∈ l, outW e.2.1) : l.filter (isH .leave) = [] ∧ l.filter (isH .lost) = [] :=
  ⟨List.filter_eq_nil_iff.mpr fun e he => by unfold isH; simpa using (h e he).1, List.filter_eq_nil_iff.mpr fun e he => by unfold isH; simpa using (h e he).2⟩
section
variable {m : Mo} {E : List EvT} {j : Nat} {sj T : Int} {W : Nat → Prop} {V : Nat → Int → Prop} {Rd : Int → Prop}
theorem hj_left (h : HJ m T E j sj W V Rd) : ((cw E j).filter (isH .leave)).length = (if sj = -2 then 1 else 0) ∧ ((cw E j).filter (isH .lost)).length = (if sj = -3 then 1 else 0) ∧ (sj = -1 ∨ sj = -3 ∨ sj = -2 ∨ 0 ≤ sj) := by
  rcases h with q | q | ⟨q, R, w, a, b, c, e⟩ | ⟨R, r, a, b, c, _⟩
  · rw [q.2, q.1]; exact ⟨rfl, rfl, .inl rfl⟩
  · rw [q.2.2, q.1]; exact ⟨rfl, rfl, .inr (.inl rfl)⟩
  · obtain ⟨h1, h2⟩ := filt_out (pref_out (R := R) (w0 := .come) ⟨by decide, by decide⟩)
    rw [e, q, List.filter_append, List.filter_append, h1, h2]
    exact ⟨rfl, rfl, .inr (.inr (.inl rfl))⟩
  · obtain ⟨h1, h2⟩ := filt_out (l := pref .come R ++ rowEv (wl R) r) fun e he => by
      rcases List.mem_append.mp he with z | z
      · exact pref_out ⟨by decide, by decide⟩ e z
      · exact rowEv_out (wl_out R) e z
    rw [c, h1, h2, if_neg (by omega), if_neg (by omega)]
    exact ⟨rfl, rfl, .inr (.inr (.inr (by omega)))⟩
end
theorem count_cw (w : Wd) (hw : w ≠ .block) (j : Nat) : ∀ E : List EvT, ((E.filter (isW w)).map (·.2.2.1)).count j = ((cw E j).filter (isH w)).length
  | [] => rfl
  | e :: E => by
    have ih := count_cw w hw j E
    have hc : cw (e :: E) j = (if cwk j e = true then [cwe e] else []) ++ cw E j := by
      unfold cw
      by_cases h : cwk j e = true
      · rw [List.filter_cons_of_pos h, if_pos h]; rfl
      · rw [List.filter_cons_of_neg h, if_neg h]; rfl
    rw [hc, List.filter_append, List.length_append, ← ih]
    by_cases h1 : e.2.1 = w
    · rw [List.filter_cons_of_pos (by simp [isW, h1]), List.map_cons, List.count_cons]
      by_cases h2 : e.2.2.1 = j
      · rw [if_pos (show cwk j e = true by unfold cwk; rw [h1]; simp [h2, hw])]
        have : ([cwe e].filter (isH w)).length = 1 := by
          rw [List.filter_cons_of_pos (by simp [isH, cwe, h1])]; rfl
        rw [this]
        simp [h2]
        omega
      · rw [if_neg (show ¬ cwk j e = true by unfold cwk; simp [h2])]
        simp [h2]
    · rw [List.filter_cons_of_neg (by simp [isW, h1])]
      have : ((if cwk j e = true then [cwe e] else []).filter (isH w)).length = 0 := by
        split
        · rw [List.filter_cons_of_neg (by simp [isH, cwe, h1])]; rfl
        · rfl
      rw [this]; omega
def leaves (m : Mo) : List EvT := (trace m).filter (isW .leave)
def losts (m : Mo) : List EvT := (trace m).filter (isW .lost)
theorem end_cnt {m : Mo} (hm : Mok m) {j : Nat} (hj : j < m.jo.length) : ((leaves m).map (·.2.2.1)).count j = (if (lastSta m).steps.getD j 0 = -2 then 1 else 0) ∧ ((losts m).map (·.2.2.1)).count j = (if (lastSta m).steps.getD j 0 = -3 then 1 else 0) ∧ ((lastSta m).steps.getD j 0 = -1 ∨ (lastSta m).steps.getD j 0 = -3 ∨ (lastSta m).steps.getD j 0 = -2 ∨ 0 ≤ (lastSta m).steps.getD j 0) := by
  have hh := (trace_h hm).hs j hj
  have hE0 : trace m ++ (lastSta m).mm.evs = trace m := List.append_nil _
  rw [hE0] at hh
  have := hj_left hh
  unfold leaves losts
  rw [count_cw _ (by decide), count_cw _ (by decide)]
  exact this
theorem mem_count {l : List Nat} {j : Nat} : j ∈ l ↔ 0 < l.count j := List.count_pos_iff.symm
theorem nd_count {l : List Nat} (h : ∀ j ∈ l, l.count j ≤ 1) : l.Nodup := by
  induction l with
  | nil => exact List.nodup_nil
  | cons x l ih =>
    refine List.nodup_cons.mpr ⟨fun hx => ?_, ih fun j hj => ?_⟩
    · have := h x (by simp)
      rw [List.count_cons_self] at this
      have := mem_count.mp hx
      omega
    · have := h j (by simp [hj])
      rw [List.count_cons] at this
      omega
theorem nd_len {n : Nat} {l : List Nat} (nd : l.Nodup) (h : ∀ j, j < n → j ∈ l) : n ≤ l.length := by
  induction n generalizing l with
  | zero => omega
  | succ n ih =>
    have hn := h n (by omega)
    have h1 := ih (l := l.erase n) (nd.erase n) fun j hj => (List.mem_erase_of_ne (by omega)).mpr (h j (by omega))
    rw [List.length_erase_of_mem hn] at h1
    have := List.length_pos_of_mem hn
    omega
theorem all_left {m : Mo} (hm : Mok m) (h0 : ∀ j, j < m.jo.length → 0 ≤ jtime m j) (hn : 0 < m.jo.length) : (trace m ≠ [] ∧ losts m = [] ∧ stuckT m = []) ↔ (leaves m).length = m.jo.length := by
  have hE := trace_e hm
  have hlt : ∀ j ∈ (leaves m).map (·.2.2.1), j < m.jo.length := fun j hj => by
    obtain ⟨e, he, rfl⟩ := List.mem_map.mp hj
    exact (hE e (List.mem_filter.mp he).1).1
  have nd : ((leaves m).map (·.2.2.1)).Nodup := nd_count fun j hj => by
    rw [(end_cnt hm (hlt j hj)).1]; split <;> omega
  have hla := last_here hm h0
  constructor
  · rintro ⟨_, h2, h3⟩
    have hs : ∀ j, j < m.jo.length → j ∈ (leaves m).map (·.2.2.1) := fun j hj => by
      obtain ⟨c1, c2, c3⟩ := end_cnt hm hj
      have g2 : (lastSta m).steps.getD j 0 ≠ -3 := fun z => by
        rw [h2, if_pos z] at c2
        simp at c2
      have g3 : ¬ (-1 ≤ (lastSta m).steps.getD j 0) := fun z => by
        have : j ∈ stuckT m := List.mem_filter.mpr ⟨List.mem_range.mpr hj, by simpa using z⟩
        rw [h3] at this
        cases this
      have g1 := hla j hj
      rw [mem_count, c1, if_pos (by omega)]
      omega
    have h4 := nd_len nd hs
    have h5 := nodup_le nd hlt
    rw [List.length_map] at h4 h5
    omega
  · intro h
    have hs : ∀ j, j < m.jo.length → (lastSta m).steps.getD j 0 = -2 := fun j hj => by
      obtain ⟨c1, _, _⟩ := end_cnt hm hj
      by_cases z : (lastSta m).steps.getD j 0 = -2
      · exact z
      · rw [if_neg z] at c1
        have hnm : j ∉ (leaves m).map (·.2.2.1) := fun y => by
          have := mem_count.mp y
          omega
        have := nodup_le (l := j :: (leaves m).map (·.2.2.1)) (List.nodup_cons.mpr ⟨hnm, nd⟩) fun x hx => by
          rcases List.mem_cons.mp hx with rfl | hx
          · exact hj
          · exact hlt x hx
        rw [List.length_cons, List.length_map] at this
        omega
    refine ⟨fun z => ?_, ?_, ?_⟩
    · unfold leaves at h
      rw [z] at h
      simp at h
      omega
    · cases q : losts m with
      | nil => rfl
      | cons e l =>
        have he : e ∈ losts m := by rw [q]; simp
        have hj := (hE e (List.mem_filter.mp he).1).1
        obtain ⟨_, c2, _⟩ := end_cnt hm hj
        have h1 := hs _ hj
        rw [if_neg (by omega)] at c2
        have := mem_count.mp (List.mem_map.mpr ⟨e, he, rfl⟩ : e.2.2.1 ∈ (losts m).map (·.2.2.1))
        omega
    · unfold stuckT
      refine List.filter_eq_nil_iff.mpr fun j hj => ?_
      have := hs j (List.mem_range.mp hj)
      simp only [decide_eq_true_eq]
      omega
end DL

/-! steps_at, work, station_bound, job_bound: what they compute. -/
namespace DL
open PySem PySem.Spec PyProof.Rows L2
theorem cut_toL (xs : List D) (k : Nat) : D.cut (.lst xs) none (some (k : Int)) = some (.lst (xs.take k)) := by
  show some (D.lst (cutL _ _ _)) = _
  rw [cutL_to]
theorem cut_fromL (xs : List D) (k : Nat) : D.cut (.lst xs) (some (k : Int)) none = some (.lst (xs.drop k)) := by
  show some (D.lst (cutL _ _ _)) = _
  rw [cutL_from]
theorem sum_map {α : Type} (f : α → Int) (l : List α) : D.sum1 [.lst (l.map fun x => .int (f x))] = some (.int (l.map f).sum) := by
  unfold D.sum1
  simp only
  rw [ints_map]
  rfl
theorem min_map {α : Type} (f : α → Int) (l : List α) (h : l ≠ []) : D.min1 [.lst (l.map fun x => .int (f x))] = some (.int (minI (l.map f))) := by
  unfold D.min1
  simp only
  rw [ints_map, Option.bind_some, if_neg (by simpa using h)]
def lens (m : Mo) (j : Nat) : List Int := (m.route j).map (·.2)
def visI (m : Mo) (N : Str) (j i : Nat) : List (Int × Int × Int) := if ((m.route j).getD i ("", 0)).1 = N then [(jtime m j + ((lens m j).take i).sum, ((m.route j).getD i ("", 0)).2, ((lens m j).drop (i + 1)).sum)] else []
def visJ (m : Mo) (N : Str) (j n : Nat) : List (Int × Int × Int) := (List.range n).flatMap (visI m N j)
def visN (m : Mo) (N : Str) (k : Nat) : List (Int × Int × Int) := (List.range k).flatMap fun j => visJ m N j (m.route j).length
def vis (m : Mo) (N : Str) : List (Int × Int × Int) := visN m N m.jo.length
def eV (x : Int × Int × Int) : D := .tup [.int x.1, .int x.2.1, .int x.2.2]
theorem visJ_succ (m : Mo) (N : Str) (j n : Nat) : visJ m N j (n + 1) = visJ m N j n ++ visI m N j n := by
  unfold visJ
  rw [List.range_succ, List.flatMap_append]
  simp
theorem visN_succ (m : Mo) (N : Str) (k : Nat) : visN m N (k + 1) = visN m N k ++ visJ m N k (m.route k).length := by
  unfold visN
  rw [List.range_succ, List.flatMap_append]
  simp
theorem visI_len (m : Mo) (N : Str) (j i : Nat) : (visI m N j i).length ≤ 1 := by
  unfold visI
  split <;> simp
theorem visJ_len (m : Mo) (N : Str) (j : Nat) : ∀ n, (visJ m N j n).length ≤ n
  | 0 => Nat.le_refl _
  | n + 1 => by
    rw [visJ_succ, List.length_append]
    have := visJ_len m N j n
    have := visI_len m N j n
    omega
theorem route_l {m : Mo} (hm : Mok m) {j : Nat} (hj : j < m.jo.length) : 0 < (m.route j).length ∧ (m.route j).length ≤ 10 := by
  obtain ⟨kd, hk1, hk2⟩ := hm.kind hj
  have h := hm.rt kd hk2
  unfold Mo.route
  rw [hk1]
  exact ⟨List.length_pos_iff.mpr h.1, h.2.1⟩
theorem visN_len {m : Mo} (hm : Mok m) (N : Str) : ∀ k, k ≤ m.jo.length → (visN m N k).length ≤ 10 * k
  | 0, _ => Nat.le_refl _
  | k + 1, h => by
    rw [visN_succ, List.length_append]
    have := visN_len hm N k (by omega)
    have := visJ_len m N k (m.route k).length
    have := (route_l hm (j := k) (by omega)).2
    omega
theorem step_atR {m : Mo} {j i : Nat} (hi : i < (m.route j).length) : D.idx (.tup ((m.route j).map eStep)) (jD i) = some (eStep ((m.route j).getD i ("", 0))) := by
  show atI _ (i : Int) = _
  rw [atI_nat (by simpa using hi), List.getElem?_map, List.getD_eq_getElem?_getD, List.getElem?_eq_getElem hi]; rfl
theorem len_atR {m : Mo} {j i : Nat} (hi : i < (m.route j).length) : D.idx (.lst ((m.route j).map fun s => .int s.2)) (jD i) = some (.int ((m.route j).getD i ("", 0)).2) := by
  show atI _ (i : Int) = _
  rw [atI_nat (by simpa using hi), List.getElem?_map, List.getD_eq_getElem?_getD, List.getElem?_eq_getElem hi]; rfl
theorem eStepI1 (x : Str × Int) : D.idx (eStep x) (.int 1) = some (.int x.2) := by simp [eStep]
theorem eJo0' (x : JoT) : D.idx (eJo x) (.int 0) = some (.int x.1) := by simp [eJo]
theorem steps_at_ok {m : Mo} (hm : Mok m) (N : Str) : F_steps_at [eMo m, .str N] = some (.lst ((vis m N).map eV)) := by
  have hnj := hm.njo
  refine call_ok rfl ?_
  unfold B_steps_at
  simp only [List.map_cons, List.map_nil, List.cons_append, List.nil_append, List.replicate]
  refine seq_set.mpr ⟨.lst [], by simp only [dN_ap, aN_ap, Option.bind_some, mkLF_nil], ?_⟩
  simp only [List.set_cons_succ, List.set_cons_zero]
  refine seq_rg m.jo.length (fun k ρ => ∃ o3 o4 o5 o6 o7, ρ = [some (eMo m), some (.str N), some (.lst ((visN m N k).map eV)), o3, o4, o5, o6, o7, none, none]) ?_ ⟨_, _, _, _, _, rfl⟩ ?_ ?_
  · rw [iRg1_ap]
    simp only [dN_ap, d2_ap, aC_ap, aN_ap, dC_ap, dV_ap, List.getElem?_cons_succ, List.getElem?_cons_zero, Option.join_some, Option.bind_some, idx3, len_tup, List.length_map]
    rw [if_pos (by omega), Int.toNat_natCast]
  · rintro j ρ hj ⟨o3, o4, o5, o6, o7, rfl⟩
    have hr := route_l hm hj
    have hjt : D.idx (.tup (m.jo.map eJo)) (.int (j : Int)) = some (eJo (m.jo.getD j (0, ""))) := jo_at hj
    have hvl := visN_len hm N j (by omega)
    refine ⟨_, rfl, ?_⟩
    simp only [fgt_c, fgt_n, List.set_cons_succ, List.set_cons_zero]
    refine seq_set.mpr ⟨.tup ((m.route j).map eStep), ?_, ?_⟩
    · simp only [dN_ap, aC_ap, aN_ap, dV_ap, List.getElem?_cons_succ, List.getElem?_cons_zero, Option.join_some, Option.bind_some]
      exact route_ok hj
    simp only [List.set_cons_succ, List.set_cons_zero]
    refine seq_set.mpr ⟨.lst ((m.route j).map fun s => .int s.2), ?_, ?_⟩
    · refine dLc_map eStep (fun s => .int s.2) (m.route j) ?_ fun s hs => ⟨_, rfl, rfl, ?_⟩
      · simp only [dItems_ap, dV_ap, List.getElem?_cons_succ, List.getElem?_cons_zero, Option.join_some, Option.bind_some]
        rfl
      · simp [wipeE]
    simp only [List.set_cons_succ, List.set_cons_zero]
    refine ok_rg (m.route j).length (fun i ρ => ∃ o6 o7, ρ = [some (eMo m), some (.str N), some (.lst ((visN m N j ++ visJ m N j i).map eV)), some (.int (j : Int)), some (.tup ((m.route j).map eStep)), some (.lst ((m.route j).map fun s => .int s.2)), o6, o7, none, none]) ?_ ⟨none, none, by rw [show visJ m N j 0 = [] from rfl, List.append_nil]⟩ ?_ ?_
    · rw [iRg1_ap]
      simp only [dN_ap, aC_ap, aN_ap, dV_ap, List.getElem?_cons_succ, List.getElem?_cons_zero, Option.join_some, Option.bind_some, len_tup, List.length_map]
      rw [if_pos (by omega), Int.toNat_natCast]
    · rintro i ρ hi ⟨o6, o7, rfl⟩
      have hs : D.idx (.tup ((m.route j).map eStep)) (.int (i : Int)) = _ := step_atR hi
      have hln : D.idx (.lst ((m.route j).map fun s => .int s.2)) (.int (i : Int)) = _ := len_atR hi
      have hvj := visJ_len m N j i
      refine ⟨_, rfl, ?_⟩
      simp only [fgt_c, fgt_n, List.set_cons_succ, List.set_cons_zero]
      rw [visJ_succ]
      have ht : ∀ o6 o7 : Option D, (t2 D.eqB (d2 D.idx (d2 D.idx (dV 4) (dV 6)) (dC (.int 0))) (dV 1)) [some (eMo m), some (.str N), some (.lst ((visN m N j ++ visJ m N j i).map eV)), some (.int (j : Int)), some (.tup ((m.route j).map eStep)), some (.lst ((m.route j).map fun s => .int s.2)), some (.int (i : Int)), o7, none, none] = some (decide (((m.route j).getD i ("", 0)).1 = N)) := fun o6 o7 => by
        simp only [t2_ap, d2_ap, dC_ap, dV_ap, List.getElem?_cons_succ, List.getElem?_cons_zero, Option.join_some, Option.bind_some, hs, eStep0, eqB_str]
      by_cases hN : ((m.route j).getD i ("", 0)).1 = N
      · refine (ok_ifT (by rw [ht none _, decide_eq_true hN])).mpr ?_
        have e : visI m N j i = [(jtime m j + ((lens m j).take i).sum, ((m.route j).getD i ("", 0)).2, ((lens m j).drop (i + 1)).sum)] := by unfold visI; rw [if_pos hN]
        rw [e]
        have c1 : D.cut (.lst ((m.route j).map fun s => .int s.2)) none (some (i : Int)) = some (.lst (((m.route j).take i).map fun s => .int s.2)) := by rw [cut_toL, List.map_take]
        have c2 : D.cut (.lst ((m.route j).map fun s => .int s.2)) (some ((i : Int) + 1)) none = some (.lst (((m.route j).drop (i + 1)).map fun s => .int s.2)) := by
          have := cut_fromL ((m.route j).map fun s => D.int s.2) (i + 1)
          rw [← List.map_drop] at this
          exact this
        have s1 := sum_map (fun s : Str × Int => s.2) ((m.route j).take i)
        have s2 := sum_map (fun s : Str × Int => s.2) ((m.route j).drop (i + 1))
        have l1 : ((m.route j).take i).map (fun s : Str × Int => s.2) = (lens m j).take i := by unfold lens; rw [List.map_take]
        have l2 : ((m.route j).drop (i + 1)).map (fun s : Str × Int => s.2) = (lens m j).drop (i + 1) := by unfold lens; rw [List.map_drop]
        rw [l1] at s1
        rw [l2] at s2
        refine seq_set.mpr ⟨.int (jtime m j + ((lens m j).take i).sum), ?_, ?_⟩
        · simp only [d2_ap, dN_ap, aC_ap, aN_ap, dC_ap, dV_ap, dCut, oSo, oNo_ap, List.getElem?_cons_succ, List.getElem?_cons_zero, Option.join_some, Option.bind_some, idx3, hjt, eJo0', c1, s1, add_int]
          rfl
        simp only [List.set_cons_succ, List.set_cons_zero]
        refine ok_app.mpr ⟨(visN m N j ++ visJ m N j i).map eV, eV (jtime m j + ((lens m j).take i).sum, ((m.route j).getD i ("", 0)).2, ((lens m j).drop (i + 1)).sum), rfl, ?_, by rw [List.length_map, List.length_append]; omega, ?_⟩
        · have mt : ∀ a b c : Int, D.mkT [.int a, .int b, .int c] = some (.tup [.int a, .int b, .int c]) := fun a b c => mkT_of (by simp)
          simp only [dFlat_ap, d2_ap, dN_ap, aC_ap, aN_ap, dC_ap, dV_ap, dCut, oSo, oNo_ap, List.getElem?_cons_succ, List.getElem?_cons_zero, Option.join_some, Option.bind_some, hln, add_int, c2, s2, mt]
          rfl
        · simp only [List.set_cons_succ, List.set_cons_zero]
          exact ⟨_, _, by rw [← List.append_assoc, List.map_append (l₁ := visN m N j ++ visJ m N j i)]; rfl⟩
      · refine (ok_ifF (by rw [ht none _, decide_eq_false hN])).mpr ?_
        have e : visI m N j i = [] := by unfold visI; rw [if_neg hN]
        rw [e, List.append_nil, ok_nil]
        exact ⟨_, _, rfl⟩
    · rintro ρ ⟨o6, o7, rfl⟩
      simp only [fgt_c, fgt_n, List.set_cons_succ, List.set_cons_zero]
      rw [visN_succ]
      exact ⟨_, _, _, _, _, rfl⟩
  · rintro ρ ⟨o3, o4, o5, o6, o7, rfl⟩
    simp only [fgt_c, fgt_n, List.set_cons_succ, List.set_cons_zero]
    exact ok_retO.mpr ⟨.lst ((vis m N).map eV), rfl, rfl⟩
def wkT (m : Mo) (N : Str) : Int := ((vis m N).map (·.2.1)).sum
theorem eV_tp {n : Nat} : True := trivial
theorem work_ok {m : Mo} (hm : Mok m) (N : Str) : F_work [eMo m, .str N] = some (.int (wkT m N)) := by
  refine call_ok rfl ?_
  unfold B_work
  simp only [List.map_cons, List.map_nil, List.cons_append, List.nil_append, List.replicate]
  refine ok_ret.mpr ⟨.int (wkT m N), ?_, rfl⟩
  have hlc : dLc [2, 3, 4] (dItems (dN F_steps_at (aC (dV 0) (aC (dV 1) (aN))))) (.tp [2, 3, 4]) (tYs) (dFlat (dV 3)) [some (eMo m), some (.str N), none, none, none] = some (.lst ((vis m N).map fun v => .int v.2.1)) := by
    refine dLc_map eV (fun v => .int v.2.1) (vis m N) ?_ fun v hv => ⟨_, rfl, rfl, ?_⟩
    · simp only [dItems_ap, dN_ap, aC_ap, aN_ap, dV_ap, List.getElem?_cons_succ, List.getElem?_cons_zero, Option.join_some, Option.bind_some, steps_at_ok hm, its_lst]
    · simp [wipeE]
  simp only [dFlat_ap, dN_ap, aC_ap, aN_ap, hlc, Option.bind_some, sum_map]
  rfl
def sbT (m : Mo) (N : Str) (S : Int) : Option Int := if vis m N = [] then none else some (minI ((vis m N).map (·.1)) + (wkT m N + S - 1).fdiv S + minI ((vis m N).map (·.2.2)))
theorem filter_name {m : Mo} (hm : Mok m) {s : StT} (hs : s ∈ m.st) : m.st.filter (fun x => decide (x.1 = s.1)) = [s] := by
  have nd := hm.nd
  unfold Mo.names at nd
  generalize m.st = l at *
  induction l with
  | nil => cases hs
  | cons x l ih =>
    rw [List.map_cons, List.nodup_cons] at nd
    by_cases hx : x.1 = s.1
    · have : s = x := by
        rcases List.mem_cons.mp hs with z | z
        · exact z
        · exact absurd (List.mem_map.mpr ⟨s, z, rfl⟩) (hx ▸ nd.1)
      subst this
      rw [List.filter_cons_of_pos (by simp)]
      congr 1
      refine List.filter_eq_nil_iff.mpr fun y hy => ?_
      have : y.1 ≠ s.1 := fun z => nd.1 (z ▸ List.mem_map.mpr ⟨y, hy, rfl⟩)
      simpa using this
    · rw [List.filter_cons_of_neg (by simpa using hx)]
      rcases List.mem_cons.mp hs with z | z
      · exact absurd (by rw [z]) hx
      · exact ih z nd.2
theorem eSt0' (s : StT) : D.idx (eSt s) (.int 0) = some (.str s.1) := by simp [eSt]
theorem eSt1' (s : StT) : D.idx (eSt s) (.int 1) = some (.int s.2.1) := by simp [eSt]
theorem station_bound_ok {m : Mo} (hm : Mok m) {s : StT} (hs : s ∈ m.st) (hv : 1 ≤ s.2.1 ∧ s.2.1 ≤ 1000) : F_station_bound [eMo m, .str s.1] = some (eO (sbT m s.1 s.2.1)) := by
  refine call_ok rfl ?_
  unfold B_station_bound
  simp only [List.map_cons, List.map_nil, List.cons_append, List.nil_append, List.replicate]
  refine seq_set.mpr ⟨.lst ((vis m s.1).map eV), by simp only [dN_ap, aC_ap, aN_ap, dV_ap, List.getElem?_cons_succ, List.getElem?_cons_zero, Option.join_some, Option.bind_some, steps_at_ok hm], ?_⟩
  simp only [List.set_cons_succ, List.set_cons_zero]
  unfold sbT
  by_cases hz : vis m s.1 = []
  · rw [if_pos hz]
    refine seq_ok.mpr ((ok_ifT ?_).mpr ?_)
    · simp [hz]
    · exact ok_ret.mpr ⟨.non, rfl, rfl⟩
  rw [if_neg hz]
  refine seq_ok.mpr ((ok_ifF ?_).mpr ?_)
  · simp only [t2_ap, dN_ap, aC_ap, aN_ap, dC_ap, dV_ap, List.getElem?_cons_succ, List.getElem?_cons_zero, Option.join_some, Option.bind_some, len_lst, List.length_map, eqB_int]
    have := List.length_pos_iff.mpr hz
    rw [decide_eq_false (by omega)]
  rw [ok_nil]
  simp only
  refine seq_set.mpr ⟨.int s.2.1, ?_, ?_⟩
  · have hlc : dLc [4] (dItems (d2 D.idx (dV 0) (dC (.int 0)))) (.nm 4) (t2 D.eqB (d2 D.idx (dV 4) (dC (.int 0))) (dV 1)) (dFlat (d2 D.idx (dV 4) (dC (.int 1)))) [some (eMo m), some (.str s.1), some (.lst ((vis m s.1).map eV)), none, none, none, none, none, none] = some (.lst [.int s.2.1]) := by
      refine Eq.trans (dLc_filter eSt (fun x => .int x.2.1) (fun x => decide (x.1 = s.1)) m.st ?_ fun x hx => ⟨_, rfl, ?_, fun _ => ?_⟩) ?_
      · simp only [dItems_ap, d2_ap, dC_ap, dV_ap, List.getElem?_cons_succ, List.getElem?_cons_zero, Option.join_some, Option.bind_some, idx0]
        rfl
      · simp only [wipeE, List.foldl_cons, List.foldl_nil, t2_ap, d2_ap, dC_ap, dV_ap, List.set_cons_succ, List.set_cons_zero, List.getElem?_cons_succ, List.getElem?_cons_zero, Option.join_some, Option.bind_some, eSt0', eqB_str]
      · simp only [wipeE, List.foldl_cons, List.foldl_nil, dFlat_ap, d2_ap, dC_ap, dV_ap, List.set_cons_succ, List.set_cons_zero, List.getElem?_cons_succ, List.getElem?_cons_zero, Option.join_some, Option.bind_some, eSt1']
        rfl
      · rw [filter_name hm hs]; rfl
    simp only [d2_ap, dC_ap, hlc, Option.bind_some, idx_lst, atI0]
  simp only [List.set_cons_succ, List.set_cons_zero]
  refine seq_set.mpr ⟨.int ((wkT m s.1 + s.2.1 - 1).fdiv s.2.1), ?_, ?_⟩
  · have hd : D.fdiv (.int (wkT m s.1 + s.2.1 - 1)) (.int s.2.1) = _ := fdiv_int ⟨by omega, by omega⟩
    simp only [d2_ap, dN_ap, aC_ap, aN_ap, dC_ap, dV_ap, List.getElem?_cons_succ, List.getElem?_cons_zero, Option.join_some, Option.bind_some, work_ok hm, add_int, sub_int, hd]
  simp only [List.set_cons_succ, List.set_cons_zero]
  refine ok_ret.mpr ⟨.int (minI ((vis m s.1).map (·.1)) + (wkT m s.1 + s.2.1 - 1).fdiv s.2.1 + minI ((vis m s.1).map (·.2.2))), ?_, rfl⟩
  have h1 : ∀ ρ : En, ρ = [some (eMo m), some (.str s.1), some (.lst ((vis m s.1).map eV)), some (.int s.2.1), none, some (.int ((wkT m s.1 + s.2.1 - 1).fdiv s.2.1)), none, none, none] → dLc [6, 7, 8] (dItems (dV 2)) (.tp [6, 7, 8]) (tYs) (dFlat (dV 6)) ρ = some (.lst ((vis m s.1).map fun v => .int v.1)) := fun ρ hρ => by
    subst hρ
    refine dLc_map eV (fun v => .int v.1) (vis m s.1) rfl fun v hv => ⟨_, rfl, rfl, ?_⟩
    simp [wipeE]
  have h2 : ∀ ρ : En, ρ = [some (eMo m), some (.str s.1), some (.lst ((vis m s.1).map eV)), some (.int s.2.1), none, some (.int ((wkT m s.1 + s.2.1 - 1).fdiv s.2.1)), none, none, none] → dLc [6, 7, 8] (dItems (dV 2)) (.tp [6, 7, 8]) (tYs) (dFlat (dV 8)) ρ = some (.lst ((vis m s.1).map fun v => .int v.2.2)) := fun ρ hρ => by
    subst hρ
    refine dLc_map eV (fun v => .int v.2.2) (vis m s.1) rfl fun v hv => ⟨_, rfl, rfl, ?_⟩
    simp [wipeE]
  simp only [d2_ap, dN_ap, aC_ap, aN_ap]
  rw [h1 _ rfl, h2 _ rfl]
  have q1 := min_map (fun v : Int × Int × Int => v.1) (vis m s.1) hz
  have q2 := min_map (fun v : Int × Int × Int => v.2.2) (vis m s.1) hz
  simp only [Option.bind_some, q1, q2, dV_ap, List.getElem?_cons_succ, List.getElem?_cons_zero, Option.join_some, add_int, addF_int]
def jbT (m : Mo) (j : Nat) : Int := jtime m j + (lens m j).sum
theorem job_bound_ok {m : Mo} {j : Nat} (hj : j < m.jo.length) : F_job_bound [eMo m, jD j] = some (.int (jbT m j)) := by
  have hjt : D.idx (.tup (m.jo.map eJo)) (jD j) = some (eJo (m.jo.getD j (0, ""))) := jo_at hj
  refine call_ok rfl ?_
  unfold B_job_bound
  simp only [List.map_cons, List.map_nil, List.cons_append, List.nil_append, List.replicate]
  refine ok_ret.mpr ⟨.int (jbT m j), ?_, rfl⟩
  have hlc : dLc [2, 3] (dItems (dN F_route_of (aC (dV 0) (aC (dV 1) (aN))))) (.tp [2, 3]) (tYs) (dFlat (dV 3)) [some (eMo m), some (jD j), none, none] = some (.lst ((m.route j).map fun s => .int s.2)) := by
    refine dLc_map eStep (fun s => .int s.2) (m.route j) ?_ fun s hs => ⟨_, rfl, rfl, ?_⟩
    · simp only [dItems_ap, dN_ap, aC_ap, aN_ap, dV_ap, List.getElem?_cons_succ, List.getElem?_cons_zero, Option.join_some, Option.bind_some, route_ok hj]
      rfl
    · simp [wipeE]
  have s1 := sum_map (fun s : Str × Int => s.2) (m.route j)
  simp only [d2_ap, dN_ap, aC_ap, aN_ap, dC_ap, dV_ap, hlc, List.getElem?_cons_succ, List.getElem?_cons_zero, Option.join_some, Option.bind_some, idx3, hjt, eJo0', s1, addF_int]
  rfl
end DL

/-! bottleneck and slack. -/
namespace DL
open PySem PySem.Spec PyProof.Rows L2
abbrev Bst := Option (Str × D × Int)
def eB : Bst → D
  | none => .non
  | some x => .tup [.str x.1, x.2.1, .int x.2.2]
def bmax (o : Bst) (w : Str) (x : D) (b : Int) : Bst := match o with
  | none => some (w, x, b)
  | some y => if b > y.2.2 then some (w, x, b) else some y
def stS (m : Mo) (o : Bst) (s : StT) : Bst := match sbT m s.1 s.2.1 with
  | none => o
  | some b => bmax o "station" (.str s.1) b
def stJ (m : Mo) (o : Bst) (j : Nat) : Bst := bmax o "job" (jD j) (jbT m j)
def btS (m : Mo) : Bst := m.st.foldl (stS m) none
def btN (m : Mo) (k : Nat) : Bst := (List.range k).foldl (stJ m) (btS m)
def btT (m : Mo) : Bst := btN m m.jo.length
theorem bmax_some (o : Bst) (w : Str) (x : D) (b : Int) : bmax o w x b ≠ none := by
  unfold bmax
  cases o with
  | none => simp
  | some y => simp only; split <;> simp
theorem stS_some {m : Mo} {o : Bst} (h : o ≠ none) (s : StT) : stS m o s ≠ none := by
  unfold stS
  cases sbT m s.1 s.2.1 with
  | none => exact h
  | some b => exact bmax_some _ _ _ _
theorem foldS_some {m : Mo} : ∀ (l : List StT) {o : Bst}, (o ≠ none ∨ ∃ s ∈ l, sbT m s.1 s.2.1 ≠ none) → l.foldl (stS m) o ≠ none
  | [], o, h => h.elim id fun ⟨_, z, _⟩ => nomatch z
  | s :: l, o, h => by
    refine foldS_some l ?_
    rcases h with h | ⟨x, hx, hb⟩
    · exact .inl (stS_some h s)
    · rcases List.mem_cons.mp hx with rfl | hx
      · refine .inl ?_
        unfold stS
        cases q : sbT m x.1 x.2.1 with
        | none => exact absurd q hb
        | some b => exact bmax_some _ _ _ _
      · exact .inr ⟨x, hx, hb⟩
theorem btN_succ (m : Mo) (k : Nat) : btN m (k + 1) = stJ m (btN m k) k := by
  unfold btN
  rw [List.range_succ, List.foldl_append]; rfl
theorem btS_some {m : Mo} (hm : Mok m) (h : 0 < m.jo.length) : btS m ≠ none := by
  have hr := route_l hm h
  obtain ⟨kd, hk1, hk2⟩ := hm.kind h
  have hn : ((m.route 0).getD 0 ("", 0)).1 ∈ m.names := by
    have : (m.route 0).getD 0 ("", 0) ∈ kd.2.2 := by
      have e : m.route 0 = kd.2.2 := by unfold Mo.route; rw [hk1]
      rw [← e, List.getD_eq_getElem?_getD, List.getElem?_eq_getElem hr.1]
      exact List.getElem_mem hr.1
    exact (hm.rt kd hk2).2.2 _ this
  unfold Mo.names at hn
  obtain ⟨s, hs, e⟩ := List.mem_map.mp hn
  refine foldS_some _ (.inr ⟨s, hs, ?_⟩)
  unfold sbT
  rw [if_neg]
  · simp
  · intro hz
    have h1 : (jtime m 0 + ((lens m 0).take 0).sum, ((m.route 0).getD 0 ("", 0)).2, ((lens m 0).drop (0 + 1)).sum) ∈ vis m s.1 := by
      unfold vis visN
      refine List.mem_flatMap.mpr ⟨0, List.mem_range.mpr h, ?_⟩
      unfold visJ
      refine List.mem_flatMap.mpr ⟨0, List.mem_range.mpr hr.1, ?_⟩
      unfold visI
      rw [if_pos e.symm]
      simp
    rw [hz] at h1
    cases h1
theorem btN_some {m : Mo} (h : btS m ≠ none) : ∀ k, btN m k ≠ none
  | 0 => h
  | k + 1 => by rw [btN_succ]; exact bmax_some _ _ _ _
theorem eB_2 (x : Str × D × Int) : D.idx (eB (some x)) (.int 2) = some (.int x.2.2) := by simp [eB]
theorem eB_isN (o : Bst) : D.isN (eB o) .non = some (decide (o = none)) := by cases o <;> simp [eB, D.isN]
theorem eO_notN (o : Option Int) : D.notN (eO o) .non = some (decide (o ≠ none)) := by cases o <;> simp [eO, D.notN, D.isN]
structure Srv (m : Mo) : Prop where
  sv : ∀ s ∈ m.st, 1 ≤ s.2.1 ∧ s.2.1 ≤ 1000
theorem names_pure {m : Mo} : True := trivial
/-- the test of a better bound -/
theorem better_ok {ρ : En} {o : Bst} {b : Int} {i k : Nat} (h1 : dV i ρ = some (.int b)) (h2 : dV k ρ = some (eB o)) : (tOrr (t2 D.isN (dV k) (dC .non)) (t2 D.gtB (dV i) (d2 D.idx (dV k) (dC (.int 2))))) ρ = some (decide (∀ y, o = some y → y.2.2 < b)) := by
  simp only [tOrr_ap, t2_ap, d2_ap, dC_ap, h1, h2, Option.bind_some, eB_isN]
  cases o with
  | none => simp
  | some y => simp [eB_2]
theorem bmax_t {o : Bst} {w : Str} {x : D} {b : Int} (h : ∀ y, o = some y → y.2.2 < b) : bmax o w x b = some (w, x, b) := by
  unfold bmax
  cases o with
  | none => rfl
  | some y => simp only; rw [if_pos (h y rfl)]
theorem bmax_f {o : Bst} {w : Str} {x : D} {b : Int} (h : ¬ ∀ y, o = some y → y.2.2 < b) : bmax o w x b = o := by
  unfold bmax
  cases o with
  | none => exact absurd (fun y z => nomatch z) h
  | some y =>
    simp only
    rw [if_neg]
    intro z
    exact h fun y' e => by cases e; exact z
theorem mkT3 (a b c : D) : D.mkT [a, b, c] = some (.tup [a, b, c]) := mkT_of (by simp)
theorem bottleneck_ok {m : Mo} (hm : Mok m) (hv : Srv m) : F_bottleneck [eMo m] = some (eB (btT m)) := by
  have hnj := hm.njo
  refine call_ok rfl ?_
  unfold B_bottleneck
  simp only [List.map_cons, List.map_nil, List.cons_append, List.nil_append, List.replicate]
  refine seq_set.mpr ⟨.non, rfl, ?_⟩
  simp only [List.set_cons_succ, List.set_cons_zero]
  refine seq_for (fun s : StT => .str s.1) m.st (fun done ρ => ∃ o2 o3, ρ = [some (eMo m), some (eB (done.foldl (stS m) none)), o2, o3, none]) ?_ ⟨none, none, rfl⟩ ?_ ?_
  · simp only [dItems_ap, dN_ap, aC_ap, aN_ap, dV_ap, List.getElem?_cons_zero, Option.join_some, Option.bind_some, names_ok, its_lst]
  · rintro done s rest ρ e ⟨o2, o3, rfl⟩
    have hs : s ∈ m.st := by rw [e]; simp
    have hb := station_bound_ok hm hs (hv.sv s hs)
    refine ⟨_, rfl, ?_⟩
    simp only [fgt_c, fgt_n, List.set_cons_succ, List.set_cons_zero]
    refine seq_set.mpr ⟨eO (sbT m s.1 s.2.1), by simp only [dN_ap, aC_ap, aN_ap, dV_ap, List.getElem?_cons_succ, List.getElem?_cons_zero, Option.join_some, Option.bind_some, hb], ?_⟩
    simp only [List.set_cons_succ, List.set_cons_zero]
    rw [List.foldl_append]
    show Ok _ fun o => match o with | .nx ρ2 => _ | .ct ρ2 => _ | _ => False
    generalize done.foldl (stS m) none = o
    have hfold : ∀ o, [s].foldl (stS m) o = stS m o s := fun _ => rfl
    rw [hfold]
    unfold stS
    cases q : sbT m s.1 s.2.1 with
    | none =>
      refine (ok_ifF ?_).mpr ?_
      · simp only [tAn_ap, t2_ap, dC_ap, dV_ap, List.getElem?_cons_succ, List.getElem?_cons_zero, Option.join_some, Option.bind_some, eO_notN]
        simp
      · rw [ok_nil]
        exact ⟨_, _, rfl⟩
    | some b =>
      simp only
      have hbt := better_ok (ρ := [some (eMo m), some (eB o), some (.str s.1), some (eO (some b)), none]) (o := o) (b := b) (i := 3) (k := 1) rfl rfl
      by_cases hz : ∀ y, o = some y → y.2.2 < b
      · rw [decide_eq_true hz] at hbt
        refine (ok_ifT ?_).mpr ?_
        · simp only [tAn_ap, hbt]
          simp only [t2_ap, dC_ap, dV_ap, List.getElem?_cons_succ, List.getElem?_cons_zero, Option.join_some, Option.bind_some, eO_notN]
          simp
        · refine ok_set.mpr ⟨eB (some ("station", .str s.1, b)), ?_, ?_⟩
          · simp only [dN_ap, aC_ap, aN_ap, dC_ap, dV_ap, List.getElem?_cons_succ, List.getElem?_cons_zero, Option.join_some, Option.bind_some, mkT3]
            rfl
          · simp only [List.set_cons_succ, List.set_cons_zero]
            rw [bmax_t hz]
            exact ⟨_, _, rfl⟩
      · rw [decide_eq_false hz] at hbt
        refine (ok_ifF ?_).mpr ?_
        · simp only [tAn_ap, hbt]
          simp only [t2_ap, dC_ap, dV_ap, List.getElem?_cons_succ, List.getElem?_cons_zero, Option.join_some, Option.bind_some, eO_notN]
          simp
        · rw [ok_nil, bmax_f hz]
          exact ⟨_, _, rfl⟩
  · rintro ρ ⟨o2, o3, rfl⟩
    simp only [fgt_c, fgt_n, List.set_cons_succ, List.set_cons_zero]
    refine seq_rg m.jo.length (fun k ρ => ∃ o3 o4, ρ = [some (eMo m), some (eB (btN m k)), none, o3, o4]) ?_ ⟨none, none, rfl⟩ ?_ ?_
    · rw [iRg1_ap]
      simp only [dN_ap, d2_ap, aC_ap, aN_ap, dC_ap, dV_ap, List.getElem?_cons_succ, List.getElem?_cons_zero, Option.join_some, Option.bind_some, idx3, len_tup, List.length_map]
      rw [if_pos (by omega), Int.toNat_natCast]
    · rintro j ρ hj ⟨o3, o4, rfl⟩
      have hb := job_bound_ok hj
      have hne := btN_some (btS_some hm (by omega)) j
      refine ⟨_, rfl, ?_⟩
      simp only [fgt_c, fgt_n, List.set_cons_succ, List.set_cons_zero]
      refine seq_set.mpr ⟨.int (jbT m j), ?_, ?_⟩
      · simp only [dN_ap, aC_ap, aN_ap, dV_ap, List.getElem?_cons_succ, List.getElem?_cons_zero, Option.join_some, Option.bind_some]
        exact hb
      simp only [List.set_cons_succ, List.set_cons_zero]
      rw [btN_succ]
      unfold stJ
      cases qo : btN m j with
      | none => exact absurd qo hne
      | some y =>
        by_cases hz : y.2.2 < jbT m j
        · refine (ok_ifT ?_).mpr ?_
          · simp only [t2_ap, d2_ap, dC_ap, dV_ap, List.getElem?_cons_succ, List.getElem?_cons_zero, Option.join_some, Option.bind_some, eB_2, gtB_int, decide_eq_true hz]
          · refine ok_set.mpr ⟨eB (some ("job", jD j, jbT m j)), ?_, ?_⟩
            · simp only [dN_ap, aC_ap, aN_ap, dC_ap, dV_ap, List.getElem?_cons_succ, List.getElem?_cons_zero, Option.join_some, Option.bind_some, mkT3]
              rfl
            · simp only [List.set_cons_succ, List.set_cons_zero]
              rw [bmax_t (o := some y) fun y' e => by cases e; exact hz]
              exact ⟨_, _, rfl⟩
        · refine (ok_ifF ?_).mpr ?_
          · simp only [t2_ap, d2_ap, dC_ap, dV_ap, List.getElem?_cons_succ, List.getElem?_cons_zero, Option.join_some, Option.bind_some, eB_2, gtB_int, decide_eq_false hz]
          · rw [ok_nil, bmax_f (o := some y) fun z => hz (z y rfl)]
            exact ⟨_, _, rfl⟩
    · rintro ρ ⟨o3, o4, rfl⟩
      simp only [fgt_c, fgt_n, List.set_cons_succ, List.set_cons_zero]
      refine ok_ret.mpr ⟨eB (btT m), ?_, rfl⟩
      have hf : (eB (btT m)).flat = true := by cases btT m <;> rfl
      simp only [dFlat_ap, dV_ap, List.getElem?_cons_succ, List.getElem?_cons_zero, Option.join_some, Option.bind_some]
      show (if (eB (btT m)).flat = true then some (eB (btT m)) else none) = _
      rw [if_pos hf]
/-! ### slack -/
def lastT (m : Mo) : Int := ((trace m).getLastD (0, .come, 0, "")).1
def bnT (m : Mo) : Int := match btT m with
  | none => 0
  | some y => y.2.2
def slackT (m : Mo) : Option Int := if trace m = [] ∨ losts m ≠ [] ∨ stuckT m ≠ [] then none else some (lastT m - bnT m)
theorem ev_last {E : List EvT} (h : E ≠ []) : D.idx (eEvs E) (.int (-1)) = some (eEv (E.getLastD (0, .come, 0, ""))) := by
  unfold eEvs
  rw [idx_lst]
  refine atI_last ?_
  rw [List.getLast?_map, List.getLastD_eq_getLast?, List.getLast?_eq_some_getLast h]
  rfl
theorem ev_0 (e : EvT) : D.idx (eEv e) (.int 0) = some (.int e.1) := by simp [eEv]
theorem ev_1 (e : EvT) : D.idx (eEv e) (.int 1) = some (.str e.2.1.str) := by simp [eEv]
theorem wd_eqS (w w' : Wd) : D.eqB (.str w.str) (.str w'.str) = some (decide (w = w')) := by
  rw [eqB_str]
  cases w <;> cases w' <;> decide +kernel
theorem trace_jo {m : Mo} (hm : Mok m) (h : trace m ≠ []) : 0 < m.jo.length := by
  cases q : trace m with
  | nil => exact absurd q h
  | cons e l =>
    have := (trace_e hm e (by rw [q]; simp)).1
    omega
theorem slack_ok {m : Mo} (hm : Mok m) (hv : Srv m) : F_slack [eMo m] = some (eO (slackT m)) := by
  refine call_ok rfl ?_
  unfold B_slack
  simp only [List.map_cons, List.map_nil, List.cons_append, List.nil_append, List.replicate]
  refine seq_set.mpr ⟨eEvs (trace m), by simp [event_run_ok hm], ?_⟩
  simp only [List.set_cons_succ, List.set_cons_zero]
  refine seq_set.mpr ⟨eEvs (losts m), ?_, ?_⟩
  · refine dLc_filter eEv eEv (isW .lost) (trace m) rfl fun e he => ⟨_, rfl, ?_, fun _ => ?_⟩
    · have hw : D.eqB (.str e.2.1.str) (.str "lost") = some (decide (e.2.1 = .lost)) := wd_eqS e.2.1 .lost
      simp only [wipeE, List.foldl_cons, List.foldl_nil, t2_ap, d2_ap, dC_ap, dV_ap, List.set_cons_succ, List.set_cons_zero, List.getElem?_cons_succ, List.getElem?_cons_zero, Option.join_some, Option.bind_some, ev_1, hw]
      rfl
    · simp only [wipeE, List.foldl_cons, List.foldl_nil, dFlat_ap, dV_ap, List.set_cons_succ, List.set_cons_zero, List.getElem?_cons_succ, List.getElem?_cons_zero, Option.join_some, Option.bind_some]
      rfl
  simp only [List.set_cons_succ, List.set_cons_zero]
  have ln : ∀ l : List EvT, D.len [eEvs l] = some (.int (l.length : Int)) := fun l => by simp [eEvs]
  have hc : (tOrr (t2 D.eqB (dN D.len (aC (dV 1) (aN))) (dC (.int 0))) (tOrr (t2 D.gtB (dN D.len (aC (dV 2) (aN))) (dC (.int 0))) (t2 D.gtB (dN D.len (aC (dN F_stuck (aC (dV 0) (aN))) (aN))) (dC (.int 0))))) [some (eMo m), some (eEvs (trace m)), some (eEvs (losts m)), none] = some (decide (trace m = [] ∨ losts m ≠ [] ∨ stuckT m ≠ [])) := by
    simp only [tOrr_ap, t2_ap, dN_ap, aC_ap, aN_ap, dC_ap, dV_ap, List.getElem?_cons_succ, List.getElem?_cons_zero, Option.join_some, Option.bind_some, ln, stuck_ok hm, len_lst, List.length_map, eqB_int, gtB_int]
    have z1 : ((trace m).length : Int) = 0 ↔ trace m = [] := by rw [← List.length_eq_zero_iff]; omega
    have z2 : 0 < ((losts m).length : Int) ↔ losts m ≠ [] := by rw [Ne, ← List.length_eq_zero_iff]; omega
    have z3 : 0 < ((stuckT m).length : Int) ↔ stuckT m ≠ [] := by rw [Ne, ← List.length_eq_zero_iff]; omega
    simp only [z1, z2, z3]
    by_cases a : trace m = [] <;> by_cases b : losts m = [] <;> by_cases c : stuckT m = [] <;> simp [a, b, c]
  unfold slackT
  by_cases hz : trace m = [] ∨ losts m ≠ [] ∨ stuckT m ≠ []
  · rw [if_pos hz]
    refine seq_ok.mpr ((ok_ifT (by rw [hc, decide_eq_true hz])).mpr ?_)
    exact ok_ret.mpr ⟨.non, rfl, rfl⟩
  · rw [if_neg hz]
    refine seq_ok.mpr ((ok_ifF (by rw [hc, decide_eq_false hz])).mpr ?_)
    rw [ok_nil]
    simp only
    have hne : trace m ≠ [] := fun z => hz (.inl z)
    have hb : btT m ≠ none := btN_some (btS_some hm (trace_jo hm hne)) _
    refine ok_ret.mpr ⟨.int (lastT m - bnT m), ?_, rfl⟩
    unfold bnT lastT
    have hbk := bottleneck_ok hm hv
    cases q : btT m with
    | none => exact absurd q hb
    | some y =>
      rw [q] at hbk
      simp only [dFlat_ap, d2_ap, d1_ap, dN_ap, aC_ap, aN_ap, dC_ap, dV_ap, List.getElem?_cons_succ, List.getElem?_cons_zero, Option.join_some, Option.bind_some, neg_int, ev_last hne, ev_0, hbk, eB_2, sub_int]
      rfl
theorem slack_alt {m : Mo} (hm : Mok m) (h0 : ∀ j, j < m.jo.length → 0 ≤ jtime m j) : slackT m = if btT m ≠ none ∧ (leaves m).length = m.jo.length then some (lastT m - bnT m) else none := by
  unfold slackT
  by_cases hn : 0 < m.jo.length
  · have := all_left hm h0 hn
    have hb : btT m ≠ none := btN_some (btS_some hm hn) _
    by_cases hz : trace m = [] ∨ losts m ≠ [] ∨ stuckT m ≠ []
    · rw [if_pos hz, if_neg]
      rintro ⟨_, h⟩
      obtain ⟨a, b, c⟩ := this.mpr h
      rcases hz with z | z | z
      · exact a z
      · exact z b
      · exact z c
    · rw [if_neg hz, if_pos ⟨hb, this.mp ⟨fun z => hz (.inl z), Classical.byContradiction fun z => hz (.inr (.inl z)), Classical.byContradiction fun z => hz (.inr (.inr z))⟩⟩]
  · have ht : trace m = [] := Classical.byContradiction fun z => hn (trace_jo hm z)
    have hj : m.jo.length = 0 := by omega
    rw [if_pos (.inl ht), if_neg]
    rintro ⟨h, _⟩
    refine h ?_
    have hv : ∀ N, vis m N = [] := fun N => by unfold vis; rw [hj]; rfl
    unfold btT
    rw [hj]
    show m.st.foldl (stS m) none = none
    generalize m.st = l
    induction l with
    | nil => rfl
    | cons s l ih =>
      rw [List.foldl_cons]
      have : stS m none s = none := by
        unfold stS sbT
        rw [hv, if_pos rfl]
      rw [this]; exact ih
end DL

namespace DL
open PySem PySem.Spec PyProof.Rows L2
theorem eKi0' (k : KiT) : D.idx (eKi k) (.int 0) = some (.str k.1) := by simp [eKi]
theorem eJo1' (x : JoT) : D.idx (eJo x) (.int 1) = some (.str x.2) := by simp [eJo]
theorem L_route_ok {m : Mo} (hm : Mok m) {j : Nat} (hj : j < m.jo.length) : F_L_route [eMo m, jD j] = some (.tup ((m.route j).map eStep)) := by
  have hjt : D.idx (.tup (m.jo.map eJo)) (jD j) = some (eJo (m.jo.getD j (0, ""))) := jo_at hj
  obtain ⟨kd, hk1, hk2⟩ := hm.kind hj
  refine call_ok rfl ?_
  unfold B_L_route
  simp only [List.map_cons, List.map_nil, List.cons_append, List.nil_append, List.replicate]
  refine ok_ret.mpr ⟨.tup ((m.route j).map eStep), ?_, rfl⟩
  have hlc : dLc [2, 3, 4] (dItems (d2 D.idx (dV 0) (dC (.int 1)))) (.tp [2, 3, 4]) (t2 D.eqB (dV 2) (d2 D.idx (d2 D.idx (d2 D.idx (dV 0) (dC (.int 3))) (dV 1)) (dC (.int 1)))) (dFlat (dV 4)) [some (eMo m), some (jD j), none, none, none] = some (.lst ((m.ki.filter fun k => decide (k.1 = (m.jo.getD j (0, "")).2)).map fun k => .tup (k.2.2.map eStep))) := by
    refine dLc_filter eKi (fun k => .tup (k.2.2.map eStep)) (fun k => decide (k.1 = (m.jo.getD j (0, "")).2)) m.ki ?_ fun k hk => ⟨_, rfl, ?_, fun _ => ?_⟩
    · simp only [dItems_ap, d2_ap, dC_ap, dV_ap, List.getElem?_cons_succ, List.getElem?_cons_zero, Option.join_some, Option.bind_some, idx1]
      rfl
    · simp only [setAll_c, setAll_n, wipeE, List.foldl_cons, List.foldl_nil, t2_ap, d2_ap, dC_ap, dV_ap, List.set_cons_succ, List.set_cons_zero, List.getElem?_cons_succ, List.getElem?_cons_zero, Option.join_some, Option.bind_some, idx3, hjt, eJo1', eqB_str]
    · simp [wipeE]
  have hh : (m.ki.filter fun k => decide (k.1 = (m.jo.getD j (0, "")).2)).head? = some kd := by
    rw [List.head?_filter]
    exact hk1
  have hr : m.route j = kd.2.2 := by unfold Mo.route; rw [hk1]
  cases q : m.ki.filter fun k => decide (k.1 = (m.jo.getD j (0, "")).2) with
  | nil => rw [q] at hh; cases hh
  | cons x l =>
    rw [q] at hh hlc
    cases hh
    simp only [dFlat_ap, d2_ap, dC_ap, hlc, Option.bind_some, idx_lst, List.map_cons, atI0]
    rw [hr]
    rfl
theorem L_bound_ok {m : Mo} (hm : Mok m) (N : Str) {S : Int} (hv : 1 ≤ S ∧ S ≤ 1000) : F_L_bound [eMo m, .str N, .int S] = some (.tup [.int (wkT m N), eO (sbT m N S)]) := by
  have hnj := hm.njo
  refine call_ok rfl ?_
  unfold B_L_bound
  simp only [List.map_cons, List.map_nil, List.cons_append, List.nil_append, List.replicate]
  refine seq_set.mpr ⟨.lst [], by simp only [dN_ap, aN_ap, Option.bind_some, mkLF_nil], ?_⟩
  simp only [List.set_cons_succ, List.set_cons_zero]
  refine seq_rg m.jo.length (fun k ρ => ∃ o4 o5 o6 o7, ρ = [some (eMo m), some (.str N), some (.int S), some (.lst ((visN m N k).map eV)), o4, o5, o6, o7, none, none, none, none]) ?_ ⟨_, _, _, _, rfl⟩ ?_ ?_
  · rw [iRg1_ap]
    simp only [dN_ap, d2_ap, aC_ap, aN_ap, dC_ap, dV_ap, List.getElem?_cons_succ, List.getElem?_cons_zero, Option.join_some, Option.bind_some, idx3, len_tup, List.length_map]
    rw [if_pos (by omega), Int.toNat_natCast]
  · rintro j ρ hj ⟨o4, o5, o6, o7, rfl⟩
    have hr := route_l hm hj
    have hjt : D.idx (.tup (m.jo.map eJo)) (.int (j : Int)) = some (eJo (m.jo.getD j (0, ""))) := jo_at hj
    have hvl := visN_len hm N j (by omega)
    refine ⟨_, rfl, ?_⟩
    simp only [fgt_c, fgt_n, List.set_cons_succ, List.set_cons_zero]
    refine seq_set.mpr ⟨.tup ((m.route j).map eStep), ?_, ?_⟩
    · simp only [dN_ap, aC_ap, aN_ap, dV_ap, List.getElem?_cons_succ, List.getElem?_cons_zero, Option.join_some, Option.bind_some]
      exact L_route_ok hm hj
    simp only [List.set_cons_succ, List.set_cons_zero]
    refine ok_rg (m.route j).length (fun i ρ => ∃ o6 o7, ρ = [some (eMo m), some (.str N), some (.int S), some (.lst ((visN m N j ++ visJ m N j i).map eV)), some (.int (j : Int)), some (.tup ((m.route j).map eStep)), o6, o7, none, none, none, none]) ?_ ⟨none, none, by rw [show visJ m N j 0 = [] from rfl, List.append_nil]⟩ ?_ ?_
    · rw [iRg1_ap]
      simp only [dN_ap, aC_ap, aN_ap, dV_ap, List.getElem?_cons_succ, List.getElem?_cons_zero, Option.join_some, Option.bind_some, len_tup, List.length_map]
      rw [if_pos (by omega), Int.toNat_natCast]
    · rintro i ρ hi ⟨o6, o7, rfl⟩
      have hs : D.idx (.tup ((m.route j).map eStep)) (.int (i : Int)) = _ := step_atR hi
      have hvj := visJ_len m N j i
      refine ⟨_, rfl, ?_⟩
      simp only [fgt_c, fgt_n, List.set_cons_succ, List.set_cons_zero]
      rw [visJ_succ]
      have ht : (t2 D.eqB (d2 D.idx (d2 D.idx (dV 5) (dV 6)) (dC (.int 0))) (dV 1)) [some (eMo m), some (.str N), some (.int S), some (.lst ((visN m N j ++ visJ m N j i).map eV)), some (.int (j : Int)), some (.tup ((m.route j).map eStep)), some (.int (i : Int)), none, none, none, none, none] = some (decide (((m.route j).getD i ("", 0)).1 = N)) := by
        simp only [t2_ap, d2_ap, dC_ap, dV_ap, List.getElem?_cons_succ, List.getElem?_cons_zero, Option.join_some, Option.bind_some, hs, eStep0, eqB_str]
      by_cases hN : ((m.route j).getD i ("", 0)).1 = N
      · refine (ok_ifT (by rw [ht, decide_eq_true hN])).mpr ?_
        have e : visI m N j i = [(jtime m j + ((lens m j).take i).sum, ((m.route j).getD i ("", 0)).2, ((lens m j).drop (i + 1)).sum)] := by unfold visI; rw [if_pos hN]
        rw [e]
        have s1 := sum_map (fun s : Str × Int => s.2) ((m.route j).take i)
        have s2 := sum_map (fun s : Str × Int => s.2) ((m.route j).drop (i + 1))
        have l1 : ((m.route j).take i).map (fun s : Str × Int => s.2) = (lens m j).take i := by unfold lens; rw [List.map_take]
        have l2 : ((m.route j).drop (i + 1)).map (fun s : Str × Int => s.2) = (lens m j).drop (i + 1) := by unfold lens; rw [List.map_drop]
        rw [l1] at s1
        rw [l2] at s2
        have d1 : ∀ ρ : En, ρ = [some (eMo m), some (.str N), some (.int S), some (.lst ((visN m N j ++ visJ m N j i).map eV)), some (.int (j : Int)), some (.tup ((m.route j).map eStep)), some (.int (i : Int)), none, none, none, none, none] → dLc [8] (dItems (dCut (dV 5) oNo (oSo (dV 6)))) (.nm 8) (tYs) (dFlat (d2 D.idx (dV 8) (dC (.int 1)))) ρ = some (.lst (((m.route j).take i).map fun s => .int s.2)) := fun ρ hρ => by
          subst hρ
          refine dLc_map eStep (fun s => .int s.2) ((m.route j).take i) ?_ fun s hs => ⟨_, rfl, rfl, ?_⟩
          · simp only [dItems_ap, dCut, oSo, oNo_ap, dV_ap, List.getElem?_cons_succ, List.getElem?_cons_zero, Option.join_some, Option.bind_some, cut_to]
            rfl
          · simp only [wipeE, List.foldl_cons, List.foldl_nil, dFlat_ap, d2_ap, dC_ap, dV_ap, List.set_cons_succ, List.set_cons_zero, List.getElem?_cons_succ, List.getElem?_cons_zero, Option.join_some, Option.bind_some, eStepI1]
            rfl
        refine seq_set.mpr ⟨.int (jtime m j + ((lens m j).take i).sum), ?_, ?_⟩
        · simp only [d2_ap, dN_ap, aC_ap, aN_ap]
          rw [d1 _ rfl]
          simp only [dC_ap, dV_ap, List.getElem?_cons_succ, List.getElem?_cons_zero, Option.join_some, Option.bind_some, idx3, hjt, eJo0', s1, add_int]
          rfl
        simp only [List.set_cons_succ, List.set_cons_zero]
        have d2' : ∀ ρ : En, ρ = [some (eMo m), some (.str N), some (.int S), some (.lst ((visN m N j ++ visJ m N j i).map eV)), some (.int (j : Int)), some (.tup ((m.route j).map eStep)), some (.int (i : Int)), some (.int (jtime m j + ((lens m j).take i).sum)), none, none, none, none] → dLc [8] (dItems (dCut (dV 5) (oSo (d2 D.add (dV 6) (dC (.int 1)))) oNo)) (.nm 8) (tYs) (dFlat (d2 D.idx (dV 8) (dC (.int 1)))) ρ = some (.lst (((m.route j).drop (i + 1)).map fun s => .int s.2)) := fun ρ hρ => by
          subst hρ
          refine dLc_map eStep (fun s => .int s.2) ((m.route j).drop (i + 1)) ?_ fun s hs => ⟨_, rfl, rfl, ?_⟩
          · simp only [dItems_ap, dCut, oSo, oNo_ap, d2_ap, dC_ap, dV_ap, List.getElem?_cons_succ, List.getElem?_cons_zero, Option.join_some, Option.bind_some, add_int, cut_from1]
            rfl
          · simp only [wipeE, List.foldl_cons, List.foldl_nil, dFlat_ap, d2_ap, dC_ap, dV_ap, List.set_cons_succ, List.set_cons_zero, List.getElem?_cons_succ, List.getElem?_cons_zero, Option.join_some, Option.bind_some, eStepI1]
            rfl
        refine ok_app.mpr ⟨(visN m N j ++ visJ m N j i).map eV, eV (jtime m j + ((lens m j).take i).sum, ((m.route j).getD i ("", 0)).2, ((lens m j).drop (i + 1)).sum), rfl, ?_, by rw [List.length_map, List.length_append]; omega, ?_⟩
        · simp only [dFlat_ap, d2_ap, dN_ap, aC_ap, aN_ap]
          rw [d2' _ rfl]
          simp only [dC_ap, dV_ap, List.getElem?_cons_succ, List.getElem?_cons_zero, Option.join_some, Option.bind_some, hs, eStepI1, s2, mkT3]
          rfl
        · simp only [List.set_cons_succ, List.set_cons_zero]
          exact ⟨_, _, by rw [← List.append_assoc, List.map_append (l₁ := visN m N j ++ visJ m N j i)]; rfl⟩
      · refine (ok_ifF (by rw [ht, decide_eq_false hN])).mpr ?_
        have e : visI m N j i = [] := by unfold visI; rw [if_neg hN]
        rw [e, List.append_nil, ok_nil]
        exact ⟨_, _, rfl⟩
    · rintro ρ ⟨o6, o7, rfl⟩
      simp only [fgt_c, fgt_n, List.set_cons_succ, List.set_cons_zero]
      rw [visN_succ]
      exact ⟨_, _, _, _, rfl⟩
  · rintro ρ ⟨o4, o5, o6, o7, rfl⟩
    simp only [fgt_c, fgt_n, List.set_cons_succ, List.set_cons_zero]
    rw [show visN m N m.jo.length = vis m N from rfl]
    unfold sbT
    by_cases hz : vis m N = []
    · rw [if_pos hz]
      refine seq_ok.mpr ((ok_ifT ?_).mpr ?_)
      · simp [hz]
      · refine ok_ret.mpr ⟨.tup [.int 0, .non], ?_, ?_⟩
        · simp only [dFlat_ap, dN_ap, aC_ap, aN_ap, dC_ap, Option.bind_some]
          rw [mkT_of (by simp)]
          rfl
        · unfold wkT
          rw [hz]
          rfl
    rw [if_neg hz]
    refine seq_ok.mpr ((ok_ifF ?_).mpr ?_)
    · simp only [t2_ap, dN_ap, aC_ap, aN_ap, dC_ap, dV_ap, List.getElem?_cons_succ, List.getElem?_cons_zero, Option.join_some, Option.bind_some, len_lst, List.length_map, eqB_int]
      have := List.length_pos_iff.mpr hz
      rw [decide_eq_false (by omega)]
    rw [ok_nil]
    simp only
    have gen : ∀ (ρ : En) (i : Nat) (f : Int × Int × Int → Int), ρ[3]? = some (some (.lst ((vis m N).map eV))) → ρ.length = 12 → (∀ v, D.idx (eV v) (.int i) = some (.int (f v))) → dLc [10] (dItems (dV 3)) (.nm 10) (tYs) (dFlat (d2 D.idx (dV 10) (dC (.int i)))) ρ = some (.lst ((vis m N).map fun v => .int (f v))) := fun ρ i f h3 hl hf => by
      refine dLc_map eV (fun v => .int (f v)) (vis m N) ?_ fun v hv => ⟨_, rfl, rfl, ?_⟩
      · simp only [dItems_ap, dV_ap, h3, Option.join_some, Option.bind_some, its_lst]
      · have : ((wipeE ρ [10]).set 10 (some (eV v)))[10]? = some (some (eV v)) := List.getElem?_set_self (by rw [wipeE_len]; omega)
        simp only [dFlat_ap, d2_ap, dC_ap, dV_ap, this, Option.join_some, Option.bind_some, hf]
        rfl
    have f0 : ∀ v, D.idx (eV v) (.int ((0 : Nat) : Int)) = some (.int v.1) := fun v => by simp [eV]
    have f1 : ∀ v, D.idx (eV v) (.int ((1 : Nat) : Int)) = some (.int v.2.1) := fun v => by simp [eV]
    have f2 : ∀ v, D.idx (eV v) (.int ((2 : Nat) : Int)) = some (.int v.2.2) := fun v => by simp [eV]
    refine seq_set.mpr ⟨.int (wkT m N), ?_, ?_⟩
    · have := gen [some (eMo m), some (.str N), some (.int S), some (.lst ((vis m N).map eV)), none, none, none, none, none, none, none, none] 1 _ rfl rfl f1
      simp only [dN_ap, aC_ap, aN_ap]
      rw [show dLc [10] (dItems (dV 3)) (.nm 10) (tYs) (dFlat (d2 D.idx (dV 10) (dC (.int 1)))) _ = _ from this]
      simp only [Option.bind_some, sum_map]
      rfl
    simp only [List.set_cons_succ, List.set_cons_zero]
    refine seq_set.mpr ⟨.int ((wkT m N + S - 1).fdiv S), ?_, ?_⟩
    · have hd : D.fdiv (.int (wkT m N + S - 1)) (.int S) = _ := fdiv_int ⟨by omega, by omega⟩
      simp only [d2_ap, dC_ap, dV_ap, List.getElem?_cons_succ, List.getElem?_cons_zero, Option.join_some, Option.bind_some, add_int, sub_int, hd]
    simp only [List.set_cons_succ, List.set_cons_zero]
    refine ok_ret.mpr ⟨.tup [.int (wkT m N), .int (minI ((vis m N).map (·.1)) + (wkT m N + S - 1).fdiv S + minI ((vis m N).map (·.2.2)))], ?_, rfl⟩
    have g0 := gen [some (eMo m), some (.str N), some (.int S), some (.lst ((vis m N).map eV)), none, none, none, none, none, some (.int (wkT m N)), none, some (.int ((wkT m N + S - 1).fdiv S))] 0 _ rfl rfl f0
    have g2 := gen [some (eMo m), some (.str N), some (.int S), some (.lst ((vis m N).map eV)), none, none, none, none, none, some (.int (wkT m N)), none, some (.int ((wkT m N + S - 1).fdiv S))] 2 _ rfl rfl f2
    have q1 := min_map (fun v : Int × Int × Int => v.1) (vis m N) hz
    have q2 := min_map (fun v : Int × Int × Int => v.2.2) (vis m N) hz
    simp only [dFlat_ap, d2_ap, dN_ap, aC_ap, aN_ap]
    rw [show dLc [10] (dItems (dV 3)) (.nm 10) (tYs) (dFlat (d2 D.idx (dV 10) (dC (.int 0)))) _ = _ from g0, show dLc [10] (dItems (dV 3)) (.nm 10) (tYs) (dFlat (d2 D.idx (dV 10) (dC (.int 2)))) _ = _ from g2]
    simp only [Option.bind_some, q1, q2, dV_ap, List.getElem?_cons_succ, List.getElem?_cons_zero, Option.join_some, add_int]
    rw [mkT_of (by simp)]
    rfl
/-! ### shapes -/
def BSh (o : Bst) : Prop := (eB o).shaped = true
theorem bmax_sh {o : Bst} {w : Str} {x : D} {b : Int} (h : BSh o) (h2 : BSh (some (w, x, b))) : BSh (bmax o w x b) := by
  unfold bmax
  cases o with
  | none => exact h2
  | some y => simp only; split; exact h2; exact h
theorem sh_st {s : Str} {b : Int} (h : PyData.strOk s = true) : BSh (some ("station", .str s, b)) := by
  refine shaped_of ?_ ?_
  · show (PyData.strOk ("station" : Str) && (PyData.strOk s && (true && true))) = true
    rw [h]; decide +kernel
  · simp [eB, D.py, D.pys, PyData.depth, PyData.depthAll]
theorem sh_jo {j : Nat} {b : Int} : BSh (some ("job", jD j, b)) := by
  refine shaped_of ?_ ?_
  · show (PyData.strOk ("job" : Str) && (true && (true && true))) = true
    decide +kernel
  · simp [eB, D.py, D.pys, PyData.depth, PyData.depthAll]
theorem foldS_sh {m : Mo} : ∀ (l : List StT) {o : Bst}, (∀ s ∈ l, PyData.strOk s.1 = true) → BSh o → BSh (l.foldl (stS m) o)
  | [], _, _, h => h
  | s :: l, o, hl, h => by
    refine foldS_sh l (fun x hx => hl x (by simp [hx])) ?_
    unfold stS
    cases sbT m s.1 s.2.1 with
    | none => exact h
    | some b => exact bmax_sh h (sh_st (hl s (by simp)))
theorem btN_sh {m : Mo} (h : BSh (btS m)) : ∀ k, BSh (btN m k)
  | 0 => h
  | k + 1 => by rw [btN_succ]; exact bmax_sh (btN_sh h k) sh_jo
theorem eO_sh (o : Option Int) : (eO o).shaped = true := by cases o <;> rfl
theorem law_true (sd : D) (ns : List Int) (hsd : Scl sd ns) (_ : ns.length ≤ 63) : F_law [sd] = some (.bl true) := by
  refine call_ok rfl ?_
  unfold B_law
  simp only [List.map_cons, List.map_nil, List.cons_append, List.nil_append, List.replicate]
  refine seq_rg (if 1 + (ns.length : Int).fdiv 6 < 5 then 1 + (ns.length : Int).fdiv 6 else 5).toNat (fun _ ρ => ∃ o1 o2 o3 o4 o5 o6 o7 o8 o9 o10 o11 o12, ρ = [some sd, o1, o2, o3, o4, o5, o6, o7, o8, o9, o10, o11, o12, none, none]) ?_ ⟨_, _, _, _, _, _, _, _, _, _, _, _, rfl⟩ ?_ ?_
  · have := Int.fdiv_nonneg (a := ns.length) (b := 6) (by omega) (by decide)
    simp [fdiv_int, hsd.len]
    split <;> omega
  · rintro w ρ hk ⟨o1, o2, o3, o4, o5, o6, o7, o8, o9, o10, o11, o12, rfl⟩
    obtain ⟨m0, hm, em⟩ := model2_ok hsd (6 * (w : Int)) (by omega)
    have tx := hm.tx
    have mk := hm.mok
    have sv : Srv m0.srt2 := ⟨fun s hs => by
      have := hm.st' s hs
      unfold StT.wf2 at this
      omega⟩
    have hj0 : ∀ j, j < m0.srt2.jo.length → 0 ≤ jtime m0.srt2 j := fun j hj => by
      have : m0.srt2.jo.getD j (0, "") ∈ m0.jo := by
        rw [List.getD_eq_getElem?_getD, List.getElem?_eq_getElem hj]; exact List.getElem_mem hj
      exact (hm.jo' _ this).1
    generalize m0.srt2 = M at *
    have m8 : D.mul (.int 6) (.int (w : Int)) = some (.int (6 * (w : Int))) := mul_int (by omega)
    have tl : (trace M).length ≤ 400000 := run_len mk (first_sw mk)
    have hjl := mk.njo
    have bsh0 : BSh (btS M) := foldS_sh _ (fun s hs => (tx.st s hs).1) rfl
    have hsa := slack_alt mk hj0
    refine ⟨_, rfl, ?_⟩
    simp only [fgt_c, fgt_n, List.set_cons_succ, List.set_cons_zero]
    refine seq_set.mpr ⟨eMo M, by simp [m8, em], ?_⟩
    simp only [List.set_cons_succ, List.set_cons_zero]
    refine seq_set.mpr ⟨eB none, rfl, ?_⟩
    simp only [List.set_cons_succ, List.set_cons_zero]
    refine seq_for eSt M.st (fun done ρ => ∃ o8 o9 o10 o11 o12, ρ = [some sd, some (.int w), some (eMo M), some (eB (done.foldl (stS M) none)), none, none, none, none, o8, o9, o10, o11, o12, none, none]) ?_ ⟨_, _, _, _, _, rfl⟩ ?_ ?_
    · simp only [dItems_ap, d2_ap, dC_ap, dV_ap, List.getElem?_cons_succ, List.getElem?_cons_zero, Option.join_some, Option.bind_some, idx0]
      rfl
    · rintro done s rest ρ e ⟨o8, o9, o10, o11, o12, rfl⟩
      have hs : s ∈ M.st := by rw [e]; simp
      have hv := sv.sv s hs
      have hb := station_bound_ok mk hs hv
      have hlb := L_bound_ok mk s.1 hv
      refine ⟨_, rfl, ?_⟩
      simp only [fgt_c, fgt_n, setAll_c, setAll_n, List.set_cons_succ, List.set_cons_zero]
      refine seq_set.mpr ⟨.tup [.int (wkT M s.1), eO (sbT M s.1 s.2.1)], ?_, ?_⟩
      · simp only [dN_ap, aC_ap, aN_ap, dV_ap, List.getElem?_cons_succ, List.getElem?_cons_zero, Option.join_some, Option.bind_some]
        exact hlb
      simp only [List.set_cons_succ, List.set_cons_zero]
      have i0 : D.idx (.tup [.int (wkT M s.1), eO (sbT M s.1 s.2.1)]) (.int 0) = some (.int (wkT M s.1)) := by simp
      have i1 : D.idx (.tup [.int (wkT M s.1), eO (sbT M s.1 s.2.1)]) (.int 1) = some (eO (sbT M s.1 s.2.1)) := by simp
      refine seq_ok.mpr ((ok_ifF ?_).mpr ?_)
      · simp only [tOrr_ap, t2_ap, d2_ap, dN_ap, aC_ap, aN_ap, dC_ap, dV_ap, List.getElem?_cons_succ, List.getElem?_cons_zero, Option.join_some, Option.bind_some, work_ok mk, hb, i0, i1, neB_self (eO_sh _), neB_int, decide_true]
        rfl
      rw [ok_nil]
      simp only
      rw [List.foldl_append]
      generalize done.foldl (stS M) none = o
      have hfold : ∀ o, [s].foldl (stS M) o = stS M o s := fun _ => rfl
      rw [hfold]
      unfold stS
      cases q : sbT M s.1 s.2.1 with
      | none =>
        rw [q] at i1
        refine (ok_ifF ?_).mpr ?_
        · simp only [tAn_ap, t2_ap, d2_ap, dC_ap, dV_ap, List.getElem?_cons_succ, List.getElem?_cons_zero, Option.join_some, Option.bind_some, i1, eO_notN]
          simp
        · rw [ok_nil]
          exact ⟨_, _, _, _, _, rfl⟩
      | some b =>
        simp only
        rw [q] at i1 i0
        have hbt : (tOrr (t2 D.isN (dV 3) (dC .non)) (t2 D.gtB (d2 D.idx (dV 12) (dC (.int 1))) (d2 D.idx (dV 3) (dC (.int 2))))) [some sd, some (.int w), some (eMo M), some (eB o), none, none, none, none, some (.str s.1), some (.int s.2.1), some (eO s.2.2.1), some (.str s.2.2.2), some (.tup [.int (wkT M s.1), eO (some b)]), none, none] = some (decide (∀ y, o = some y → y.2.2 < b)) := by
          have i1' : D.idx (.tup [.int (wkT M s.1), eO (some b)]) (.int 1) = some (.int b) := i1
          simp only [tOrr_ap, t2_ap, d2_ap, dC_ap, dV_ap, List.getElem?_cons_succ, List.getElem?_cons_zero, Option.join_some, Option.bind_some, i1', eB_isN]
          cases o with
          | none => simp
          | some y => simp [eB_2]
        have hnn : (t2 D.notN (d2 D.idx (dV 12) (dC (.int 1))) (dC .non)) [some sd, some (.int w), some (eMo M), some (eB o), none, none, none, none, some (.str s.1), some (.int s.2.1), some (eO s.2.2.1), some (.str s.2.2.2), some (.tup [.int (wkT M s.1), eO (some b)]), none, none] = some true := by
          simp only [t2_ap, d2_ap, dC_ap, dV_ap, List.getElem?_cons_succ, List.getElem?_cons_zero, Option.join_some, Option.bind_some, i1, eO_notN]
          simp
        by_cases hz : ∀ y, o = some y → y.2.2 < b
        · rw [decide_eq_true hz] at hbt
          refine (ok_ifT ?_).mpr ?_
          · rw [tAn_ap]
            erw [hnn, hbt]
            rfl
          · refine ok_set.mpr ⟨eB (some ("station", .str s.1, b)), ?_, ?_⟩
            · simp only [d2_ap, dN_ap, aC_ap, aN_ap, dC_ap, dV_ap, List.getElem?_cons_succ, List.getElem?_cons_zero, Option.join_some, Option.bind_some, i1, mkT3]
              rfl
            · simp only [List.set_cons_succ, List.set_cons_zero]
              rw [bmax_t hz]
              exact ⟨_, _, _, _, _, rfl⟩
        · rw [decide_eq_false hz] at hbt
          refine (ok_ifF ?_).mpr ?_
          · rw [tAn_ap]
            erw [hnn, hbt]
            rfl
          · rw [ok_nil, bmax_f hz]
            exact ⟨_, _, _, _, _, rfl⟩
    · rintro ρ ⟨o8, o9, o10, o11, o12, rfl⟩
      simp only [fgt_c, fgt_n, List.set_cons_succ, List.set_cons_zero]
      refine seq_rg M.jo.length (fun k ρ => ∃ o4 o12, ρ = [some sd, some (.int w), some (eMo M), some (eB (btN M k)), o4, none, none, none, none, none, none, none, o12, none, none]) ?_ ⟨_, _, rfl⟩ ?_ ?_
      · rw [iRg1_ap]
        simp only [dN_ap, d2_ap, aC_ap, aN_ap, dC_ap, dV_ap, List.getElem?_cons_succ, List.getElem?_cons_zero, Option.join_some, Option.bind_some, idx3, len_tup, List.length_map]
        rw [if_pos (by omega), Int.toNat_natCast]
      · rintro j ρ hj ⟨o4, o12, rfl⟩
        have hjt : D.idx (.tup (M.jo.map eJo)) (.int (j : Int)) = some (eJo (M.jo.getD j (0, ""))) := jo_at hj
        have hjb : F_job_bound [eMo M, .int (j : Int)] = some (.int (jbT M j)) := job_bound_ok hj
        have hlr : F_L_route [eMo M, .int (j : Int)] = some (.tup ((M.route j).map eStep)) := L_route_ok mk hj
        refine ⟨_, rfl, ?_⟩
        simp only [fgt_c, fgt_n, List.set_cons_succ, List.set_cons_zero]
        have hlc : ∀ ρ : En, ρ = [some sd, some (.int w), some (eMo M), some (eB (btN M j)), some (.int (j : Int)), none, none, none, none, none, none, none, none, none, none] → dLc [14] (dItems (dN F_L_route (aC (dV 2) (aC (dV 4) (aN))))) (.nm 14) (tYs) (dFlat (d2 D.idx (dV 14) (dC (.int 1)))) ρ = some (.lst ((M.route j).map fun s => .int s.2)) := fun ρ hρ => by
          subst hρ
          refine dLc_map eStep (fun s => .int s.2) (M.route j) ?_ fun s hs => ⟨_, rfl, rfl, ?_⟩
          · simp only [dItems_ap, dN_ap, aC_ap, aN_ap, dV_ap, List.getElem?_cons_succ, List.getElem?_cons_zero, Option.join_some, Option.bind_some, hlr]
            rfl
          · simp only [wipeE, List.foldl_cons, List.foldl_nil, dFlat_ap, d2_ap, dC_ap, dV_ap, List.set_cons_succ, List.set_cons_zero, List.getElem?_cons_succ, List.getElem?_cons_zero, Option.join_some, Option.bind_some, eStepI1]
            rfl
        have s1 := sum_map (fun s : Str × Int => s.2) (M.route j)
        refine seq_set.mpr ⟨.int (jbT M j), ?_, ?_⟩
        · simp only [d2_ap, dN_ap, aC_ap, aN_ap]
          rw [hlc _ rfl]
          simp only [dC_ap, dV_ap, List.getElem?_cons_succ, List.getElem?_cons_zero, Option.join_some, Option.bind_some, idx3, hjt, eJo0', s1, add_int]
          rfl
        simp only [List.set_cons_succ, List.set_cons_zero]
        refine seq_ok.mpr ((ok_ifF ?_).mpr ?_)
        · simp only [t2_ap, dN_ap, aC_ap, aN_ap, dV_ap, List.getElem?_cons_succ, List.getElem?_cons_zero, Option.join_some, Option.bind_some, hjb, neB_int, decide_true]
          rfl
        rw [ok_nil]
        simp only
        rw [btN_succ]
        unfold stJ
        generalize btN M j = o
        have hbt := better_ok (ρ := [some sd, some (.int w), some (eMo M), some (eB o), some (.int (j : Int)), none, none, none, none, none, none, none, some (.int (jbT M j)), none, none]) (o := o) (b := jbT M j) (i := 12) (k := 3) rfl rfl
        by_cases hz : ∀ y, o = some y → y.2.2 < jbT M j
        · rw [decide_eq_true hz] at hbt
          refine (ok_ifT hbt).mpr ?_
          refine ok_set.mpr ⟨eB (some ("job", jD j, jbT M j)), ?_, ?_⟩
          · simp only [dN_ap, aC_ap, aN_ap, dC_ap, dV_ap, List.getElem?_cons_succ, List.getElem?_cons_zero, Option.join_some, Option.bind_some, mkT3]
            rfl
          · simp only [List.set_cons_succ, List.set_cons_zero]
            rw [bmax_t hz]
            exact ⟨_, _, rfl⟩
        · rw [decide_eq_false hz] at hbt
          refine (ok_ifF hbt).mpr ?_
          rw [ok_nil, bmax_f hz]
          exact ⟨_, _, rfl⟩
      · rintro ρ ⟨o4, o12, rfl⟩
        simp only [fgt_c, fgt_n, List.set_cons_succ, List.set_cons_zero]
        have hsh : (eB (btN M M.jo.length)).shaped = true := btN_sh bsh0 _
        have hbk : F_bottleneck [eMo M] = some (eB (btN M M.jo.length)) := bottleneck_ok mk sv
        refine seq_ok.mpr ((ok_ifF ?_).mpr ?_)
        · simp only [t2_ap, dN_ap, aC_ap, aN_ap, dV_ap, List.getElem?_cons_succ, List.getElem?_cons_zero, Option.join_some, Option.bind_some, hbk, neB_self hsh]
        rw [ok_nil]
        simp only
        refine seq_set.mpr ⟨eEvs (trace M), by simp [event_run_ok mk], ?_⟩
        simp only [List.set_cons_succ, List.set_cons_zero]
        refine seq_set.mpr ⟨.int ((leaves M).length : Int), ?_, ?_⟩
        · have hlc : ∀ ρ : En, ρ = [some sd, some (.int w), some (eMo M), some (eB (btN M M.jo.length)), none, some (eEvs (trace M)), none, none, none, none, none, none, none, none, none] → dLc [13] (dItems (dV 5)) (.nm 13) (t2 D.eqB (d2 D.idx (dV 13) (dC (.int 1))) (dC (.str "leave"))) (dFlat (dC (.int 1))) ρ = some (.lst ((leaves M).map fun _ => .int 1)) := fun ρ hρ => by
            subst hρ
            refine dLc_filter eEv (fun _ => .int 1) (isW .leave) (trace M) rfl fun e he => ⟨_, rfl, ?_, fun _ => rfl⟩
            have hw : D.eqB (.str e.2.1.str) (.str "leave") = some (decide (e.2.1 = .leave)) := wd_eqS e.2.1 .leave
            simp only [wipeE, List.foldl_cons, List.foldl_nil, t2_ap, d2_ap, dC_ap, dV_ap, List.set_cons_succ, List.set_cons_zero, List.getElem?_cons_succ, List.getElem?_cons_zero, Option.join_some, Option.bind_some, ev_1, hw]
            rfl
          simp only [dN_ap, aC_ap, aN_ap]
          rw [hlc _ rfl]
          simp
        simp only [List.set_cons_succ, List.set_cons_zero]
        refine seq_set.mpr ⟨.non, rfl, ?_⟩
        simp only [List.set_cons_succ, List.set_cons_zero]
        have hct : (tAn (t2 D.notN (dV 3) (dC .non)) (t2 D.eqB (dV 6) (dN D.len (aC (d2 D.idx (dV 2) (dC (.int 3))) (aN))))) [some sd, some (.int w), some (eMo M), some (eB (btT M)), none, some (eEvs (trace M)), some (.int ((leaves M).length : Int)), some .non, none, none, none, none, none, none, none] = some (decide (btT M ≠ none ∧ (leaves M).length = M.jo.length)) := by
          have h1 : D.notN (eB (btT M)) .non = some (decide (btT M ≠ none)) := by cases btT M <;> simp [eB, D.notN, D.isN]
          simp only [tAn_ap, t2_ap, d2_ap, dN_ap, aC_ap, aN_ap, dC_ap, dV_ap, List.getElem?_cons_succ, List.getElem?_cons_zero, Option.join_some, Option.bind_some, h1, idx3, len_tup, List.length_map, eqB_int]
          by_cases a : btT M = none <;> by_cases b : (leaves M).length = M.jo.length <;> simp [a, b] <;> omega
        have hfin : F_slack [eMo M] = some (eO (slackT M)) := slack_ok mk sv
        rw [hsa] at hfin
        refine seq_ok.mpr (Ok.imp (Q := fun o => o = .nx [some sd, some (.int w), some (eMo M), some (eB (btT M)), none, some (eEvs (trace M)), some (.int ((leaves M).length : Int)), some (eO (if btT M ≠ none ∧ (leaves M).length = M.jo.length then some (lastT M - bnT M) else none)), none, none, none, none, none, none, none]) ?_ ?_)
        · by_cases hz : btT M ≠ none ∧ (leaves M).length = M.jo.length
          · refine (ok_ifT (by erw [hct]; rw [decide_eq_true hz])).mpr ?_
            rw [if_pos hz]
            have hne : trace M ≠ [] := by
              have hjp : 0 < M.jo.length := Nat.pos_of_ne_zero fun z => by
                have : slackT M = some (lastT M - bnT M) := by rw [hsa, if_pos hz]
                have ht : trace M = [] := Classical.byContradiction fun y => by have := trace_jo mk y; omega
                unfold slackT at this
                rw [if_pos (.inl ht)] at this
                cases this
              exact ((all_left mk hj0 hjp).mpr hz.2).1
            refine ok_set.mpr ⟨.int (lastT M - bnT M), ?_, rfl⟩
            unfold bnT lastT
            show (d2 D.sub (d2 D.idx (d2 D.idx (dV 5) (d1 D.neg (dC (.int 1)))) (dC (.int 0))) (d2 D.idx (dV 3) (dC (.int 2)))) [some sd, some (.int w), some (eMo M), some (eB (btT M)), none, some (eEvs (trace M)), some (.int ((leaves M).length : Int)), some .non, none, none, none, none, none, none, none] = _
            cases q : btT M with
            | none => exact absurd q hz.1
            | some y =>
              simp only [d2_ap, d1_ap, dC_ap, dV_ap, List.getElem?_cons_succ, List.getElem?_cons_zero, Option.join_some, Option.bind_some, neg_int, ev_last hne, ev_0, eB_2, sub_int]
          · refine (ok_ifF (by erw [hct]; rw [decide_eq_false hz])).mpr ?_
            rw [if_neg hz, ok_nil]
            rfl
        rintro o rfl
        simp only
        refine (ok_ifF ?_).mpr ?_
        · simp only [t2_ap, dN_ap, aC_ap, aN_ap, dV_ap, List.getElem?_cons_succ, List.getElem?_cons_zero, Option.join_some, Option.bind_some, hfin, neB_self (eO_sh _)]
        · rw [ok_nil]
          exact ⟨_, _, _, _, _, _, _, _, _, _, _, _, rfl⟩
  rintro ρ ⟨o1, o2, o3, o4, o5, o6, o7, o8, o9, o10, o11, o12, rfl⟩
  simp
end DL

namespace DL
open PySem PySem.Spec PyProof.Rows L2
theorem all_mk {l : PySem.W.OpenLaw} {q : Program} {w : World} {K : PySem.W.Frag} {h : Heap} {mg : Str → Option Value} {fa : Addr} (X : K.In h) (G : h.Ns mainGlobals mg) (hfa : mg "law" = some (.ref fa)) (own : ∀ (y : Str) (fy : Addr), ((recsOf q).any fun e => e.name == y) = true → mg y = some (.ref fy) → LamX.OwnTab K fy h)
    {f1 f2 f3 f4 f5 f6 f7 f8 f9 f10 f11 f12 f13 f14 f15 f16 f17 f18 f19 f20 f21 f22 f23 f24 f25 f26 f27 f28 f29 f30 f31 f32 f33 f34 f35 f36 f37 f38 : Addr} {od1 an1 od2 an2 od3 an3 od4 an4 od5 an5 od6 an6 od7 an7 od8 an8 od9 an9 od10 an10 od11 an11 od12 an12 od13 an13 od14 an14 od15 an15 od16 an16 od17 an17 od18 an18 od19 an19 od20 an20 od21 an21 od22 an22 od23 an23 od24 an24 od25 an25 od26 an26 od27 an27 od28 an28 od29 an29 od30 an30 od31 an31 od32 an32 od33 an33 od34 an34 od35 an35 od36 an36 od37 an37 od38 an38 : Option Addr} {sl1 sl2 sl3 sl4 sl5 sl6 sl7 sl8 sl9 sl10 sl11 sl12 sl13 sl14 sl15 sl16 sl17 sl18 sl19 sl20 sl21 sl22 sl23 sl24 sl25 sl26 sl27 sl28 sl29 sl30 sl31 sl32 sl33 sl34 sl35 sl36 sl37 sl38 : Array (Option Value)} {oc1 kV1 dc1 pm1 ct1 cd1 oc2 kV2 dc2 pm2 ct2 cd2 oc3 kV3 dc3 pm3 ct3 cd3 oc4 kV4 dc4 pm4 ct4 oc5 kV5 dc5 pm5 ct5 cd5 oc6 kV6 dc6 pm6 ct6 cd6 oc7 kV7 dc7 pm7 ct7 cd7 oc8 kV8 dc8 pm8 ct8 cd8 oc9 kV9 dc9 pm9 ct9 cd9 oc10 kV10 dc10 pm10 ct10 cd10 oc11 kV11 dc11 pm11 ct11 cd11 oc12 kV12 dc12 pm12 ct12 cd12 oc13 kV13 dc13 pm13 ct13 cd13 oc14 kV14 dc14 pm14 ct14 cd14 oc15 kV15 dc15 pm15 ct15 cd15 oc16 kV16 dc16 pm16 ct16 cd16 oc17 kV17 dc17 pm17 ct17 cd17 oc18 kV18 dc18 pm18 ct18 cd18 oc19 kV19 dc19 pm19 ct19 cd19 oc20 kV20 dc20 pm20 ct20 cd20 oc21 kV21 dc21 pm21 ct21 cd21 oc22 kV22 dc22 pm22 ct22 cd22 oc23 kV23 dc23 pm23 ct23 cd23 oc24 kV24 dc24 pm24 ct24 cd24 oc25 kV25 dc25 pm25 ct25 cd25 oc26 kV26 dc26 pm26 ct26 cd26 oc27 kV27 dc27 pm27 ct27 cd27 oc28 kV28 dc28 pm28 ct28 cd28 oc29 kV29 dc29 pm29 ct29 cd29 oc30 kV30 dc30 pm30 ct30 cd30 oc31 kV31 dc31 pm31 ct31 cd31 oc32 kV32 dc32 pm32 ct32 cd32 oc33 kV33 dc33 pm33 ct33 cd33 oc34 kV34 dc34 pm34 ct34 cd34 oc35 kV35 dc35 pm35 ct35 cd35 oc36 kV36 dc36 pm36 ct36 cd36 oc37 kV37 dc37 pm37 ct37 cd37 oc38 kV38 dc38 pm38 ct38 cd38 : Value}
    {c_4 P_4 : Addr} {ec4 : Value} {dd4 : Option Addr} {vs4 : Array Value} {sc4 : Array (Option Value)}
    {C_Moment : Addr}
    (aC_Moment : PySem.W.nsIn K mainGlobals "Moment" = some (some (.ref C_Moment))) (pgC_Moment : PySem.W.plainGet K C_Moment Str.empty = true) (hdC_Moment : PySem.W.hasDictIn K C_Moment = true) (poC_Moment : PySem.W.plainOver K C_Moment = true) (saC_Moment : PySem.W.findIn K (.ref C_Moment) "__setattr__" = some (some (.builtin "object.__setattr__"))) (mkC_Moment : PySem.W.makesIn K C_Moment = true) (kcC_Moment : PySem.W.keepIn K (.ref C_Moment) = true)
    (n0_Moment : PySem.W.findIn K (.ref C_Moment) "network" = some none)
    (n1_Moment : PySem.W.findIn K (.ref C_Moment) "names" = some none)
    (n2_Moment : PySem.W.findIn K (.ref C_Moment) "time" = some none)
    (n3_Moment : PySem.W.findIn K (.ref C_Moment) "waiting" = some none)
    (n4_Moment : PySem.W.findIn K (.ref C_Moment) "serving" = some none)
    (n5_Moment : PySem.W.findIn K (.ref C_Moment) "ready" = some none)
    (n6_Moment : PySem.W.findIn K (.ref C_Moment) "steps" = some none)
    (n7_Moment : PySem.W.findIn K (.ref C_Moment) "events" = some none)
    (a1 : PySem.W.nsIn K mainGlobals "station_names" = some (some (.ref f1)))
    (l1 : K.lookup f1 = some ⟨oc1, od1, .func (PySem.W.fnOf "station_names" "station_names" (defArgs s_station_names) (defBody s_station_names) (defScope s_station_names) .none kV1 dc1 pm1 an1 cd1 ct1), sl1⟩)
    (c1 : PySem.W.codeIn K cd1 "station_names" = true) (k1 : PySem.W.keepIn K (.ref f1) = true)
    (a2 : PySem.W.nsIn K mainGlobals "route_of" = some (some (.ref f2)))
    (l2 : K.lookup f2 = some ⟨oc2, od2, .func (PySem.W.fnOf "route_of" "route_of" (defArgs s_route_of) (defBody s_route_of) (defScope s_route_of) .none kV2 dc2 pm2 an2 cd2 ct2), sl2⟩)
    (c2 : PySem.W.codeIn K cd2 "route_of" = true) (k2 : PySem.W.keepIn K (.ref f2) = true)
    (a3 : PySem.W.nsIn K mainGlobals "priority_of" = some (some (.ref f3)))
    (l3 : K.lookup f3 = some ⟨oc3, od3, .func (PySem.W.fnOf "priority_of" "priority_of" (defArgs s_priority_of) (defBody s_priority_of) (defScope s_priority_of) .none kV3 dc3 pm3 an3 cd3 ct3), sl3⟩)
    (c3 : PySem.W.codeIn K cd3 "priority_of" = true) (k3 : PySem.W.keepIn K (.ref f3) = true)
    (a4 : PySem.W.nsIn K mainGlobals "is_paused" = some (some (.ref f4)))
    (l4 : K.lookup f4 = some ⟨oc4, od4, .func (PySem.W.fnOf "is_paused" "is_paused" (defArgs s_is_paused) (defBody s_is_paused) (defScope s_is_paused) .none kV4 dc4 pm4 an4 (.ref c_4) ct4), sl4⟩)
    (c4 : PySem.W.codeIn K (.ref c_4) "is_paused" = true) (k4 : PySem.W.keepIn K (.ref f4) = true)
    (h4 : K.lookup c_4 = some ⟨ec4, dd4, .fields vs4, sc4⟩) (v4 : vs4[11]? = some (.ref P_4)) (q4 : PySem.W.codeHdIn K c_4 P_4 = true) (n4 : K.lookup P_4 = none) (r4 : ((recsOf q).any fun e => e.name == ("is_paused" : Str)) = true)
    (a5 : PySem.W.nsIn K mainGlobals "first_state" = some (some (.ref f5)))
    (l5 : K.lookup f5 = some ⟨oc5, od5, .func (PySem.W.fnOf "first_state" "first_state" (defArgs s_first_state) (defBody s_first_state) (defScope s_first_state) .none kV5 dc5 pm5 an5 cd5 ct5), sl5⟩)
    (c5 : PySem.W.codeIn K cd5 "first_state" = true) (k5 : PySem.W.keepIn K (.ref f5) = true)
    (a6 : PySem.W.nsIn K mainGlobals "next_time" = some (some (.ref f6)))
    (l6 : K.lookup f6 = some ⟨oc6, od6, .func (PySem.W.fnOf "next_time" "next_time" (defArgs s_next_time) (defBody s_next_time) (defScope s_next_time) .none kV6 dc6 pm6 an6 cd6 ct6), sl6⟩)
    (c6 : PySem.W.codeIn K cd6 "next_time" = true) (k6 : PySem.W.keepIn K (.ref f6) = true)
    (a7 : PySem.W.findIn K (.ref C_Moment) "__init__" = some (some (.ref f7))) (i7 : PySem.W.isFn K (.ref f7) = true)
    (l7 : K.lookup f7 = some ⟨oc7, od7, .func (PySem.W.fnOf "__init__" "Moment.__init__" (defArgs s_Moment___init__) (defBody s_Moment___init__) (defScope s_Moment___init__) .none kV7 dc7 pm7 an7 cd7 ct7), sl7⟩)
    (c7 : PySem.W.codeIn K cd7 "Moment.__init__" = true) (k7 : PySem.W.keepIn K (.ref f7) = true)
    (a8 : PySem.W.findIn K (.ref C_Moment) "put" = some (some (.ref f8))) (i8 : PySem.W.isFn K (.ref f8) = true)
    (l8 : K.lookup f8 = some ⟨oc8, od8, .func (PySem.W.fnOf "put" "Moment.put" (defArgs s_Moment_put) (defBody s_Moment_put) (defScope s_Moment_put) .none kV8 dc8 pm8 an8 cd8 ct8), sl8⟩)
    (c8 : PySem.W.codeIn K cd8 "Moment.put" = true) (k8 : PySem.W.keepIn K (.ref f8) = true)
    (a9 : PySem.W.findIn K (.ref C_Moment) "here" = some (some (.ref f9))) (i9 : PySem.W.isFn K (.ref f9) = true)
    (l9 : K.lookup f9 = some ⟨oc9, od9, .func (PySem.W.fnOf "here" "Moment.here" (defArgs s_Moment_here) (defBody s_Moment_here) (defScope s_Moment_here) .none kV9 dc9 pm9 an9 cd9 ct9), sl9⟩)
    (c9 : PySem.W.codeIn K cd9 "Moment.here" = true) (k9 : PySem.W.keepIn K (.ref f9) = true)
    (a10 : PySem.W.findIn K (.ref C_Moment) "ready_at" = some (some (.ref f10))) (i10 : PySem.W.isFn K (.ref f10) = true)
    (l10 : K.lookup f10 = some ⟨oc10, od10, .func (PySem.W.fnOf "ready_at" "Moment.ready_at" (defArgs s_Moment_ready_at) (defBody s_Moment_ready_at) (defScope s_Moment_ready_at) .none kV10 dc10 pm10 an10 cd10 ct10), sl10⟩)
    (c10 : PySem.W.codeIn K cd10 "Moment.ready_at" = true) (k10 : PySem.W.keepIn K (.ref f10) = true)
    (a11 : PySem.W.findIn K (.ref C_Moment) "is_full" = some (some (.ref f11))) (i11 : PySem.W.isFn K (.ref f11) = true)
    (l11 : K.lookup f11 = some ⟨oc11, od11, .func (PySem.W.fnOf "is_full" "Moment.is_full" (defArgs s_Moment_is_full) (defBody s_Moment_is_full) (defScope s_Moment_is_full) .none kV11 dc11 pm11 an11 cd11 ct11), sl11⟩)
    (c11 : PySem.W.codeIn K cd11 "Moment.is_full" = true) (k11 : PySem.W.keepIn K (.ref f11) = true)
    (a12 : PySem.W.findIn K (.ref C_Moment) "end_services" = some (some (.ref f12))) (i12 : PySem.W.isFn K (.ref f12) = true)
    (l12 : K.lookup f12 = some ⟨oc12, od12, .func (PySem.W.fnOf "end_services" "Moment.end_services" (defArgs s_Moment_end_services) (defBody s_Moment_end_services) (defScope s_Moment_end_services) .none kV12 dc12 pm12 an12 cd12 ct12), sl12⟩)
    (c12 : PySem.W.codeIn K cd12 "Moment.end_services" = true) (k12 : PySem.W.keepIn K (.ref f12) = true)
    (a13 : PySem.W.findIn K (.ref C_Moment) "go_on" = some (some (.ref f13))) (i13 : PySem.W.isFn K (.ref f13) = true)
    (l13 : K.lookup f13 = some ⟨oc13, od13, .func (PySem.W.fnOf "go_on" "Moment.go_on" (defArgs s_Moment_go_on) (defBody s_Moment_go_on) (defScope s_Moment_go_on) .none kV13 dc13 pm13 an13 cd13 ct13), sl13⟩)
    (c13 : PySem.W.codeIn K cd13 "Moment.go_on" = true) (k13 : PySem.W.keepIn K (.ref f13) = true)
    (a14 : PySem.W.findIn K (.ref C_Moment) "chosen" = some (some (.ref f14))) (i14 : PySem.W.isFn K (.ref f14) = true)
    (l14 : K.lookup f14 = some ⟨oc14, od14, .func (PySem.W.fnOf "chosen" "Moment.chosen" (defArgs s_Moment_chosen) (defBody s_Moment_chosen) (defScope s_Moment_chosen) .none kV14 dc14 pm14 an14 cd14 ct14), sl14⟩)
    (c14 : PySem.W.codeIn K cd14 "Moment.chosen" = true) (k14 : PySem.W.keepIn K (.ref f14) = true)
    (a15 : PySem.W.findIn K (.ref C_Moment) "begin_services" = some (some (.ref f15))) (i15 : PySem.W.isFn K (.ref f15) = true)
    (l15 : K.lookup f15 = some ⟨oc15, od15, .func (PySem.W.fnOf "begin_services" "Moment.begin_services" (defArgs s_Moment_begin_services) (defBody s_Moment_begin_services) (defScope s_Moment_begin_services) .none kV15 dc15 pm15 an15 cd15 ct15), sl15⟩)
    (c15 : PySem.W.codeIn K cd15 "Moment.begin_services" = true) (k15 : PySem.W.keepIn K (.ref f15) = true)
    (a16 : PySem.W.findIn K (.ref C_Moment) "settle" = some (some (.ref f16))) (i16 : PySem.W.isFn K (.ref f16) = true)
    (l16 : K.lookup f16 = some ⟨oc16, od16, .func (PySem.W.fnOf "settle" "Moment.settle" (defArgs s_Moment_settle) (defBody s_Moment_settle) (defScope s_Moment_settle) .none kV16 dc16 pm16 an16 cd16 ct16), sl16⟩)
    (c16 : PySem.W.codeIn K cd16 "Moment.settle" = true) (k16 : PySem.W.keepIn K (.ref f16) = true)
    (a17 : PySem.W.findIn K (.ref C_Moment) "arrive" = some (some (.ref f17))) (i17 : PySem.W.isFn K (.ref f17) = true)
    (l17 : K.lookup f17 = some ⟨oc17, od17, .func (PySem.W.fnOf "arrive" "Moment.arrive" (defArgs s_Moment_arrive) (defBody s_Moment_arrive) (defScope s_Moment_arrive) .none kV17 dc17 pm17 an17 cd17 ct17), sl17⟩)
    (c17 : PySem.W.codeIn K cd17 "Moment.arrive" = true) (k17 : PySem.W.keepIn K (.ref f17) = true)
    (a18 : PySem.W.findIn K (.ref C_Moment) "told_state" = some (some (.ref f18))) (i18 : PySem.W.isFn K (.ref f18) = true)
    (l18 : K.lookup f18 = some ⟨oc18, od18, .func (PySem.W.fnOf "told_state" "Moment.told_state" (defArgs s_Moment_told_state) (defBody s_Moment_told_state) (defScope s_Moment_told_state) .none kV18 dc18 pm18 an18 cd18 ct18), sl18⟩)
    (c18 : PySem.W.codeIn K cd18 "Moment.told_state" = true) (k18 : PySem.W.keepIn K (.ref f18) = true)
    (a19 : PySem.W.nsIn K mainGlobals "happen" = some (some (.ref f19)))
    (l19 : K.lookup f19 = some ⟨oc19, od19, .func (PySem.W.fnOf "happen" "happen" (defArgs s_happen) (defBody s_happen) (defScope s_happen) .none kV19 dc19 pm19 an19 cd19 ct19), sl19⟩)
    (c19 : PySem.W.codeIn K cd19 "happen" = true) (k19 : PySem.W.keepIn K (.ref f19) = true)
    (a20 : PySem.W.nsIn K mainGlobals "last_state" = some (some (.ref f20)))
    (l20 : K.lookup f20 = some ⟨oc20, od20, .func (PySem.W.fnOf "last_state" "last_state" (defArgs s_last_state) (defBody s_last_state) (defScope s_last_state) .none kV20 dc20 pm20 an20 cd20 ct20), sl20⟩)
    (c20 : PySem.W.codeIn K cd20 "last_state" = true) (k20 : PySem.W.keepIn K (.ref f20) = true)
    (a21 : PySem.W.nsIn K mainGlobals "stuck" = some (some (.ref f21)))
    (l21 : K.lookup f21 = some ⟨oc21, od21, .func (PySem.W.fnOf "stuck" "stuck" (defArgs s_stuck) (defBody s_stuck) (defScope s_stuck) .none kV21 dc21 pm21 an21 cd21 ct21), sl21⟩)
    (c21 : PySem.W.codeIn K cd21 "stuck" = true) (k21 : PySem.W.keepIn K (.ref f21) = true)
    (a22 : PySem.W.nsIn K mainGlobals "moved_to" = some (some (.ref f22)))
    (l22 : K.lookup f22 = some ⟨oc22, od22, .func (PySem.W.fnOf "moved_to" "moved_to" (defArgs s_moved_to) (defBody s_moved_to) (defScope s_moved_to) .none kV22 dc22 pm22 an22 cd22 ct22), sl22⟩)
    (c22 : PySem.W.codeIn K cd22 "moved_to" = true) (k22 : PySem.W.keepIn K (.ref f22) = true)
    (a23 : PySem.W.nsIn K mainGlobals "run_from" = some (some (.ref f23)))
    (l23 : K.lookup f23 = some ⟨oc23, od23, .func (PySem.W.fnOf "run_from" "run_from" (defArgs s_run_from) (defBody s_run_from) (defScope s_run_from) .none kV23 dc23 pm23 an23 cd23 ct23), sl23⟩)
    (c23 : PySem.W.codeIn K cd23 "run_from" = true) (k23 : PySem.W.keepIn K (.ref f23) = true)
    (a24 : PySem.W.nsIn K mainGlobals "event_run" = some (some (.ref f24)))
    (l24 : K.lookup f24 = some ⟨oc24, od24, .func (PySem.W.fnOf "event_run" "event_run" (defArgs s_event_run) (defBody s_event_run) (defScope s_event_run) .none kV24 dc24 pm24 an24 cd24 ct24), sl24⟩)
    (c24 : PySem.W.codeIn K cd24 "event_run" = true) (k24 : PySem.W.keepIn K (.ref f24) = true)
    (a25 : PySem.W.nsIn K mainGlobals "steps_at" = some (some (.ref f25)))
    (l25 : K.lookup f25 = some ⟨oc25, od25, .func (PySem.W.fnOf "steps_at" "steps_at" (defArgs s_steps_at) (defBody s_steps_at) (defScope s_steps_at) .none kV25 dc25 pm25 an25 cd25 ct25), sl25⟩)
    (c25 : PySem.W.codeIn K cd25 "steps_at" = true) (k25 : PySem.W.keepIn K (.ref f25) = true)
    (a26 : PySem.W.nsIn K mainGlobals "work" = some (some (.ref f26)))
    (l26 : K.lookup f26 = some ⟨oc26, od26, .func (PySem.W.fnOf "work" "work" (defArgs s_work) (defBody s_work) (defScope s_work) .none kV26 dc26 pm26 an26 cd26 ct26), sl26⟩)
    (c26 : PySem.W.codeIn K cd26 "work" = true) (k26 : PySem.W.keepIn K (.ref f26) = true)
    (a27 : PySem.W.nsIn K mainGlobals "station_bound" = some (some (.ref f27)))
    (l27 : K.lookup f27 = some ⟨oc27, od27, .func (PySem.W.fnOf "station_bound" "station_bound" (defArgs s_station_bound) (defBody s_station_bound) (defScope s_station_bound) .none kV27 dc27 pm27 an27 cd27 ct27), sl27⟩)
    (c27 : PySem.W.codeIn K cd27 "station_bound" = true) (k27 : PySem.W.keepIn K (.ref f27) = true)
    (a28 : PySem.W.nsIn K mainGlobals "job_bound" = some (some (.ref f28)))
    (l28 : K.lookup f28 = some ⟨oc28, od28, .func (PySem.W.fnOf "job_bound" "job_bound" (defArgs s_job_bound) (defBody s_job_bound) (defScope s_job_bound) .none kV28 dc28 pm28 an28 cd28 ct28), sl28⟩)
    (c28 : PySem.W.codeIn K cd28 "job_bound" = true) (k28 : PySem.W.keepIn K (.ref f28) = true)
    (a29 : PySem.W.nsIn K mainGlobals "bottleneck" = some (some (.ref f29)))
    (l29 : K.lookup f29 = some ⟨oc29, od29, .func (PySem.W.fnOf "bottleneck" "bottleneck" (defArgs s_bottleneck) (defBody s_bottleneck) (defScope s_bottleneck) .none kV29 dc29 pm29 an29 cd29 ct29), sl29⟩)
    (c29 : PySem.W.codeIn K cd29 "bottleneck" = true) (k29 : PySem.W.keepIn K (.ref f29) = true)
    (a30 : PySem.W.nsIn K mainGlobals "slack" = some (some (.ref f30)))
    (l30 : K.lookup f30 = some ⟨oc30, od30, .func (PySem.W.fnOf "slack" "slack" (defArgs s_slack) (defBody s_slack) (defScope s_slack) .none kV30 dc30 pm30 an30 cd30 ct30), sl30⟩)
    (c30 : PySem.W.codeIn K cd30 "slack" = true) (k30 : PySem.W.keepIn K (.ref f30) = true)
    (a31 : PySem.W.nsIn K mainGlobals "_law_cell" = some (some (.ref f31)))
    (l31 : K.lookup f31 = some ⟨oc31, od31, .func (PySem.W.fnOf "_law_cell" "_law_cell" (defArgs s_L_cell) (defBody s_L_cell) (defScope s_L_cell) .none kV31 dc31 pm31 an31 cd31 ct31), sl31⟩)
    (c31 : PySem.W.codeIn K cd31 "_law_cell" = true) (k31 : PySem.W.keepIn K (.ref f31) = true)
    (a32 : PySem.W.nsIn K mainGlobals "_law_draw" = some (some (.ref f32)))
    (l32 : K.lookup f32 = some ⟨oc32, od32, .func (PySem.W.fnOf "_law_draw" "_law_draw" (defArgs s_L_draw) (defBody s_L_draw) (defScope s_L_draw) .none kV32 dc32 pm32 an32 cd32 ct32), sl32⟩)
    (c32 : PySem.W.codeIn K cd32 "_law_draw" = true) (k32 : PySem.W.keepIn K (.ref f32) = true)
    (a33 : PySem.W.nsIn K mainGlobals "_law_stations" = some (some (.ref f33)))
    (l33 : K.lookup f33 = some ⟨oc33, od33, .func (PySem.W.fnOf "_law_stations" "_law_stations" (defArgs s_L_stations) (defBody s_L_stations) (defScope s_L_stations) .none kV33 dc33 pm33 an33 cd33 ct33), sl33⟩)
    (c33 : PySem.W.codeIn K cd33 "_law_stations" = true) (k33 : PySem.W.keepIn K (.ref f33) = true)
    (a34 : PySem.W.nsIn K mainGlobals "_law_kinds" = some (some (.ref f34)))
    (l34 : K.lookup f34 = some ⟨oc34, od34, .func (PySem.W.fnOf "_law_kinds" "_law_kinds" (defArgs s_L_kinds) (defBody s_L_kinds) (defScope s_L_kinds) .none kV34 dc34 pm34 an34 cd34 ct34), sl34⟩)
    (c34 : PySem.W.codeIn K cd34 "_law_kinds" = true) (k34 : PySem.W.keepIn K (.ref f34) = true)
    (a35 : PySem.W.nsIn K mainGlobals "_law_model" = some (some (.ref f35)))
    (l35 : K.lookup f35 = some ⟨oc35, od35, .func (PySem.W.fnOf "_law_model" "_law_model" (defArgs s_L_model) (defBody s_L_model) (defScope s_L_model) .none kV35 dc35 pm35 an35 cd35 ct35), sl35⟩)
    (c35 : PySem.W.codeIn K cd35 "_law_model" = true) (k35 : PySem.W.keepIn K (.ref f35) = true)
    (a36 : PySem.W.nsIn K mainGlobals "_law_route" = some (some (.ref f36)))
    (l36 : K.lookup f36 = some ⟨oc36, od36, .func (PySem.W.fnOf "_law_route" "_law_route" (defArgs s_L_route) (defBody s_L_route) (defScope s_L_route) .none kV36 dc36 pm36 an36 cd36 ct36), sl36⟩)
    (c36 : PySem.W.codeIn K cd36 "_law_route" = true) (k36 : PySem.W.keepIn K (.ref f36) = true)
    (a37 : PySem.W.nsIn K mainGlobals "_law_bound" = some (some (.ref f37)))
    (l37 : K.lookup f37 = some ⟨oc37, od37, .func (PySem.W.fnOf "_law_bound" "_law_bound" (defArgs s_L_bound) (defBody s_L_bound) (defScope s_L_bound) .none kV37 dc37 pm37 an37 cd37 ct37), sl37⟩)
    (c37 : PySem.W.codeIn K cd37 "_law_bound" = true) (k37 : PySem.W.keepIn K (.ref f37) = true)
    (a38 : PySem.W.nsIn K mainGlobals "law" = some (some (.ref f38)))
    (l38 : K.lookup f38 = some ⟨oc38, od38, .func (PySem.W.fnOf "law" "law" (defArgs s_law) (defBody s_law) (defScope s_law) .none kV38 dc38 pm38 an38 cd38 ct38), sl38⟩)
    (c38 : PySem.W.codeIn K cd38 "law" = true) (k38 : PySem.W.keepIn K (.ref f38) = true)
    {gt0 gt1 gt2 : Tok} (u0 : PySem.W.nsIn K mainGlobals "ABSENT" = some (some (.int (-1) gt0))) (u1 : PySem.W.nsIn K mainGlobals "LEFT" = some (some (.int (-2) gt1))) (u2 : PySem.W.nsIn K mainGlobals "LOST" = some (some (.int (-3) gt2)))
    (z1 : PySem.W.nsIn K mainGlobals "len" = some none) (z2 : PySem.W.nsIn K mainGlobals "range" = some none) (z3 : PySem.W.nsIn K mainGlobals "max" = some none) (z4 : PySem.W.nsIn K mainGlobals "min" = some none) (z5 : PySem.W.nsIn K mainGlobals "int" = some none) (z6 : PySem.W.nsIn K mainGlobals "tuple" = some none) (z7 : PySem.W.nsIn K mainGlobals "list" = some none) (z8 : PySem.W.nsIn K mainGlobals "sorted" = some none) (z9 : PySem.W.nsIn K mainGlobals "sum" = some none) (z10 : PySem.W.nsIn K mainGlobals "any" = some none) (z11 : PySem.W.nsIn K mainGlobals "all" = some none) (z12 : PySem.W.nsIn K mainGlobals "abs" = some none) (z13 : PySem.W.nsIn K mainGlobals "set" = some none) (z14 : PySem.W.nsIn K mainGlobals "dict" = some none) (z15 : PySem.W.nsIn K mainGlobals "enumerate" = some none) (z16 : PySem.W.nsIn K mainGlobals "zip" = some none) (z17 : PySem.W.nsIn K mainGlobals "str" = some none) (z18 : PySem.W.nsIn K mainGlobals "isinstance" = some none) (z19 : PySem.W.nsIn K mainGlobals "iter" = some none) :
    LamX.LawAtS l w K CX0 11 63 "_law_script" mg fa h := by
  have e := hfa.symm.trans (PySem.W.mg_of X G a38)
  cases e
  have B : BI mg := ⟨PySem.W.mg_none_of X G z1, PySem.W.mg_none_of X G z2, PySem.W.mg_none_of X G z3, PySem.W.mg_none_of X G z4, PySem.W.mg_none_of X G z5, PySem.W.mg_none_of X G z6, PySem.W.mg_none_of X G z7, PySem.W.mg_none_of X G z8, PySem.W.mg_none_of X G z9, PySem.W.mg_none_of X G z10, PySem.W.mg_none_of X G z11, PySem.W.mg_none_of X G z12, PySem.W.mg_none_of X G z13, PySem.W.mg_none_of X G z14, PySem.W.mg_none_of X G z15, PySem.W.mg_none_of X G z16, PySem.W.mg_none_of X G z17, PySem.W.mg_none_of X G z18, PySem.W.mg_none_of X G z19⟩
  letI : Tabs := ⟨[P_4]⟩
  have K_Moment : Cls K C_Moment := ⟨pgC_Moment, hdC_Moment, poC_Moment, saC_Moment⟩
  have O_Moment : ClsOk K "Moment" ["network", "names", "time", "waiting", "serving", "ready", "steps", "events"] := ⟨C_Moment, aC_Moment, K_Moment, fun f hf => by
    simp only [List.mem_cons, List.not_mem_nil, or_false] at hf
    rcases hf with rfl | rfl | rfl | rfl | rfl | rfl | rfl | rfl
    · exact n0_Moment
    · exact n1_Moment
    · exact n2_Moment
    · exact n3_Moment
    · exact n4_Moment
    · exact n5_Moment
    · exact n6_Moment
    · exact n7_Moment⟩
  have Fu1 := fun_mk (st := s_station_names) l1 c1 k1
  have b1 := Fu1.binds (ps := ["some_model"]) fun _ _ _ _ _ _ us hl => match us, hl with | [_], _ => rfl
  have Fu2 := fun_mk (st := s_route_of) l2 c2 k2
  have b2 := Fu2.binds (ps := ["some_model", "job"]) fun _ _ _ _ _ _ us hl => match us, hl with | [_, _], _ => rfl
  have Fu3 := fun_mk (st := s_priority_of) l3 c3 k3
  have b3 := Fu3.binds (ps := ["some_model", "job"]) fun _ _ _ _ _ _ us hl => match us, hl with | [_, _], _ => rfl
  have Fu4 : FunC K "is_paused" "is_paused" s_is_paused f4 _ c_4 := ⟨⟨oc4, od4, kV4, dc4, pm4, an4, ct4, sl4, rfl, l4, c4⟩, k4⟩
  have b4 := (show Fun K "is_paused" "is_paused" s_is_paused f4 _ from fun_mk (st := s_is_paused) l4 c4 k4).binds (ps := ["some_model", "name", "time"]) fun _ _ _ _ _ _ us hl => match us, hl with | [_, _, _], _ => rfl
  have Fu5 := fun_mk (st := s_first_state) l5 c5 k5
  have b5 := Fu5.binds (ps := ["some_model"]) fun _ _ _ _ _ _ us hl => match us, hl with | [_], _ => rfl
  have Fu6 := fun_mk (st := s_next_time) l6 c6 k6
  have b6 := Fu6.binds (ps := ["some_model", "state"]) fun _ _ _ _ _ _ us hl => match us, hl with | [_, _], _ => rfl
  have Fu7 := fun_mk (st := s_Moment___init__) l7 c7 k7
  have b7 := Fu7.binds (ps := ["self", "some_model", "state"]) fun _ _ _ _ _ _ us hl => match us, hl with | [_, _, _], _ => rfl
  have Fu8 := fun_mk (st := s_Moment_put) l8 c8 k8
  have b8 := Fu8.binds (ps := ["self", "word", "job", "name"]) fun _ _ _ _ _ _ us hl => match us, hl with | [_, _, _, _], _ => rfl
  have Fu9 := fun_mk (st := s_Moment_here) l9 c9 k9
  have b9 := Fu9.binds (ps := ["self", "job"]) fun _ _ _ _ _ _ us hl => match us, hl with | [_, _], _ => rfl
  have Fu10 := fun_mk (st := s_Moment_ready_at) l10 c10 k10
  have b10 := Fu10.binds (ps := ["self", "name"]) fun _ _ _ _ _ _ us hl => match us, hl with | [_, _], _ => rfl
  have Fu11 := fun_mk (st := s_Moment_is_full) l11 c11 k11
  have b11 := Fu11.binds (ps := ["self", "name"]) fun _ _ _ _ _ _ us hl => match us, hl with | [_, _], _ => rfl
  have Fu12 := fun_mk (st := s_Moment_end_services) l12 c12 k12
  have b12 := Fu12.binds (ps := ["self"]) fun _ _ _ _ _ _ us hl => match us, hl with | [_], _ => rfl
  have Fu13 := fun_mk (st := s_Moment_go_on) l13 c13 k13
  have b13 := Fu13.binds (ps := ["self", "pair"]) fun _ _ _ _ _ _ us hl => match us, hl with | [_, _], _ => rfl
  have Fu14 := fun_mk (st := s_Moment_chosen) l14 c14 k14
  have b14 := Fu14.binds (ps := ["self", "place"]) fun _ _ _ _ _ _ us hl => match us, hl with | [_, _], _ => rfl
  have Fu15 := fun_mk (st := s_Moment_begin_services) l15 c15 k15
  have b15 := Fu15.binds (ps := ["self", "place"]) fun _ _ _ _ _ _ us hl => match us, hl with | [_, _], _ => rfl
  have Fu16 := fun_mk (st := s_Moment_settle) l16 c16 k16
  have b16 := Fu16.binds (ps := ["self"]) fun _ _ _ _ _ _ us hl => match us, hl with | [_], _ => rfl
  have Fu17 := fun_mk (st := s_Moment_arrive) l17 c17 k17
  have b17 := Fu17.binds (ps := ["self"]) fun _ _ _ _ _ _ us hl => match us, hl with | [_], _ => rfl
  have Fu18 := fun_mk (st := s_Moment_told_state) l18 c18 k18
  have b18 := Fu18.binds (ps := ["self"]) fun _ _ _ _ _ _ us hl => match us, hl with | [_], _ => rfl
  have Fu19 := fun_mk (st := s_happen) l19 c19 k19
  have b19 := Fu19.binds (ps := ["some_model", "state"]) fun _ _ _ _ _ _ us hl => match us, hl with | [_, _], _ => rfl
  have Fu20 := fun_mk (st := s_last_state) l20 c20 k20
  have b20 := Fu20.binds (ps := ["some_model"]) fun _ _ _ _ _ _ us hl => match us, hl with | [_], _ => rfl
  have Fu21 := fun_mk (st := s_stuck) l21 c21 k21
  have b21 := Fu21.binds (ps := ["some_model"]) fun _ _ _ _ _ _ us hl => match us, hl with | [_], _ => rfl
  have Fu22 := fun_mk (st := s_moved_to) l22 c22 k22
  have b22 := Fu22.binds (ps := ["state", "time"]) fun _ _ _ _ _ _ us hl => match us, hl with | [_, _], _ => rfl
  have Fu23 := fun_mk (st := s_run_from) l23 c23 k23
  have b23 := Fu23.binds (ps := ["some_model", "state"]) fun _ _ _ _ _ _ us hl => match us, hl with | [_, _], _ => rfl
  have Fu24 := fun_mk (st := s_event_run) l24 c24 k24
  have b24 := Fu24.binds (ps := ["some_model"]) fun _ _ _ _ _ _ us hl => match us, hl with | [_], _ => rfl
  have Fu25 := fun_mk (st := s_steps_at) l25 c25 k25
  have b25 := Fu25.binds (ps := ["some_model", "name"]) fun _ _ _ _ _ _ us hl => match us, hl with | [_, _], _ => rfl
  have Fu26 := fun_mk (st := s_work) l26 c26 k26
  have b26 := Fu26.binds (ps := ["some_model", "name"]) fun _ _ _ _ _ _ us hl => match us, hl with | [_, _], _ => rfl
  have Fu27 := fun_mk (st := s_station_bound) l27 c27 k27
  have b27 := Fu27.binds (ps := ["some_model", "name"]) fun _ _ _ _ _ _ us hl => match us, hl with | [_, _], _ => rfl
  have Fu28 := fun_mk (st := s_job_bound) l28 c28 k28
  have b28 := Fu28.binds (ps := ["some_model", "job"]) fun _ _ _ _ _ _ us hl => match us, hl with | [_, _], _ => rfl
  have Fu29 := fun_mk (st := s_bottleneck) l29 c29 k29
  have b29 := Fu29.binds (ps := ["some_model"]) fun _ _ _ _ _ _ us hl => match us, hl with | [_], _ => rfl
  have Fu30 := fun_mk (st := s_slack) l30 c30 k30
  have b30 := Fu30.binds (ps := ["some_model"]) fun _ _ _ _ _ _ us hl => match us, hl with | [_], _ => rfl
  have Fu31 := fun_mk (st := s_L_cell) l31 c31 k31
  have b31 := Fu31.binds (ps := ["_law_script", "_law_k"]) fun _ _ _ _ _ _ us hl => match us, hl with | [_, _], _ => rfl
  have Fu32 := fun_mk (st := s_L_draw) l32 c32 k32
  have b32 := Fu32.binds (ps := ["_law_script", "_law_k", "_law_sizes"]) fun _ _ _ _ _ _ us hl => match us, hl with | [_, _, _], _ => rfl
  have Fu33 := fun_mk (st := s_L_stations) l33 c33 k33
  have b33 := Fu33.binds (ps := ["_law_script", "_law_k"]) fun _ _ _ _ _ _ us hl => match us, hl with | [_, _], _ => rfl
  have Fu34 := fun_mk (st := s_L_kinds) l34 c34 k34
  have b34 := Fu34.binds (ps := ["_law_script", "_law_k", "_law_many"]) fun _ _ _ _ _ _ us hl => match us, hl with | [_, _, _], _ => rfl
  have Fu35 := fun_mk (st := s_L_model) l35 c35 k35
  have b35 := Fu35.binds (ps := ["_law_script", "_law_k"]) fun _ _ _ _ _ _ us hl => match us, hl with | [_, _], _ => rfl
  have Fu36 := fun_mk (st := s_L_route) l36 c36 k36
  have b36 := Fu36.binds (ps := ["_law_model_here", "_law_job"]) fun _ _ _ _ _ _ us hl => match us, hl with | [_, _], _ => rfl
  have Fu37 := fun_mk (st := s_L_bound) l37 c37 k37
  have b37 := Fu37.binds (ps := ["_law_model_here", "_law_name", "_law_servers"]) fun _ _ _ _ _ _ us hl => match us, hl with | [_, _, _], _ => rfl
  have Fu38 := fun_mk (st := s_law) l38 c38 k38
  refine ⟨PySem.W.fnOf "law" "law" (defArgs s_law) (defBody s_law) (defScope s_law) .none kV38 dc38 pm38 an38 cd38 ct38, [(c_4, P_4)], spP K 1 F_law, fun p hp => ?_, fun p hp => ?_, fun p hp => ?_, fun s v => .of_eq rfl, fun H a ns hl _ hH hS => law_headT (by decide) law_true H a ns hl (fun p hp => ?_) hS, fun base _ _ TB => ?_⟩
  · simp only [List.mem_cons, List.not_mem_nil, or_false] at hp
    rcases hp with rfl
    · exact own "is_paused" f4 r4 (PySem.W.mg_of X G a4) c_4 P_4 _ _ _ _ _ _ l4 rfl rfl h4 v4
  · simp only [List.mem_cons, List.not_mem_nil, or_false] at hp
    rcases hp with rfl
    · exact n4
  · simp only [List.mem_cons, List.not_mem_nil, or_false] at hp
    rcases hp with rfl
    · exact PySem.W.codeHd_of_K X q4
  · have hp : p ∈ [P_4] := hp
    simp only [List.mem_cons, List.not_mem_nil, or_false] at hp
    rcases hp with hp
    · rw [hp]; exact ⟨#[], hH (c_4, P_4) (by simp), trivial⟩
  have D1 : Df l.prog w K mg base 1 "station_names" 1 F_station_names := ⟨_, _, _, ok_station_names Fu1 B, callF_len, PySem.W.mg_of X G a1, k1, b1⟩
  have D2 : Df l.prog w K mg base 1 "route_of" 2 F_route_of := ⟨_, _, _, ok_route_of Fu2 B, callF_len, PySem.W.mg_of X G a2, k2, b2⟩
  have D3 : Df l.prog w K mg base 1 "priority_of" 2 F_priority_of := ⟨_, _, _, ok_priority_of Fu3 B, callF_len, PySem.W.mg_of X G a3, k3, b3⟩
  have D4 : Df l.prog w K mg base 1 "is_paused" 3 F_is_paused := ⟨_, _, _, ok_is_paused Fu4 B ⟨(TB (c_4, P_4) (by simp)).1, (TB (c_4, P_4) (by simp)).2, (TB (c_4, P_4) (by simp)).3⟩ (show P_4 ∈ ([P_4] : List Addr) by simp), callF_len, PySem.W.mg_of X G a4, k4, b4⟩
  have D5 : Df l.prog w K mg base 1 "first_state" 1 F_first_state := ⟨_, _, _, ok_first_state Fu5 B ⟨_, PySem.W.mg_of X G u0⟩, callF_len, PySem.W.mg_of X G a5, k5, b5⟩
  have D6 : Df l.prog w K mg base 1 "next_time" 2 F_next_time := ⟨_, _, _, ok_next_time Fu6 B, callF_len, PySem.W.mg_of X G a6, k6, b6⟩
  have I_Moment : DfI l.prog w K mg base 2 "Moment" 3 X_Moment___init__ := ⟨_, _, _, _, PySem.W.mg_of X G aC_Moment, aC_Moment, ⟨mkC_Moment, a7, i7, kcC_Moment⟩, ok_Moment___init__ Fu7 B D1 O_Moment, callM_len, b7⟩
  have D8 : DfM l.prog w K mg base 1 "Moment" "put" 4 X_Moment_put := ⟨_, _, _, _, aC_Moment, K_Moment, ⟨a8, i8, k8⟩, ok_Moment_put Fu8 B O_Moment, callM_len, b8⟩
  have D9 : DfP l.prog w K mg base 2 "Moment" "here" 2 F_Moment_here := ⟨_, _, _, _, aC_Moment, K_Moment, ⟨a9, i9, k9⟩, ok_Moment_here Fu9 B D2 O_Moment, callF_len, b9⟩
  have D10 : DfP l.prog w K mg base 3 "Moment" "ready_at" 2 F_Moment_ready_at := ⟨_, _, _, _, aC_Moment, K_Moment, ⟨a10, i10, k10⟩, ok_Moment_ready_at Fu10 B D9 O_Moment, callF_len, b10⟩
  have D11 : DfP l.prog w K mg base 4 "Moment" "is_full" 2 F_Moment_is_full := ⟨_, _, _, _, aC_Moment, K_Moment, ⟨a11, i11, k11⟩, ok_Moment_is_full Fu11 B D10 O_Moment, callF_len, b11⟩
  have D12 : DfM l.prog w K mg base 3 "Moment" "end_services" 1 X_Moment_end_services := ⟨_, _, _, _, aC_Moment, K_Moment, ⟨a12, i12, k12⟩, ok_Moment_end_services Fu12 B D8 D9 O_Moment, callM_len, b12⟩
  have D13 : DfM l.prog w K mg base 5 "Moment" "go_on" 2 X_Moment_go_on := ⟨_, _, _, _, aC_Moment, K_Moment, ⟨a13, i13, k13⟩, ok_Moment_go_on Fu13 B D2 D8 D9 D11 O_Moment ⟨_, PySem.W.mg_of X G u1⟩, callM_len, b13⟩
  have D14 : DfP l.prog w K mg base 2 "Moment" "chosen" 2 F_Moment_chosen := ⟨_, _, _, _, aC_Moment, K_Moment, ⟨a14, i14, k14⟩, ok_Moment_chosen Fu14 B D3 O_Moment, callF_len, b14⟩
  have D15 : DfM l.prog w K mg base 4 "Moment" "begin_services" 2 X_Moment_begin_services := ⟨_, _, _, _, aC_Moment, K_Moment, ⟨a15, i15, k15⟩, ok_Moment_begin_services Fu15 B D10 D14 D8 D2 O_Moment, callM_len, b15⟩
  have D16 : DfM l.prog w K mg base 6 "Moment" "settle" 1 X_Moment_settle := ⟨_, _, _, _, aC_Moment, K_Moment, ⟨a16, i16, k16⟩, ok_Moment_settle Fu16 B D13 D4 D15 O_Moment, callM_len, b16⟩
  have D17 : DfM l.prog w K mg base 5 "Moment" "arrive" 1 X_Moment_arrive := ⟨_, _, _, _, aC_Moment, K_Moment, ⟨a17, i17, k17⟩, ok_Moment_arrive Fu17 B D2 D11 D8 O_Moment ⟨_, PySem.W.mg_of X G u2⟩, callM_len, b17⟩
  have D18 : DfP l.prog w K mg base 1 "Moment" "told_state" 1 F_Moment_told_state := ⟨_, _, _, _, aC_Moment, K_Moment, ⟨a18, i18, k18⟩, ok_Moment_told_state Fu18 B O_Moment, callF_len, b18⟩
  have D19 : Df l.prog w K mg base 7 "happen" 2 F_happen := ⟨_, _, _, ok_happen Fu19 B D18 I_Moment D12 D16 D17 D8 D9 O_Moment, callF_len, PySem.W.mg_of X G a19, k19, b19⟩
  have D20 : Df l.prog w K mg base 8 "last_state" 1 F_last_state := ⟨_, _, _, ok_last_state Fu20 B D5 D6 D19, callF_len, PySem.W.mg_of X G a20, k20, b20⟩
  have D21 : Df l.prog w K mg base 9 "stuck" 1 F_stuck := ⟨_, _, _, ok_stuck Fu21 B D20, callF_len, PySem.W.mg_of X G a21, k21, b21⟩
  have D22 : Df l.prog w K mg base 1 "moved_to" 2 F_moved_to := ⟨_, _, _, ok_moved_to Fu22 B, callF_len, PySem.W.mg_of X G a22, k22, b22⟩
  have D23 : Df l.prog w K mg base 8 "run_from" 2 F_run_from := ⟨_, _, _, ok_run_from Fu23 B D6 D22 D19, callF_len, PySem.W.mg_of X G a23, k23, b23⟩
  have D24 : Df l.prog w K mg base 9 "event_run" 1 F_event_run := ⟨_, _, _, ok_event_run Fu24 B D5 D23, callF_len, PySem.W.mg_of X G a24, k24, b24⟩
  have D25 : Df l.prog w K mg base 2 "steps_at" 2 F_steps_at := ⟨_, _, _, ok_steps_at Fu25 B D2, callF_len, PySem.W.mg_of X G a25, k25, b25⟩
  have D26 : Df l.prog w K mg base 3 "work" 2 F_work := ⟨_, _, _, ok_work Fu26 B D25, callF_len, PySem.W.mg_of X G a26, k26, b26⟩
  have D27 : Df l.prog w K mg base 4 "station_bound" 2 F_station_bound := ⟨_, _, _, ok_station_bound Fu27 B D25 D26, callF_len, PySem.W.mg_of X G a27, k27, b27⟩
  have D28 : Df l.prog w K mg base 2 "job_bound" 2 F_job_bound := ⟨_, _, _, ok_job_bound Fu28 B D2, callF_len, PySem.W.mg_of X G a28, k28, b28⟩
  have D29 : Df l.prog w K mg base 5 "bottleneck" 1 F_bottleneck := ⟨_, _, _, ok_bottleneck Fu29 B D1 D27 D28, callF_len, PySem.W.mg_of X G a29, k29, b29⟩
  have D30 : Df l.prog w K mg base 10 "slack" 1 F_slack := ⟨_, _, _, ok_slack Fu30 B D24 D21 D29, callF_len, PySem.W.mg_of X G a30, k30, b30⟩
  have D31 : Df l.prog w K mg base 1 "_law_cell" 2 F_L_cell := ⟨_, _, _, ok_L_cell Fu31 B, callF_len, PySem.W.mg_of X G a31, k31, b31⟩
  have D32 : Df l.prog w K mg base 2 "_law_draw" 3 F_L_draw := ⟨_, _, _, ok_L_draw Fu32 B D31, callF_len, PySem.W.mg_of X G a32, k32, b32⟩
  have D33 : Df l.prog w K mg base 3 "_law_stations" 2 F_L_stations := ⟨_, _, _, ok_L_stations Fu33 B D32, callF_len, PySem.W.mg_of X G a33, k33, b33⟩
  have D34 : Df l.prog w K mg base 3 "_law_kinds" 3 F_L_kinds := ⟨_, _, _, ok_L_kinds Fu34 B D32, callF_len, PySem.W.mg_of X G a34, k34, b34⟩
  have D35 : Df l.prog w K mg base 4 "_law_model" 2 F_L_model := ⟨_, _, _, ok_L_model Fu35 B D33 D34 D32, callF_len, PySem.W.mg_of X G a35, k35, b35⟩
  have D36 : Df l.prog w K mg base 1 "_law_route" 2 F_L_route := ⟨_, _, _, ok_L_route Fu36 B, callF_len, PySem.W.mg_of X G a36, k36, b36⟩
  have D37 : Df l.prog w K mg base 2 "_law_bound" 3 F_L_bound := ⟨_, _, _, ok_L_bound Fu37 B D36, callF_len, PySem.W.mg_of X G a37, k37, b37⟩
  exact ok_law Fu38 B D35 D37 D26 D27 D36 D28 D29 D24 D30
end DL
open PySem PySem.W PyProof.Rows
set_option maxRecDepth 100000 in
set_option maxHeartbeats 0 in
theorem PySem.Challenge.cw_eventsteps_k51_work_and_bounds_holds : PySem.Challenge.rw_eventsteps_k51_work_and_bounds.Holds := by
  w_on; o_law; k_head; (case hw => w_witness2)
  k_fill
  refine DL.walk_ofAll (l := PySem.Challenge.rw_eventsteps_k51_work_and_bounds) (n := 63) (k := 11) (x := "_law_script") (CX := fun _ => L2.CX0) rfl (by decide) rfl ⟨rfl, by decide, by decide⟩ (fun w h Y => PySem.W.kIn_of Y) ?F (fun _ _ _ _ _ h => h)
  case F =>
    intro w mg fa h Y KX G hmg own
    refine' DL.all_mk KX G hmg own ?aC_Moment ?pgC_Moment ?hdC_Moment ?poC_Moment ?saC_Moment ?mkC_Moment ?kcC_Moment ?n0_Moment ?n1_Moment ?n2_Moment ?n3_Moment ?n4_Moment ?n5_Moment ?n6_Moment ?n7_Moment ?a1 ?l1 ?c1 ?k1 ?a2 ?l2 ?c2 ?k2 ?a3 ?l3 ?c3 ?k3 ?a4 ?l4 ?c4 ?k4 ?h4 ?v4 ?q4 ?n4 ?r4 ?a5 ?l5 ?c5 ?k5 ?a6 ?l6 ?c6 ?k6 ?a7 ?i7 ?l7 ?c7 ?k7 ?a8 ?i8 ?l8 ?c8 ?k8 ?a9 ?i9 ?l9 ?c9 ?k9 ?a10 ?i10 ?l10 ?c10 ?k10 ?a11 ?i11 ?l11 ?c11 ?k11 ?a12 ?i12 ?l12 ?c12 ?k12 ?a13 ?i13 ?l13 ?c13 ?k13 ?a14 ?i14 ?l14 ?c14 ?k14 ?a15 ?i15 ?l15 ?c15 ?k15 ?a16 ?i16 ?l16 ?c16 ?k16 ?a17 ?i17 ?l17 ?c17 ?k17 ?a18 ?i18 ?l18 ?c18 ?k18 ?a19 ?l19 ?c19 ?k19 ?a20 ?l20 ?c20 ?k20 ?a21 ?l21 ?c21 ?k21 ?a22 ?l22 ?c22 ?k22 ?a23 ?l23 ?c23 ?k23 ?a24 ?l24 ?c24 ?k24 ?a25 ?l25 ?c25 ?k25 ?a26 ?l26 ?c26 ?k26 ?a27 ?l27 ?c27 ?k27 ?a28 ?l28 ?c28 ?k28 ?a29 ?l29 ?c29 ?k29 ?a30 ?l30 ?c30 ?k30 ?a31 ?l31 ?c31 ?k31 ?a32 ?l32 ?c32 ?k32 ?a33 ?l33 ?c33 ?k33 ?a34 ?l34 ?c34 ?k34 ?a35 ?l35 ?c35 ?k35 ?a36 ?l36 ?c36 ?k36 ?a37 ?l37 ?c37 ?k37 ?a38 ?l38 ?c38 ?k38 ?u0 ?u1 ?u2 ?z1 ?z2 ?z3 ?z4 ?z5 ?z6 ?z7 ?z8 ?z9 ?z10 ?z11 ?z12 ?z13 ?z14 ?z15 ?z16 ?z17 ?z18 ?z19
    (case aC_Moment => k_is)
    (case pgC_Moment => k_is)
    (case hdC_Moment => k_is)
    (case poC_Moment => k_is)
    (case saC_Moment => k_is)
    (case mkC_Moment => k_is)
    (case kcC_Moment => k_is)
    (case n0_Moment => k_is)
    (case n1_Moment => k_is)
    (case n2_Moment => k_is)
    (case n3_Moment => k_is)
    (case n4_Moment => k_is)
    (case n5_Moment => k_is)
    (case n6_Moment => k_is)
    (case n7_Moment => k_is)
    (case a1 => k_is)
    (case l1 => k_is)
    (case c1 => k_is)
    (case k1 => k_is)
    (case a2 => k_is)
    (case l2 => k_is)
    (case c2 => k_is)
    (case k2 => k_is)
    (case a3 => k_is)
    (case l3 => k_is)
    (case c3 => k_is)
    (case k3 => k_is)
    (case a4 => k_is)
    (case l4 => k_is)
    (case c4 => k_is)
    (case k4 => k_is)
    (case h4 => k_is)
    (case v4 => first | rfl | kernel_rfl)
    (case q4 => first | kernel_rfl | rfl)
    (case n4 => first | k_is | kernel_rfl | rfl)
    (case r4 => first | kernel_rfl | rfl)
    (case a5 => k_is)
    (case l5 => k_is)
    (case c5 => k_is)
    (case k5 => k_is)
    (case a6 => k_is)
    (case l6 => k_is)
    (case c6 => k_is)
    (case k6 => k_is)
    (case a7 => k_is)
    (case i7 => k_is)
    (case l7 => k_is)
    (case c7 => k_is)
    (case k7 => k_is)
    (case a8 => k_is)
    (case i8 => k_is)
    (case l8 => k_is)
    (case c8 => k_is)
    (case k8 => k_is)
    (case a9 => k_is)
    (case i9 => k_is)
    (case l9 => k_is)
    (case c9 => k_is)
    (case k9 => k_is)
    (case a10 => k_is)
    (case i10 => k_is)
    (case l10 => k_is)
    (case c10 => k_is)
    (case k10 => k_is)
    (case a11 => k_is)
    (case i11 => k_is)
    (case l11 => k_is)
    (case c11 => k_is)
    (case k11 => k_is)
    (case a12 => k_is)
    (case i12 => k_is)
    (case l12 => k_is)
    (case c12 => k_is)
    (case k12 => k_is)
    (case a13 => k_is)
    (case i13 => k_is)
    (case l13 => k_is)
    (case c13 => k_is)
    (case k13 => k_is)
    (case a14 => k_is)
    (case i14 => k_is)
    (case l14 => k_is)
    (case c14 => k_is)
    (case k14 => k_is)
    (case a15 => k_is)
    (case i15 => k_is)
    (case l15 => k_is)
    (case c15 => k_is)
    (case k15 => k_is)
    (case a16 => k_is)
    (case i16 => k_is)
    (case l16 => k_is)
    (case c16 => k_is)
    (case k16 => k_is)
    (case a17 => k_is)
    (case i17 => k_is)
    (case l17 => k_is)
    (case c17 => k_is)
    (case k17 => k_is)
    (case a18 => k_is)
    (case i18 => k_is)
    (case l18 => k_is)
    (case c18 => k_is)
    (case k18 => k_is)
    (case a19 => k_is)
    (case l19 => k_is)
    (case c19 => k_is)
    (case k19 => k_is)
    (case a20 => k_is)
    (case l20 => k_is)
    (case c20 => k_is)
    (case k20 => k_is)
    (case a21 => k_is)
    (case l21 => k_is)
    (case c21 => k_is)
    (case k21 => k_is)
    (case a22 => k_is)
    (case l22 => k_is)
    (case c22 => k_is)
    (case k22 => k_is)
    (case a23 => k_is)
    (case l23 => k_is)
    (case c23 => k_is)
    (case k23 => k_is)
    (case a24 => k_is)
    (case l24 => k_is)
    (case c24 => k_is)
    (case k24 => k_is)
    (case a25 => k_is)
    (case l25 => k_is)
    (case c25 => k_is)
    (case k25 => k_is)
    (case a26 => k_is)
    (case l26 => k_is)
    (case c26 => k_is)
    (case k26 => k_is)
    (case a27 => k_is)
    (case l27 => k_is)
    (case c27 => k_is)
    (case k27 => k_is)
    (case a28 => k_is)
    (case l28 => k_is)
    (case c28 => k_is)
    (case k28 => k_is)
    (case a29 => k_is)
    (case l29 => k_is)
    (case c29 => k_is)
    (case k29 => k_is)
    (case a30 => k_is)
    (case l30 => k_is)
    (case c30 => k_is)
    (case k30 => k_is)
    (case a31 => k_is)
    (case l31 => k_is)
    (case c31 => k_is)
    (case k31 => k_is)
    (case a32 => k_is)
    (case l32 => k_is)
    (case c32 => k_is)
    (case k32 => k_is)
    (case a33 => k_is)
    (case l33 => k_is)
    (case c33 => k_is)
    (case k33 => k_is)
    (case a34 => k_is)
    (case l34 => k_is)
    (case c34 => k_is)
    (case k34 => k_is)
    (case a35 => k_is)
    (case l35 => k_is)
    (case c35 => k_is)
    (case k35 => k_is)
    (case a36 => k_is)
    (case l36 => k_is)
    (case c36 => k_is)
    (case k36 => k_is)
    (case a37 => k_is)
    (case l37 => k_is)
    (case c37 => k_is)
    (case k37 => k_is)
    (case a38 => k_is)
    (case l38 => k_is)
    (case c38 => k_is)
    (case k38 => k_is)
    (case u0 => k_is)
    (case u1 => k_is)
    (case u2 => k_is)
    (case z1 => k_is)
    (case z2 => k_is)
    (case z3 => k_is)
    (case z4 => k_is)
    (case z5 => k_is)
    (case z6 => k_is)
    (case z7 => k_is)
    (case z8 => k_is)
    (case z9 => k_is)
    (case z10 => k_is)
    (case z11 => k_is)
    (case z12 => k_is)
    (case z13 => k_is)
    (case z14 => k_is)
    (case z15 => k_is)
    (case z16 => k_is)
    (case z17 => k_is)
    (case z18 => k_is)
    (case z19 => k_is)

