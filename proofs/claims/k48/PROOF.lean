import PyProof.Rows.All
import Wide.All
import OpenK.AllK
import Wide.FinOn
import HandS.ForMost
import HandS.ForExc
import HandS.Wide
import HandS.TupAny
import HandS.Deep
import HandS.TupLe
import HandS.Rev
import HandS.Conv
import HandS.Style
import HandS.Dict
import HandS.Iter
import HandS.Zip
import HandS.Comp
import HandS.IsInst
import HandS.Text
import HandS.Ends
import HandS.Exc
import HandS.ExcOwn
import HandS.WordsExc
import HandS.Codes
import HandS.StrMore
import HandS.SortInts
import HandS.ExcIs
import KE.KExcIs
import KE.RegKIsAll
import KE.RegKTryMore
import HandS.MapJoin
import HandS.MapObj
import HandS.RevTup
import PyProof.ListNew
import PyProof.ListRange
import HandS.Set
import HandS.Strs
import HandS.SetFor
import HandS.TryMany
import HandS.More
import PyProof.SliceStr2
import PyProof.CollectStr
import PySem.Challenge.RW_onceround_k48_turning_rules
set_option Elab.async false
set_option linter.all false
set_option maxRecDepth 100000
set_option maxHeartbeats 4000000
namespace Z
noncomputable section
open PySem PySem.Spec PyProof.Rows L2

/-! ### data -/
inductive D where
  | non | bl (b : Bool) | int (i : Int) | str (x : List Nat) | lst (xs : List D) | tup (xs : List D) | dic (ks : List Key) (vs : List D)
  | obj (c : Nat) (vs : List D) | exc (c : Nat) (vs : List D)
  deriving Inhabited

inductive R (A : Type) where
  | ok (a : A) | ex (c : Nat) (vs : List D) | bad
def R.bind {A B : Type} (x : R A) (f : A → R B) : R B := match x with
  | .ok a => f a
  | .ex c vs => .ex c vs
  | .bad => .bad
instance : Monad R where
  pure := R.ok
  bind := R.bind

/-- a slot: nothing, a shared value, an own object, an own object that is locked -/
inductive Sl where
  | no | sh (d : D) | ow (d : D) | lk (d : D)
abbrev SS := List Sl
inductive RS where
  | nx (s : SS) | rt (fresh : Bool) (d : D) | bk (s : SS) | ct (s : SS) | ex (c : Nat) (vs : List D) (s : SS) | bad

/-- what is known of the program's classes -/
structure GE where
  K : PySem.W.Frag
  cls : Nat → Option (Addr × List Str)
  xcl : Nat → Option (Addr × List Str)

/-- the object of a caught exception -/
def exo (a : Addr) (cls : Value) (dx : Option Addr) : HO := .ext fun h => ∃ oe vs, h.get? a = some oe ∧ Zc cls dx oe ∧ oe.data = .fields vs

/-- signs that there are -/
def okS (x : List Nat) : Bool := x.all fun c => decide (c < 1114112)

mutual
def Rep (G : GE) (H : Hp) : D → V → Prop
  | .non, v => v = .non
  | .bl b, v => v = .bl b
  | .int i, v => v = .int i
  | .str x, v => v = .str ⟨x.toArray⟩ ∧ okS x = true
  | .lst ds, v => ∃ a xs, v = .ref a ∧ SqL G.K H a xs ∧ RepL G H ds xs
  | .tup ds, v => ∃ a xs, v = .ref a ∧ SqT G.K H a xs ∧ RepL G H ds xs
  | .dic ks ds, v => ∃ a kvs, v = .ref a ∧ (∃ o, H a = some (.frz o (.dK kvs))) ∧ kvs.map (·.1) = ks ∧ ks.Nodup ∧ RepL G H ds (kvs.map (·.2))
  | .obj c ds, v => ∃ a C dx fs ns, v = .ref a ∧ G.cls c = some (C, ns) ∧ H a = some (.ins C dx fs) ∧ fs.map (·.1) = ns ∧ RepL G H ds (fs.map (·.2))
  | .exc c ds, v => ∃ a C ns dx, v = .ref a ∧ G.xcl c = some (C, ns) ∧ H a = some (exo a (.ref C) dx) ∧
      ((ns = [] ∧ dx = none ∧ ds = []) ∨ ∃ d fs, dx = some d ∧ H d = some (.xd fs) ∧ fs.map (·.1) = ns ∧ RepL G H ds (fs.map (·.2)))
def RepL (G : GE) (H : Hp) : List D → List V → Prop
  | [], vs => vs = []
  | d :: ds, vs => ∃ v r, vs = v :: r ∧ Rep G H d v ∧ RepL G H ds r
end

theorem Same.rd {H H' : Hp} {a : Addr} {u : HO} (s : Same H H') (h : Rd H a u) : Rd H' a u := by
  rcases h with h | ⟨o, h⟩
  · exact .inl (s _ _ h)
  · exact .inr ⟨o, s _ _ h⟩
theorem Same.seqT {K : PySem.W.Frag} {H H' : Hp} {a : Addr} {xs : List V} (e : Same H H') (h : SqT K H a xs) : SqT K H' a xs := by
  rcases h with h | h
  · exact .inl (Same.rd e h)
  · exact .inr h

mutual
theorem Rep.mono {G : GE} {H H' : Hp} (s : Same H H') : ∀ {d : D} {v : V}, Rep G H d v → Rep G H' d v
  | .non, v, h => by unfold Rep at h ⊢; exact h
  | .bl b, v, h => by unfold Rep at h ⊢; exact h
  | .int i, v, h => by unfold Rep at h ⊢; exact h
  | .str x, v, h => by unfold Rep at h ⊢; exact h
  | .lst ds, v, h => by
    unfold Rep at h ⊢
    obtain ⟨a, xs, e, q, r⟩ := h
    exact ⟨a, xs, e, s.seq q, RepL.mono s r⟩
  | .tup ds, v, h => by
    unfold Rep at h ⊢
    obtain ⟨a, xs, e, q, r⟩ := h
    exact ⟨a, xs, e, Same.seqT s q, RepL.mono s r⟩
  | .dic ks ds, v, h => by
    unfold Rep at h ⊢
    obtain ⟨a, kvs, e, ⟨o, q⟩, k, nd, r⟩ := h
    exact ⟨a, kvs, e, ⟨o, s _ _ q⟩, k, nd, RepL.mono s r⟩
  | .obj c ds, v, h => by
    unfold Rep at h ⊢
    obtain ⟨a, C, dx, fs, ns, e, g, q, k, r⟩ := h
    exact ⟨a, C, dx, fs, ns, e, g, s _ _ q, k, RepL.mono s r⟩
  | .exc c ds, v, h => by
    unfold Rep at h ⊢
    obtain ⟨a, C, ns, dx, e, g, q, k⟩ := h
    refine ⟨a, C, ns, dx, e, g, s _ _ q, ?_⟩
    rcases k with k | ⟨d, fs, e1, e2, e3, r⟩
    · exact .inl k
    · exact .inr ⟨d, fs, e1, s _ _ e2, e3, RepL.mono s r⟩
theorem RepL.mono {G : GE} {H H' : Hp} (s : Same H H') : ∀ {ds : List D} {vs : List V}, RepL G H ds vs → RepL G H' ds vs
  | [], vs, h => by unfold RepL at h ⊢; exact h
  | d :: ds, vs, h => by
    unfold RepL at h ⊢
    obtain ⟨v, r, e, h1, h2⟩ := h
    exact ⟨v, r, e, Rep.mono s h1, RepL.mono s h2⟩
end

section
variable {G : GE} {H : Hp}
theorem RepL.nil : RepL G H [] [] := by unfold RepL; rfl
theorem RepL.cons {d : D} {ds : List D} {v : V} {vs : List V} (a : Rep G H d v) (b : RepL G H ds vs) : RepL G H (d :: ds) (v :: vs) := by unfold RepL; exact ⟨v, vs, rfl, a, b⟩
theorem RepL.length : ∀ {ds : List D} {vs : List V}, RepL G H ds vs → vs.length = ds.length
  | [], vs, h => by unfold RepL at h; subst h; rfl
  | d :: ds, vs, h => by
    unfold RepL at h
    obtain ⟨v, r, rfl, _, h⟩ := h
    rw [List.length_cons, List.length_cons, RepL.length h]
theorem RepL.append : ∀ {ds es : List D} {vs us : List V}, RepL G H ds vs → RepL G H es us → RepL G H (ds ++ es) (vs ++ us)
  | [], _, vs, _, h, k => by unfold RepL at h; subst h; exact k
  | d :: ds, _, vs, _, h, k => by
    unfold RepL at h
    obtain ⟨v, r, rfl, h1, h⟩ := h
    exact RepL.cons h1 (RepL.append h k)
theorem RepL.get : ∀ {ds : List D} {vs : List V} {i : Nat} {d : D}, RepL G H ds vs → ds[i]? = some d → ∃ v, vs[i]? = some v ∧ Rep G H d v
  | [], vs, i, d, h, e => by simp at e
  | d :: ds, vs, 0, e, h, k => by
    unfold RepL at h
    obtain ⟨v, r, rfl, h1, h⟩ := h
    simp at k
    subst k
    exact ⟨v, rfl, h1⟩
  | d :: ds, vs, i + 1, e, h, k => by
    unfold RepL at h
    obtain ⟨v, r, rfl, h1, h⟩ := h
    obtain ⟨u, h2, h3⟩ := RepL.get (i := i) h (by simpa using k)
    exact ⟨u, by simpa using h2, h3⟩
theorem RepL.get' {ds : List D} {vs : List V} {i : Nat} {v : V} (h : RepL G H ds vs) (e : vs[i]? = some v) : ∃ d, ds[i]? = some d ∧ Rep G H d v := by
  have hl := h.length
  obtain ⟨hi, _⟩ := List.getElem?_eq_some_iff.mp e
  have hi' : i < ds.length := by omega
  obtain ⟨u, h1, h2⟩ := h.get (List.getElem?_eq_getElem hi')
  rw [e] at h1
  cases h1
  exact ⟨_, List.getElem?_eq_getElem hi', h2⟩
theorem RepL.of_get : ∀ {ds : List D} {vs : List V}, vs.length = ds.length → (∀ (i : Nat) (d : D) (v : V), ds[i]? = some d → vs[i]? = some v → Rep G H d v) → RepL G H ds vs
  | [], vs, e, h => by
    have : vs = [] := List.eq_nil_of_length_eq_zero e
    subst this
    exact RepL.nil
  | d :: ds, [], e, h => by simp at e
  | d :: ds, v :: vs, e, h => RepL.cons (h 0 d v rfl rfl) (RepL.of_get (by simpa using e) fun i d' v' e1 e2 => h (i + 1) d' v' (by simpa using e1) (by simpa using e2))
theorem RepL.take {ds : List D} {vs : List V} (n : Nat) (h : RepL G H ds vs) : RepL G H (ds.take n) (vs.take n) :=
  RepL.of_get (by simp [h.length]) fun i d v e1 e2 => by
    rw [List.getElem?_take] at e1 e2
    split at e1
    · rename_i hi
      rw [if_pos hi] at e2
      obtain ⟨u, h1, h2⟩ := h.get e1
      rw [e2] at h1
      cases h1
      exact h2
    · cases e1
theorem RepL.drop {ds : List D} {vs : List V} (n : Nat) (h : RepL G H ds vs) : RepL G H (ds.drop n) (vs.drop n) :=
  RepL.of_get (by simp [h.length]) fun i d v e1 e2 => by
    rw [List.getElem?_drop] at e1 e2
    obtain ⟨u, h1, h2⟩ := h.get e1
    rw [e2] at h1
    cases h1
    exact h2
theorem RepL.set {ds : List D} {vs : List V} {d : D} {v : V} (n : Nat) (h : RepL G H ds vs) (q : Rep G H d v) : RepL G H (ds.set n d) (vs.set n v) :=
  RepL.of_get (by simp [h.length]) fun i e u e1 e2 => by
    have hl := h.length
    by_cases hi : n = i
    · subst hi
      by_cases hn : n < ds.length
      · rw [List.getElem?_set_self hn] at e1
        rw [List.getElem?_set_self (by omega)] at e2
        cases e1; cases e2
        exact q
      · rw [List.getElem?_eq_none (by simpa using hn)] at e1
        cases e1
    · rw [List.getElem?_set_ne hi] at e1 e2
      obtain ⟨u', h1, h2⟩ := h.get e1
      rw [e2] at h1
      cases h1
      exact h2
theorem rep_int {i : Int} {v : V} : Rep G H (.int i) v ↔ v = .int i := by unfold Rep; exact Iff.rfl
theorem rep_bl {i : Bool} {v : V} : Rep G H (.bl i) v ↔ v = .bl i := by unfold Rep; exact Iff.rfl
theorem rep_str {i : List Nat} {v : V} : Rep G H (.str i) v ↔ v = .str ⟨i.toArray⟩ ∧ okS i = true := by unfold Rep; exact Iff.rfl
theorem rep_non {v : V} : Rep G H .non v ↔ v = .non := by unfold Rep; exact Iff.rfl
theorem rep_lst {ds : List D} {v : V} : Rep G H (.lst ds) v ↔ ∃ a xs, v = .ref a ∧ SqL G.K H a xs ∧ RepL G H ds xs := by conv => lhs; unfold Rep
theorem rep_tup {ds : List D} {v : V} : Rep G H (.tup ds) v ↔ ∃ a xs, v = .ref a ∧ SqT G.K H a xs ∧ RepL G H ds xs := by conv => lhs; unfold Rep
theorem rep_dic {ks : List Key} {ds : List D} {v : V} : Rep G H (.dic ks ds) v ↔ ∃ a kvs, v = .ref a ∧ (∃ o, H a = some (.frz o (.dK kvs))) ∧ kvs.map (·.1) = ks ∧ ks.Nodup ∧ RepL G H ds (kvs.map (·.2)) := by conv => lhs; unfold Rep
theorem rep_obj {c : Nat} {ds : List D} {v : V} : Rep G H (.obj c ds) v ↔ ∃ a C dx fs ns, v = .ref a ∧ G.cls c = some (C, ns) ∧ H a = some (.ins C dx fs) ∧ fs.map (·.1) = ns ∧ RepL G H ds (fs.map (·.2)) := by conv => lhs; unfold Rep
end

/-! ### own objects -/
def OwR (G : GE) (F H : Hp) (a : Addr) : D → Prop
  | .lst ds => ∃ xs, H a = some (.lst xs) ∧ RepL G F ds xs
  | .dic ks ds => ∃ kvs, H a = some (.dK kvs) ∧ kvs.map (·.1) = ks ∧ ks.Nodup ∧ RepL G F ds (kvs.map (·.2))
  | .obj c ds => ∃ C dx fs ns, G.cls c = some (C, ns) ∧ H a = some (.ins C dx fs) ∧ fs.map (·.1) = ns ∧ RepL G F ds (fs.map (·.2))
  | _ => False
theorem OwR.mono {G : GE} {F F' H H' : Hp} {a : Addr} {d : D} (f : Same F F') (h : ∀ o, H a = some o → H' a = some o) (q : OwR G F H a d) : OwR G F' H' a d := by
  cases d <;> try exact False.elim q
  · obtain ⟨xs, e, r⟩ := q
    exact ⟨xs, h _ e, RepL.mono f r⟩
  · obtain ⟨kvs, e, k, nd, r⟩ := q
    exact ⟨kvs, h _ e, k, nd, RepL.mono f r⟩
  · obtain ⟨C, dx, fs, ns, g, e, k, r⟩ := q
    exact ⟨C, dx, fs, ns, g, h _ e, k, RepL.mono f r⟩
theorem OwR.there {G : GE} {F H : Hp} {a : Addr} {d : D} (q : OwR G F H a d) : ∃ o, H a = some o := by
  cases d <;> try exact False.elim q
  · obtain ⟨xs, e, r⟩ := q
    exact ⟨_, e⟩
  · obtain ⟨kvs, e, k, nd, r⟩ := q
    exact ⟨_, e⟩
  · obtain ⟨C, dx, fs, ns, g, e, k, r⟩ := q
    exact ⟨_, e⟩
/-- an object laid fast -/
def Fz (o o' : HO) : Prop := o' = o ∨ ∃ od kvs, o = .dK kvs ∧ o' = .frz od (.dK kvs)
def isDic : D → Bool
  | .dic _ _ => true
  | _ => false
/-- an own object frozen -/
theorem OwR.rep {G : GE} {F H F' : Hp} {a : Addr} {d : D} (q : OwR G F H a d) (f : Same F F') (h : ∀ o, H a = some o → ∃ o', F' a = some o' ∧ Fz o o' ∧ (isDic d = true → o' ≠ o)) : Rep G F' d (.ref a) := by
  cases d <;> try exact False.elim q
  · obtain ⟨xs, e, r⟩ := q
    obtain ⟨o', e1, z, -⟩ := h _ e
    rcases z with rfl | ⟨_, _, z, _⟩
    · exact rep_lst.mpr ⟨a, xs, rfl, .inl (.inl e1), RepL.mono f r⟩
    · cases z
  · obtain ⟨kvs, e, k, nd, r⟩ := q
    obtain ⟨o', e1, z, n⟩ := h _ e
    rcases z with rfl | ⟨od, _, z, rfl⟩
    · exact absurd rfl (n rfl)
    · cases z
      exact rep_dic.mpr ⟨a, kvs, rfl, ⟨od, e1⟩, k, nd, RepL.mono f r⟩
  · obtain ⟨C, dx, fs, ns, g, e, k, r⟩ := q
    obtain ⟨o', e1, z, -⟩ := h _ e
    rcases z with rfl | ⟨_, _, z, _⟩
    · exact rep_obj.mpr ⟨a, C, dx, fs, ns, rfl, g, e1, k, RepL.mono f r⟩
    · cases z
theorem OwR.rep1 {G : GE} {F H F' : Hp} {a : Addr} {d : D} (hd : isDic d = false) (q : OwR G F H a d) (f : Same F F') (h : ∀ o, H a = some o → F' a = some o) : Rep G F' d (.ref a) :=
  q.rep f fun o e => ⟨o, h o e, .inl rfl, fun z => by rw [hd] at z; cases z⟩

/-- a value that is read: shared, or an own object -/
def Bor (G : GE) (F H : Hp) (d : D) (v : V) : Prop := Rep G F d v ∨ ∃ a, v = .ref a ∧ F a = none ∧ OwR G F H a d

/-! ### the state -/
structure Ext (F H F' H' : Hp) : Prop where
  ff : Same F F'
  hh : Same H H'
  fh : Same F' H'
  ow : ∀ b o, H b = some o → F b = none → F' b = none
theorem Ext.refl {F H : Hp} (s : Same F H) : Ext F H F H := ⟨Same.refl F, Same.refl H, s, fun _ _ _ h => h⟩
theorem Ext.trans {F H F1 H1 F2 H2 : Hp} (a : Ext F H F1 H1) (b : Ext F1 H1 F2 H2) : Ext F H F2 H2 :=
  ⟨a.ff.trans b.ff, a.hh.trans b.hh, b.fh, fun c o h1 h2 => b.ow c o (a.hh _ _ h1) (a.ow c o h1 h2)⟩
/-- a new object that is shared -/
theorem Ext.new {F H : Hp} {p : Addr} {o : HO} (s : Same F H) (n : H p = none) : Ext F H (upd F p o) (upd H p o) := by
  have nf : F p = none := s.free n
  refine ⟨same_upd' nf, same_upd' n, fun b u e => ?_, fun b u e1 e2 => ?_⟩
  · by_cases hb : b = p
    · subst hb; rw [upd_same] at e ⊢; exact e
    · rw [upd_ne hb] at e ⊢; exact s _ _ e
  · have hb : b ≠ p := fun z => by subst z; rw [n] at e1; cases e1
    rw [upd_ne hb]; exact e2
where
  same_upd' {H : Hp} {p : Addr} {o : HO} (h : H p = none) : Same H (upd H p o) := fun b x e => by
    rw [upd_ne (ne_of_none e h)]
    exact e
theorem same_new {H : Hp} {p : Addr} {o : HO} (h : H p = none) : Same H (upd H p o) := fun b x e => by
  rw [upd_ne (ne_of_none e h)]
  exact e
/-- a new object that is not shared -/
theorem Ext.newOwn {F H : Hp} {p : Addr} {o : HO} (s : Same F H) (n : H p = none) : Ext F H F (upd H p o) :=
  ⟨Same.refl F, same_new n, s.trans (same_new n), fun _ _ _ h => h⟩

theorem Bor.mono {G : GE} {F H F' H' : Hp} {d : D} {v : V} (e : Ext F H F' H') (h : Bor G F H d v) : Bor G F' H' d v := by
  rcases h with h | ⟨a, rfl, hn, q⟩
  · exact .inl (Rep.mono e.ff h)
  · obtain ⟨o, ho⟩ := q.there
    exact .inr ⟨a, rfl, e.ow _ _ ho hn, q.mono e.ff fun o h => e.hh _ _ h⟩

/-- the body's own context: the classes, the entry, what is wanted of an exception -/
structure CT where
  G : GE
  F0 : Hp
  H0 : Hp

structure StR (C : CT) (F H : Hp) (sd : SS) (σ : L2.St) : Prop where
  ext : Ext C.F0 C.H0 F H
  len : sd.length = σ.length
  sh : ∀ (i : Nat) (d : D), sd[i]? = some (.sh d) → ∃ v, σ[i]? = some (some v) ∧ Rep C.G F d v
  ow : ∀ (i : Nat) (d : D), sd[i]? = some (.ow d) ∨ sd[i]? = some (.lk d) → ∃ a, σ[i]? = some (some (.ref a)) ∧ C.H0 a = none ∧ F a = none ∧ OwR C.G F H a d
  dis : ∀ (i j : Nat) (d e : D) (a : Addr), sd[i]? = some (.ow d) ∨ sd[i]? = some (.lk d) → sd[j]? = some (.ow e) ∨ sd[j]? = some (.lk e) → σ[i]? = some (some (.ref a)) → σ[j]? = some (some (.ref a)) → i = j
theorem StR.fh {C : CT} {F H : Hp} {sd : SS} {σ : L2.St} (s : StR C F H sd σ) : Same F H := s.ext.fh
theorem StR.mono {C : CT} {F H F' H' : Hp} {sd : SS} {σ : L2.St} (s : StR C F H sd σ) (e : Ext F H F' H') : StR C F' H' sd σ := by
  refine ⟨s.ext.trans e, s.len, fun i d h => ?_, fun i d h => ?_, s.dis⟩
  · obtain ⟨v, h1, h2⟩ := s.sh i d h
    exact ⟨v, h1, Rep.mono e.ff h2⟩
  · obtain ⟨a, h1, h2, h3, h4⟩ := s.ow i d h
    obtain ⟨o, ho⟩ := h4.there
    exact ⟨a, h1, h2, e.ow _ _ ho h3, h4.mono e.ff fun o h => e.hh _ _ h⟩

/-! ### readings -/
/-- an exception of class c with the fields vs -/
def XR (G : GE) (F : Hp) (c : Nat) (vs : List D) (cls : Value) (dx : Option Addr) : Prop :=
  ∃ C ns, G.xcl c = some (C, ns) ∧ cls = .ref C ∧ ((ns = [] ∧ dx = none ∧ vs = []) ∨ ∃ d fs, dx = some d ∧ F d = some (.xd fs) ∧ fs.map (·.1) = ns ∧ RepL G F vs (fs.map (·.2)))

/-- what is wanted behind an expression with the result r -/
def PostE (C : CT) (W : WX) (F H : Hp) (σ : L2.St) (P : Hp → Hp → D → V → Prop) (Q : VK) : R D → Prop
  | .ok d => ∀ v F' H', Ext F H F' H' → P F' H' d v → Q v H'
  | .ex c vs => ∀ cls dx F' H', Ext F H F' H' → XR C.G F' c vs cls dx → W cls dx σ H'
  | .bad => False
abbrev pD (C : CT) : Hp → Hp → D → V → Prop := fun F _ d v => Rep C.G F d v
abbrev pB (C : CT) : Hp → Hp → D → V → Prop := fun F H d v => Bor C.G F H d v
/-- a new object that nobody holds -/
abbrev pF (C : CT) (H₀ : Hp) : Hp → Hp → D → V → Prop := fun F H d v => ∃ a, v = .ref a ∧ H₀ a = none ∧ F a = none ∧ OwR C.G F H a d
/-- a reading: shared value -/
def tD (C : CT) (W : WX) (f : SS → R D) : TE := fun σ H Q => ∃ F sd, StR C F H sd σ ∧ PostE C W F H σ (pD C) Q (f sd)
def tB (C : CT) (W : WX) (f : SS → R D) : TE := fun σ H Q => ∃ F sd, StR C F H sd σ ∧ PostE C W F H σ (pB C) Q (f sd)
def tF (C : CT) (W : WX) (f : SS → R D) : TE := fun σ H Q => ∃ F sd, StR C F H sd σ ∧ PostE C W F H σ (pF C H) Q (f sd)
/-- a test -/
def PostT (C : CT) (W : WX) (F H : Hp) (σ : L2.St) (Q : Bool → Hp → Prop) : R D → Prop
  | .ok (.bl b) => ∀ F' H', Ext F H F' H' → Q b H'
  | .ok _ => False
  | .ex c vs => ∀ cls dx F' H', Ext F H F' H' → XR C.G F' c vs cls dx → W cls dx σ H'
  | .bad => False
def tT (C : CT) (W : WX) (f : SS → R D) : TT := fun σ H Q => ∃ F sd, StR C F H sd σ ∧ PostT C W F H σ Q (f sd)
/-- arguments -/
def PostA (C : CT) (W : WX) (F H : Hp) (σ : L2.St) (P : Hp → Hp → D → V → Prop) (Q : List V → Hp → Prop) : R (List D) → Prop
  | .ok ds => ∀ vs F' H', Ext F H F' H' → Paired (P F' H') ds vs → Q vs H'
  | .ex c vs => ∀ cls dx F' H', Ext F H F' H' → XR C.G F' c vs cls dx → W cls dx σ H'
  | .bad => False
def tA (C : CT) (W : WX) (f : SS → R (List D)) : TA := fun σ H Q => ∃ F sd, StR C F H sd σ ∧ PostA C W F H σ (pD C) Q (f sd)
def tAB (C : CT) (W : WX) (f : SS → R (List D)) : TA := fun σ H Q => ∃ F sd, StR C F H sd σ ∧ PostA C W F H σ (pB C) Q (f sd)

/-! ### what a value that is read looks like -/
section
variable {G : GE} {F H : Hp} {v : V}
theorem bor_int {i : Int} (h : Bor G F H (.int i) v) : v = .int i := by
  rcases h with h | ⟨_, _, _, h⟩
  · exact rep_int.mp h
  · exact h.elim
theorem bor_bl {i : Bool} (h : Bor G F H (.bl i) v) : v = .bl i := by
  rcases h with h | ⟨_, _, _, h⟩
  · exact rep_bl.mp h
  · exact h.elim
theorem bor_non (h : Bor G F H .non v) : v = .non := by
  rcases h with h | ⟨_, _, _, h⟩
  · exact rep_non.mp h
  · exact h.elim
theorem bor_str {x : List Nat} (h : Bor G F H (.str x) v) : v = .str ⟨x.toArray⟩ ∧ okS x = true := by
  rcases h with h | ⟨_, _, _, h⟩
  · exact rep_str.mp h
  · exact h.elim
theorem bor_lst {ds : List D} (s : Same F H) (h : Bor G F H (.lst ds) v) : ∃ a xs, v = .ref a ∧ SqL G.K H a xs ∧ RepL G F ds xs := by
  rcases h with h | ⟨a, e, _, xs, h, r⟩
  · obtain ⟨a, xs, e, q, r⟩ := rep_lst.mp h
    exact ⟨a, xs, e, s.seq q, r⟩
  · exact ⟨a, xs, e, SqL.of h, r⟩
theorem bor_tup {ds : List D} (s : Same F H) (h : Bor G F H (.tup ds) v) : ∃ a xs, v = .ref a ∧ SqT G.K H a xs ∧ RepL G F ds xs := by
  rcases h with h | ⟨a, e, _, h⟩
  · obtain ⟨a, xs, e, q, r⟩ := rep_tup.mp h
    exact ⟨a, xs, e, Same.seqT s q, r⟩
  · exact h.elim
theorem bor_dic {ks : List Key} {ds : List D} (s : Same F H) (h : Bor G F H (.dic ks ds) v) : ∃ a kvs, v = .ref a ∧ Rd H a (.dK kvs) ∧ kvs.map (·.1) = ks ∧ ks.Nodup ∧ RepL G F ds (kvs.map (·.2)) := by
  rcases h with h | ⟨a, e, _, kvs, h, k, nd, r⟩
  · obtain ⟨a, kvs, e, q, k, nd, r⟩ := rep_dic.mp h
    obtain ⟨o, q⟩ := q
    exact ⟨a, kvs, e, .inr ⟨o, s _ _ q⟩, k, nd, r⟩
  · exact ⟨a, kvs, e, .inl h, k, nd, r⟩
theorem bor_obj {c : Nat} {ds : List D} (s : Same F H) (h : Bor G F H (.obj c ds) v) : ∃ a C dx fs ns, v = .ref a ∧ G.cls c = some (C, ns) ∧ H a = some (.ins C dx fs) ∧ fs.map (·.1) = ns ∧ RepL G F ds (fs.map (·.2)) := by
  rcases h with h | ⟨a, e, _, C, dx, fs, ns, g, h, k, r⟩
  · obtain ⟨a, C, dx, fs, ns, e, g, q, k, r⟩ := rep_obj.mp h
    exact ⟨a, C, dx, fs, ns, e, g, s _ _ q, k, r⟩
  · exact ⟨a, C, dx, fs, ns, e, g, h, k, r⟩
end

/-! ### composing -/
section
variable {C : CT} {W : WX} {F H F1 H1 : Hp} {σ : L2.St} {P P1 : Hp → Hp → D → V → Prop} {Q Q1 : VK}
theorem PostE.ext {r : R D} (e : Ext F H F1 H1) (h : PostE C W F H σ P Q r) : PostE C W F1 H1 σ P Q r := by
  cases r with
  | ok d => exact fun v F' H' e' p => h v F' H' (e.trans e') p
  | ex c vs => exact fun cls dx F' H' e' x => h cls dx F' H' (e.trans e') x
  | bad => exact h
theorem PostE.bind {x : R D} {k : D → R D} (h : PostE C W F H σ P Q (x.bind k))
    (hk : ∀ d v F1 H1, Ext F H F1 H1 → P1 F1 H1 d v → PostE C W F1 H1 σ P Q (k d) → Q1 v H1) : PostE C W F H σ P1 Q1 x := by
  cases x with
  | ok d => exact fun v F' H' e p => hk d v F' H' e p (PostE.ext e h)
  | ex c vs => exact h
  | bad => exact h
theorem PostE.imp {r : R D} (h : PostE C W F H σ P Q r) (hP : ∀ F' H' d v, Ext F H F' H' → P1 F' H' d v → P F' H' d v) : PostE C W F H σ P1 Q r := by
  cases r with
  | ok d => exact fun v F' H' e p => h v F' H' e (hP _ _ _ _ e p)
  | ex c vs => exact h
  | bad => exact h
end
theorem pe_imp {X : Cx} {e : Expr} {t t' : TE} (h : PE X e t) (i : ∀ σ H Q, t' σ H Q → t σ H Q) : PE X e t' := ⟨fun pins s σ H Q I q => h.run pins s σ H Q I (i σ H Q q)⟩
theorem pt_imp {X : Cx} {e : Expr} {t t' : TT} (h : PT X e t) (i : ∀ σ H Q, t' σ H Q → t σ H Q) : PT X e t' := ⟨fun pins s σ H Q I q => h.run pins s σ H Q I (i σ H Q q)⟩
theorem pa_imp {X : Cx} {e : List Expr} {t t' : TA} (h : PA X e t) (i : ∀ σ H Q, t' σ H Q → t σ H Q) : PA X e t' := ⟨fun pos pins s σ H Q I q => h.run pos pins s σ H Q I (i σ H Q q)⟩
theorem ps_imp {X : Cx} {e : Stmt} {t t' : TS} (h : PS X e t) (i : ∀ D σ H, t' D σ H → t D σ H) : PS X e t' := ⟨fun pins s σ H D I q => h.run pins s σ H D I (i D σ H q)⟩
theorem pss_imp {X : Cx} {e : List Stmt} {t t' : TS} (h : PSs X e t) (i : ∀ D σ H, t' D σ H → t D σ H) : PSs X e t' := ⟨fun pins s σ H D I q => h.run pins s σ H D I (i D σ H q)⟩

/-! ### names and constants -/
section
variable {X : Cx} {C : CT} {W : WX} {e : Expr} {f : SS → R D} {pos : Pos}
/-- a slot's value, shared -/
def eV (i : Nat) : SS → R D := fun s => match s[i]? with
  | some (.sh d) => .ok d
  | _ => .bad
/-- a slot's value, read -/
def eR (i : Nat) : SS → R D := fun s => match s[i]? with
  | some (.sh d) => .ok d
  | some (.ow d) => .ok d
  | some (.lk d) => .ok d
  | _ => .bad
theorem s_v (i : Nat) {x : Str} (hN : X.N[i]? = some x := by rfl) (hv : Vis X.env.scope x := by first | exact Or.inl rfl | exact Or.inr (Or.inl rfl) | exact Or.inr (Or.inr rfl)) (hd : (x == ("__debug__" : Str)) = false := by decide)
    (hcd : (x == ("__classdict__" : Str)) = false := by decide) : PE X (.Name x pos) (tD C W (eV i)) := pe_imp (pe_var (i := i) hN hv hd hcd) fun σ H Q ⟨F, sd, S, h⟩ => by
  unfold eV at h
  cases q : sd[i]? with
  | none => rw [q] at h; exact h.elim
  | some u =>
    rw [q] at h
    cases u with
    | sh d =>
      obtain ⟨v, e1, e2⟩ := S.sh i d q
      exact ⟨v, e1, h v F H (Ext.refl S.fh) e2⟩
    | _ => exact h.elim
theorem s_r (i : Nat) {x : Str} (hN : X.N[i]? = some x := by rfl) (hv : Vis X.env.scope x := by first | exact Or.inl rfl | exact Or.inr (Or.inl rfl) | exact Or.inr (Or.inr rfl)) (hd : (x == ("__debug__" : Str)) = false := by decide)
    (hcd : (x == ("__classdict__" : Str)) = false := by decide) : PE X (.Name x pos) (tB C W (eR i)) := pe_imp (pe_var (i := i) hN hv hd hcd) fun σ H Q ⟨F, sd, S, h⟩ => by
  unfold eR at h
  cases q : sd[i]? with
  | none => rw [q] at h; exact h.elim
  | some u =>
    rw [q] at h
    cases u with
    | no => exact h.elim
    | sh d =>
      obtain ⟨v, e1, e2⟩ := S.sh i d q
      exact ⟨v, e1, h v F H (Ext.refl S.fh) (.inl e2)⟩
    | ow d =>
      obtain ⟨a, e1, _, e2, e3⟩ := S.ow i d (.inl q)
      exact ⟨_, e1, h _ F H (Ext.refl S.fh) (.inr ⟨a, rfl, e2, e3⟩)⟩
    | lk d =>
      obtain ⟨a, e1, _, e2, e3⟩ := S.ow i d (.inr q)
      exact ⟨_, e1, h _ F H (Ext.refl S.fh) (.inr ⟨a, rfl, e2, e3⟩)⟩
/-- what is shared may be read -/
theorem s_b (h : PE X e (tD C W f)) : PE X e (tB C W f) := pe_imp h fun σ H Q ⟨F, sd, S, h⟩ => ⟨F, sd, S, PostE.imp h fun _ _ _ _ _ p => .inl p⟩
def eC (d : D) : SS → R D := fun _ => .ok d
theorem s_int {i : Int} {j} : PE X (.Constant (.int i) j pos) (tD C W (eC (.int i))) := pe_imp pe_int fun σ H Q ⟨F, sd, S, h⟩ => h _ F H (Ext.refl S.fh) (rep_int.mpr rfl)
theorem s_bl {i : Bool} {j} : PE X (.Constant (.bool i) j pos) (tD C W (eC (.bl i))) := pe_imp pe_bl fun σ H Q ⟨F, sd, S, h⟩ => h _ F H (Ext.refl S.fh) (rep_bl.mpr rfl)
theorem s_non {j} : PE X (.Constant .none j pos) (tD C W (eC .non)) := pe_imp pe_non fun σ H Q ⟨F, sd, S, h⟩ => h _ F H (Ext.refl S.fh) (rep_non.mpr rfl)
theorem s_str {x : Str} {j} (y : List Nat) (e : x.cps.toList = y := by decide +kernel) (k : okS y = true := by decide +kernel) : PE X (.Constant (.str x) j pos) (tD C W (eC (.str y))) := pe_imp pe_str fun σ H Q ⟨F, sd, S, h⟩ => by
  refine h _ F H (Ext.refl S.fh) (rep_str.mpr ⟨?_, k⟩)
  subst e
  rfl
/-- a module's constant -/
theorem s_gint {x : Str} {i : Int} {tk : Tok} (hg : Gl X x) (hm : X.mg x = some (.int i tk)) (hd : (x == ("__debug__" : Str)) = false := by decide) : PE X (.Name x pos) (tD C W (eC (.int i))) :=
  pe_imp (pe_glob (v := .int i) hg hm ⟨_, rfl⟩ hd) fun σ H Q ⟨F, sd, S, h⟩ => h _ F H (Ext.refl S.fh) (rep_int.mpr rfl)
theorem s_gstr {x z : Str} {tk : Tok} (y : List Nat) (hg : Gl X x) (hm : X.mg x = some (.str z tk)) (e : z.cps.toList = y := by decide +kernel) (k : okS y = true := by decide +kernel) (hd : (x == ("__debug__" : Str)) = false := by decide) : PE X (.Name x pos) (tD C W (eC (.str y))) :=
  pe_imp (pe_glob (v := .str z) hg hm ⟨_, rfl⟩ hd) fun σ H Q ⟨F, sd, S, h⟩ => by
    refine h _ F H (Ext.refl S.fh) (rep_str.mpr ⟨?_, k⟩)
    subst e
    rfl
end

/-! ### operators -/
def PostV (G : GE) (F H : Hp) (Q : VK) : R D → Prop
  | .ok d => ∀ v F' H', Ext F H F' H' → Rep G F' d v → Q v H'
  | _ => False
theorem PostE.toV {C : CT} {W : WX} {F H : Hp} {σ : L2.St} {Q : VK} {r : R D} (hne : ∀ c vs, r ≠ .ex c vs) (h : PostE C W F H σ (pD C) Q r) : PostV C.G F H Q r := by
  cases r with
  | ok d => exact h
  | ex c vs => exact (hne c vs rfl).elim
  | bad => exact h
/-- a pure operation: it raises nothing -/
structure Op2 where
  f : D → D → R D
  ne : ∀ x y c vs, f x y ≠ .ex c vs
def r2 (G : GE) (g : D → D → R D) : R2 := fun x y H Q => ∃ F d e, Same F H ∧ Bor G F H d x ∧ Bor G F H e y ∧ PostV G F H Q (g d e)
def r1 (G : GE) (g : D → R D) : V → Hp → VK → Prop := fun x H Q => ∃ F d, Same F H ∧ Bor G F H d x ∧ PostV G F H Q (g d)
def eBin (g : D → D → R D) (fa fb : SS → R D) : SS → R D := fun s => (fa s).bind fun x => (fb s).bind fun y => g x y
def eUn (g : D → R D) (fa : SS → R D) : SS → R D := fun s => (fa s).bind fun x => g x
def NoEx2 (g : D → D → R D) : Prop := ∀ x y c vs, g x y ≠ .ex c vs
def NoEx1 (g : D → R D) : Prop := ∀ x c vs, g x ≠ .ex c vs
section
variable {X : Cx} {C : CT} {W : WX} {a b c : Expr} {fa fb fc : SS → R D} {g g' : D → D → R D} {g1 : D → R D} {pos : Pos}
theorem bin_read (hg : NoEx2 g) {σ : L2.St} {H : Hp} {Q : VK} (h : tD C W (eBin g fa fb) σ H Q) : tOp (r2 C.G g) (tB C W fa) (tB C W fb) σ H Q := by
  obtain ⟨F, sd, S, h⟩ := h
  refine ⟨F, sd, S, PostE.bind h fun d v F1 H1 e1 b1 h1 => ?_⟩
  refine ⟨F1, sd, S.mono e1, PostE.bind h1 fun d2 v2 F2 H2 e2 b2 h2 => ?_⟩
  exact ⟨F2, d, d2, e2.fh, Bor.mono e2 b1, b2, h2.toV (hg d d2)⟩
theorem un_read (hg : NoEx1 g1) {σ : L2.St} {H : Hp} {Q : VK} (h : tD C W (eUn g1 fa) σ H Q) : tUn (r1 C.G g1) (tB C W fa) σ H Q := by
  obtain ⟨F, sd, S, h⟩ := h
  refine ⟨F, sd, S, PostE.bind h fun d v F1 H1 e1 b1 h1 => ?_⟩
  exact ⟨F1, d, e1.fh, b1, h1.toV (hg d)⟩
theorem s_bin {op : Operator} (hg : NoEx2 g) (ho : OpR X (binaryOp op) (r2 C.G g)) (ha : PE X a (tB C W fa)) (hb : PE X b (tB C W fb)) : PE X (.BinOp a op b pos) (tD C W (eBin g fa fb)) :=
  pe_imp (pe_op ho ha hb) fun _ _ _ h => bin_read hg h
theorem s_un {op : UnaryOp} (hg : NoEx1 g1) (ho : UnR X (unaryOp op) (r1 C.G g1)) (ha : PE X a (tB C W fa)) : PE X (.UnaryOp op a pos) (tD C W (eUn g1 fa)) :=
  pe_imp (pe_un ho ha) fun _ _ _ h => un_read hg h
theorem s_cmp {op : CmpOp} (hg : NoEx2 g) (ho : OpR X (compareOp op) (r2 C.G g)) (ha : PE X a (tB C W fa)) (hb : PE X b (tB C W fb)) (hm : behindInMarks op b = false := by first | exact nomark _ | with_unfolding_all rfl) : PE X (.Compare a [op] [b] pos) (tD C W (eBin g fa fb)) :=
  pe_imp (pe_cmpR ho ha hb hm) fun _ _ _ h => bin_read hg h
end
end
end Z
namespace Z
noncomputable section
open PySem PySem.Spec PySem.P PyProof.Rows L2

def SZp : {n : Nat // n = 16777216} := Classical.choice ⟨⟨_, rfl⟩⟩
def SZ : Nat := SZp.1
theorem sz_is : SZ = 16777216 := SZp.2
theorem le_sz {n : Nat} (h : n ≤ 16777216) : n ≤ SZ := by rw [sz_is]; exact h
theorem sz_line {n : Nat} (h : n ≤ SZ) : n ≤ sizeLine := by rw [sizeLine_eq]; rw [sz_is] at h; exact h
theorem okS_append {x y : List Nat} (a : okS x = true) (b : okS y = true) : okS (x ++ y) = true := by
  unfold okS at *
  rw [List.all_append, a, b]
  rfl
theorem okS_take {x : List Nat} (n : Nat) (a : okS x = true) : okS (x.take n) = true := by
  unfold okS at *
  rw [List.all_eq_true] at *
  exact fun c h => a c (List.mem_of_mem_take h)
theorem okS_drop {x : List Nat} (n : Nat) (a : okS x = true) : okS (x.drop n) = true := by
  unfold okS at *
  rw [List.all_eq_true] at *
  exact fun c h => a c (List.mem_of_mem_drop h)
theorem okS_mem {x : List Nat} {c : Nat} (a : okS x = true) (h : c ∈ x) : okS [c] = true := by
  unfold okS at *
  rw [List.all_eq_true] at *
  intro d hd
  rw [List.mem_singleton] at hd
  subst hd
  exact a _ h

section
variable {X : Cx} {G : GE} {F H : Hp} {Q : VK}
theorem PostV.int {i : Int} (S : Same F H) (p : PostV G F H Q (.ok (.int i))) : Q (.int i) H := p _ F H (Ext.refl S) (rep_int.mpr rfl)
theorem PostV.bl {i : Bool} (S : Same F H) (p : PostV G F H Q (.ok (.bl i))) : Q (.bl i) H := p _ F H (Ext.refl S) (rep_bl.mpr rfl)
theorem PostV.str {x : List Nat} (S : Same F H) (k : okS x = true) (p : PostV G F H Q (.ok (.str x))) : Q (.str ⟨x.toArray⟩) H := p _ F H (Ext.refl S) (rep_str.mpr ⟨rfl, k⟩)
/-- a new list of shared items -/
theorem PostV.lst {ds : List D} {vs : List V} (S : Same F H) (r : RepL G F ds vs) (p : PostV G F H Q (.ok (.lst ds))) : ∀ a, H a = none → Q (.ref a) (upd H a (.lst vs)) := fun a ha =>
  p _ (upd F a (.lst vs)) (upd H a (.lst vs)) (Ext.new S ha) (rep_lst.mpr ⟨a, vs, rfl, SqL.of upd_same, RepL.mono (same_new (S.free ha)) r⟩)
theorem PostV.tup {ds : List D} {vs : List V} (S : Same F H) (r : RepL G F ds vs) (p : PostV G F H Q (.ok (.tup ds))) : ∀ a, H a = none → Q (.ref a) (upd H a (.tup vs)) := fun a ha =>
  p _ (upd F a (.tup vs)) (upd H a (.tup vs)) (Ext.new S ha) (rep_tup.mpr ⟨a, vs, rfl, SqT.of upd_same, RepL.mono (same_new (S.free ha)) r⟩)
end

/-! ### + -/
theorem list_addW (l : Addr) (items : Array Value) (n : Nat) (b : Addr) (items2 : Array Value) (n2 : Nat) (sl sl2 : Array (Option Value)) (hc0 : items.size + items2.size ≤ sizeLine) :
    Meets (Builtin.«list.__add__» ⟨[.ref l, .ref b], []⟩) (fun _ R s => s.heap.get? l = some { cls := .type "list", dict := none, data := .seq items n, slots := sl } ∧ s.heap.get? b = some { cls := .type "list", dict := none, data := .seq items2 n2, slots := sl2 } ∧ R (.ok (.ret (Value.ref s.heap.objs.size))) { s with heap := s.heap.push { cls := Value.type "list", data := Data.seq (items ++ items2) }, toks := s.toks }) :=
  .of_wp fun prog w A R s h => by obtain ⟨hp, g, d, tk, os⟩ := s; obtain ⟨hl, hb, h⟩ := h; have f1 := AutoSeq1.idx_int; have f2 := AutoSeq1.sub_tuple_tuple; have f3 := AutoSeq1.sub_list_list; have f4 := AutoSeq1.sub_tuple_list; have f5 := AutoSeq1.sub_list_tuple; wp_walk using AutoSeq1.wpAny_loadPart' hl, AutoSeq1.wpAny_loadPart' hb; exact ⟨_, rfl, h⟩
/-- list + list, both only read -/
def rCatL (K : PySem.W.Frag) : R2 := fun x y H Q => ∃ l b xs zs, x = .ref l ∧ y = .ref b ∧ SqL K H l xs ∧ SqL K H b zs ∧ xs.length + zs.length ≤ sizeLine ∧ ∀ p, H p = none → Q (.ref p) (upd H p (.lst (xs ++ zs)))
theorem op_catL {X : Cx} : OpR X (binaryOp .Add) (rCatL X.K) := by
  intro pins s σ H x y v u Q I rx ry h
  obtain ⟨l, b, xs, zs, rfl, rfl, hH, hB, hz, q⟩ := h
  cases rx
  cases ry
  obtain ⟨its, r, ⟨o, n, e, c1, d1, e1⟩, z⟩ := I.list hH
  obtain ⟨its2, r2, ⟨o2, n2, e2, c2, d2, e3⟩, z2⟩ := I.list hB
  obtain ⟨cls, dd, data, sl⟩ := o
  obtain ⟨cls2, dd2, data2, sl2⟩ := o2
  simp only at c1 d1 e1 c2 d2 e3
  subst c1 d1 e1 c2 d2 e3
  have h1 := r.length
  have h2 := r2.length
  refine concat_meets ⟨_, e, rfl⟩ ⟨_, e2, rfl⟩ noFill_list_add seq_list_add F.slot_list_add F.entry_list_add (F.args_list_add_2 _ _)
    (list_addW l its.toArray n b its2.toArray n2 sl sl2 (by rw [List.size_toArray, List.size_toArray]; omega)) ⟨e, e2, ?_⟩
  have ea : its.toArray ++ its2.toArray = (its ++ its2).toArray := by simp
  rw [ea]
  exact ⟨.ref _, _, I.lnew (t' := s.toks) (r.append r2) (by rw [List.length_append]; omega), rfl, q _ I.fresh⟩

def addD : D → D → R D
  | .int i, .int j => .ok (.int (i + j))
  | .str x, .str y => if x.length + y.length ≤ SZ then .ok (.str (x ++ y)) else .bad
  | .lst x, .lst y => if x.length + y.length ≤ SZ then .ok (.lst (x ++ y)) else .bad
  | .tup x, .tup y => if x.length + y.length ≤ SZ then .ok (.tup (x ++ y)) else .bad
  | _, _ => .bad
theorem addD_ne : NoEx2 addD := fun x y c vs h => by
  unfold addD at h
  split at h <;> first | cases h | (split at h <;> cases h)
theorem strs_app (x y : List Nat) : (⟨x.toArray⟩ : Str) ++ ⟨y.toArray⟩ = ⟨(x ++ y).toArray⟩ := by
  show Str.append _ _ = _
  unfold Str.append
  simp
theorem op_addD {X : Cx} {C : CT} (hK : X.K = C.G.K) : OpR X (binaryOp .Add) (r2 C.G addD) := by
  intro pins s σ H x y v u Q I rx ry h
  obtain ⟨F, d, e, S, bd, be, p⟩ := h
  unfold addD at p
  split at p
  · exact op_add pins s σ H x y v u Q I rx ry ⟨_, _, bor_int bd, bor_int be, p.int S⟩
  · split at p
    · rename_i hz
      obtain ⟨e1, k1⟩ := bor_str bd
      obtain ⟨e2, k2⟩ := bor_str be
      refine op_add_str pins s σ H x y v u Q I rx ry ⟨_, _, e1, e2, ?_, ?_⟩
      · show Array.size _ + Array.size _ ≤ _
        rw [List.size_toArray, List.size_toArray]
        exact sz_line hz
      · rw [strs_app]
        exact p.str S (okS_append k1 k2)
    · exact p.elim
  · split at p
    · rename_i hz
      obtain ⟨a1, xs1, e1, q1, r1⟩ := bor_lst S bd
      obtain ⟨a2, xs2, e2, q2, r2⟩ := bor_lst S be
      rw [← hK] at q1 q2
      refine op_catL pins s σ H x y v u Q I rx ry ⟨a1, a2, xs1, xs2, e1, e2, q1, q2, ?_, p.lst S (r1.append r2)⟩
      rw [r1.length, r2.length]
      exact sz_line hz
    · exact p.elim
  · split at p
    · rename_i hz
      obtain ⟨a1, xs1, e1, q1, r1⟩ := bor_tup S bd
      obtain ⟨a2, xs2, e2, q2, r2⟩ := bor_tup S be
      have l1 := r1.length
      have l2 := r2.length
      have g1 : ∀ {F' : Hp} {ds : List D} {a : Addr} {xs : List V}, SqT C.G.K F' a xs → RepL C.G F' ds xs → Rep C.G F' (.tup ds) (.ref a) := fun q r => rep_tup.mpr ⟨_, _, rfl, q, r⟩
      rw [← hK] at q1 q2
      subst e1 e2
      have b1 : Rep C.G F (.tup _) _ := bd.elim id fun ⟨_, _, _, z⟩ => z.elim
      have b2 : Rep C.G F (.tup _) _ := be.elim id fun ⟨_, _, _, z⟩ => z.elim
      refine op_catA pins s σ H _ _ v u Q I rx ry ⟨a1, a2, xs1, xs2, rfl, rfl, q1, q2, ?_, fun z => ?_, fun _ z => ?_, fun _ _ => p.tup S (r1.append r2)⟩
      · rw [l1, l2]
        exact sz_line hz
      · subst z
        have : _ = [] := List.eq_nil_of_length_eq_zero (l1.symm.trans rfl)
        subst this
        exact p _ F H (Ext.refl S) b2
      · subst z
        have : _ = [] := List.eq_nil_of_length_eq_zero (l2.symm.trans rfl)
        subst this
        rw [List.append_nil] at p
        exact p _ F H (Ext.refl S) b1
    · exact p.elim
  · exact p.elim

def subD : D → D → R D
  | .int i, .int j => .ok (.int (i - j))
  | _, _ => .bad
theorem subD_ne : NoEx2 subD := fun x y c vs h => by
  unfold subD at h
  split at h <;> cases h
theorem op_subD {X : Cx} {G : GE} : OpR X (binaryOp .Sub) (r2 G subD) := by
  intro pins s σ H x y v u Q I rx ry h
  obtain ⟨F, d, e, S, bd, be, p⟩ := h
  unfold subD at p
  split at p
  · exact op_sub pins s σ H x y v u Q I rx ry ⟨_, _, bor_int bd, bor_int be, p.int S⟩
  · exact p.elim

/-! ### * -/
def repS (x : List Nat) (n : Nat) : List Nat := (List.replicate n x).flatten
def mulD : D → D → R D
  | .int i, .int j => @ite _ (i.natAbs < 18446744073709551616 ∨ j.natAbs < 18446744073709551616 ∨ i.natAbs.log2 + j.natAbs.log2 < 1000000) (Classical.propDecidable _) (.ok (.int (i * j))) .bad
  | .str x, .int j => @ite _ (j < 9223372036854775808 ∧ -9223372036854775808 ≤ j ∧ x.length * j.toNat ≤ SZ) (Classical.propDecidable _) (.ok (.str (repS x j.toNat))) .bad
  | .lst x, .int j => @ite _ (j < 9223372036854775808 ∧ -9223372036854775808 ≤ j ∧ x.length * j.toNat ≤ SZ) (Classical.propDecidable _) (.ok (.lst ((List.replicate j.toNat x).flatten))) .bad
  | _, _ => .bad
theorem mulD_ne : NoEx2 mulD := fun x y c vs h => by
  unfold mulD at h
  split at h <;> first | cases h | (split at h <;> cases h)
theorem okS_rep {x : List Nat} (n : Nat) (h : okS x = true) : okS (repS x n) = true := by
  unfold okS repS at *
  rw [List.all_eq_true] at *
  intro c hc
  obtain ⟨l, hl, hcl⟩ := List.mem_flatten.mp hc
  rw [List.mem_replicate] at hl
  rw [hl.2] at hcl
  exact h c hcl
theorem fold_rep (x : List Nat) : ∀ (n : Nat) (acc : List Nat), List.foldl (· ++ ·) acc.toArray (List.replicate n x.toArray) = (acc ++ repS x n).toArray
  | 0, acc => by simp [repS]
  | n + 1, acc => by
    rw [List.replicate_succ, List.foldl_cons]
    have e : acc.toArray ++ x.toArray = (acc ++ x).toArray := by simp
    rw [e, fold_rep x n (acc ++ x)]
    unfold repS
    rw [List.replicate_succ, List.flatten_cons, List.append_assoc]
theorem list_mulW (l : Addr) (items : Array Value) (n : Nat) (sl : Array (Option Value)) (x : Int) (u : Tok) (hc0 : ¬(!Builtin.List.listFitsIndex x) = true) (hc1 : ¬items.size * x.toNat > (2 ^ 63 - 1) / 8) (hc2 : ¬Builtin.List.listTooLong (items.size * x.toNat) = true) :
    Meets (Builtin.«list.__mul__» ⟨[.ref l, .int x u], []⟩) (fun _ R s => s.heap.get? l = some { cls := .type "list", dict := none, data := .seq items n, slots := sl } ∧ R (.ok (.ret (Value.ref s.heap.objs.size))) { s with heap := s.heap.push { cls := Value.type "list", data := Data.seq (List.foldl (fun x1 x2 => x1 ++ x2) #[] (List.replicate (if items.isEmpty = true then 0 else x.toNat) items)) }, toks := s.toks }) :=
  .of_wp fun prog w A R s h => by
    obtain ⟨hp, g, d, tk, os⟩ := s; obtain ⟨hl, h⟩ := h
    have hsz := AutoListH.joined_fits hc2
    wp_walk using AutoSeq1.wpAny_loadPart' hl; refine wpAny_ite_false (decide_eq_false (Nat.not_lt.mpr hsz)) ?_; wp_walk using AutoSeq1.wpAny_loadPart' hl; exact ⟨_, rfl, h⟩
theorem int_rmulW (a : Int) (t : Tok) (l : Addr) (items : Array Value) (n : Nat) (sl : Array (Option Value)) :
    Meets (Builtin.«int.__rmul__» ⟨[.int a t, .ref l], []⟩) (fun _ R s => s.heap.get? l = some { cls := .type "list", dict := none, data := .seq items n, slots := sl } ∧ R (.ok (.ret Value.notImplemented)) s) :=
  .of_wp fun prog w A R s h => by obtain ⟨hp, g, d, tk, os⟩ := s; obtain ⟨hl, h⟩ := h; wp_walk using AutoSeq1.wpAny_loadPart' hl; exact ⟨_, rfl, h⟩
/-- a list times an int, read -/
def rRepL (K : PySem.W.Frag) : R2 := fun x y H Q => ∃ l k xs, x = .ref l ∧ y = .int k ∧ SqL K H l xs ∧ -(2 ^ 63) ≤ k ∧ k < 2 ^ 63 ∧ xs.length * k.toNat ≤ sizeLine ∧
  ∀ p, H p = none → Q (.ref p) (upd H p (.lst (List.replicate k.toNat xs).flatten))
theorem op_repL {X : Cx} : OpR X (binaryOp .Mult) (rRepL X.K) := by
  intro pins s σ H x y v u Q I rx ry h
  obtain ⟨l, k, xs, rfl, rfl, hH, h1, h2, hz, q⟩ := h
  cases rx
  obtain ⟨t, rfl⟩ := ry
  obtain ⟨its, r, ⟨o, n, e, c1, d1, e1⟩, z⟩ := I.list hH
  obtain ⟨cls, dd, data, sl⟩ := o
  simp only at c1 d1 e1
  subst c1 d1 e1
  have hl := r.length
  have hlen : its.toArray.size * k.toNat ≤ sizeLine := by rw [List.size_toArray, ← hl]; exact hz
  have hcap : ¬ its.toArray.size * k.toNat > (2 ^ 63 - 1) / 8 := by
    have : (sizeLine : Nat) ≤ (2 ^ 63 - 1) / 8 := by decide
    omega
  have hfit : ¬ (!Builtin.List.listFitsIndex k) = true := by
    rw [fitsIndex_both h1 h2]
    exact Bool.false_ne_true
  have hlong : ¬ Builtin.List.listTooLong (its.toArray.size * k.toNat) = true := by
    rw [notLongL hlen]
    exact Bool.false_ne_true
  have hnew : List.foldl (fun x1 x2 => x1 ++ x2) #[] (List.replicate (if its.toArray.isEmpty = true then 0 else k.toNat) its.toArray) = (List.replicate k.toNat its).flatten.toArray := by
    have f0 : ∀ m : Nat, List.foldl (fun x1 x2 => x1 ++ x2) #[] (List.replicate m its.toArray) = (List.replicate m its).flatten.toArray := fun m => by
      have := foldl_rep its m []
      rw [List.nil_append] at this
      exact this
    rw [f0]
    cases its with
    | nil => simp
    | cons a r' => rw [if_neg (by simp)]
  refine wpAny_binaryOp_repeat_ref (T := "list") (U := "int") (by decide) ⟨_, e, rfl⟩ (fun s' => typeIs_int s' k t) noFill_list_mul F.fills_int_mul F.slot_int_rmul repeat_list F.slot_int_index.lookup
    (call_meets F.slot_int_rmul (typeIs_int s k t) F.entry_int_rmul (F.args_int_rmul_2 _ _) (int_rmulW k t l its.toArray n sl)
      ⟨e, rfl, ⟨_, e, rfl⟩, call_meets F.slot_list_mul ⟨_, e, rfl⟩ F.entry_list_mul (F.args_list_mul_2 _ _) (list_mulW l its.toArray n sl k t hfit hcap hlong) ⟨e, ?_⟩⟩)
  rw [hnew]
  exact ⟨.ref _, _, I.lnew (t' := s.toks) (r.rep k.toNat) (by rw [PyProof.Rows.lm_len_rep_flat, Nat.mul_comm]; exact hz), rfl, q _ I.fresh⟩
theorem RepL.rep {G : GE} {H : Hp} {ds : List D} {vs : List V} (r : RepL G H ds vs) : ∀ n, RepL G H (List.replicate n ds).flatten (List.replicate n vs).flatten
  | 0 => RepL.nil
  | n + 1 => by
    rw [List.replicate_succ, List.replicate_succ, List.flatten_cons, List.flatten_cons]
    exact r.append (RepL.rep r n)
theorem op_mulD {X : Cx} {C : CT} (hK : X.K = C.G.K) : OpR X (binaryOp .Mult) (r2 C.G mulD) := by
  intro pins s σ H x y v u Q I rx ry h
  obtain ⟨F, d, e, S, bd, be, p⟩ := h
  unfold mulD at p
  split at p
  · split at p
    · rename_i i j hz
      by_cases hw : CMulW i j
      · exact op_mulW pins s σ H x y v u Q I rx ry ⟨_, _, bor_int bd, bor_int be, hw, p.int S⟩
      · refine op_mul pins s σ H x y v u Q I rx ry ⟨_, _, bor_int bd, bor_int be, ?_, p.int S⟩
        rcases hz with hz | hz | hz
        · exact .inl ⟨by omega, by omega⟩
        · exact .inr ⟨by omega, by omega⟩
        · exact absurd hz hw
    · exact p.elim
  · split at p
    · rename_i zs j hz
      obtain ⟨e1, k1⟩ := bor_str bd
      have e2 := bor_int be
      subst e1 e2
      obtain ⟨t, rfl⟩ := rx
      obtain ⟨t', rfl⟩ := ry
      have fin : ∀ tk tk', EP X pins σ Q (.str ⟨(repS zs j.toNat).toArray⟩ tk) { s with toks := tk' } := fun tk tk' => ⟨.str ⟨(repS zs j.toNat).toArray⟩, H, I.tok _, ⟨_, rfl⟩, p.str S (okS_rep _ k1)⟩
      have hlen : (⟨zs.toArray⟩ : Str).length = zs.length := by show Array.size _ = _; rw [List.size_toArray]
      have hlt : ∀ n : Nat, n ≤ SZ → Builtin.Str.tooLong n = false := fun n hn => by
        unfold Builtin.Str.tooLong
        exact decide_eq_false (by have := sz_line hn; omega)
      refine PySem.P.mul_str ?_ (fun h1 h2 => ?_) (fun h1 h2 => ?_) ?_
      · rw [decide_eq_false (by omega), decide_eq_false (by omega)]
        rfl
      · rw [hlen]
        intro z
        have h3 : 1 ≤ j := by omega
        have h4 : (2 ^ 63 - 1) / j * j ≤ 2 ^ 63 - 1 := Int.ediv_mul_le _ (by omega)
        have h5 : ((2 ^ 63 - 1) / j + 1) * j ≤ (zs.length : Int) * j := Int.mul_le_mul_of_nonneg_right (by omega) (by omega)
        have h6 : (2 ^ 63 - 1 : Int) < ((2 ^ 63 - 1) / j + 1) * j := Int.lt_ediv_add_one_mul_self _ (by omega)
        have h7 : ((zs.length * j.toNat : Nat) : Int) = (zs.length : Int) * j := by
          rw [Int.natCast_mul, Int.toNat_of_nonneg (by omega)]
        have h8 : zs.length * j.toNat ≤ 16777216 := by have := hz.2.2; rw [sz_is] at this; exact this
        omega
      · rw [hlen]
        exact hlt _ hz.2.2
      · split
        · rename_i hn
          have h0 : j.toNat = 0 := by omega
          have f := fin s.toks (s.toks + 1)
          rw [h0] at f
          refine ⟨?_, ?_⟩
          · first | exact rfl | exact True.intro | decide
          · exact f
        · split
          · rename_i hn hc
            rw [hlen] at hc
            have f : repS zs j.toNat = zs := by
              rw [Bool.or_eq_true] at hc
              rcases hc with hc | hc
              · have h1 : j = 1 := by simpa using hc
                subst h1
                simp [repS]
              · have h1 : zs = [] := by simpa using hc
                subst h1
                unfold repS
                simp
            have g := fin t s.toks
            rw [f] at g
            exact g
          · have g := fin s.toks (s.toks + 1)
            refine ⟨?_, ?_⟩
            · rename_i h1 h2
              have e3 := fold_rep zs j.toNat []
              rw [List.nil_append] at e3
              have e4 : (List.replicate j.toNat (⟨zs.toArray⟩ : Str).cps).foldl (· ++ ·) #[] = (repS zs j.toNat).toArray := e3
              rw [e4]
              show Array.size _ ≤ _
              rw [List.size_toArray]
              unfold repS
              rw [List.length_flatten, List.map_replicate, List.sum_replicate_nat]
              have h8 : zs.length * j.toNat ≤ SZ := hz.2.2
              rw [Nat.mul_comm]
              exact sz_line h8
            · have e3 := fold_rep zs j.toNat []
              rw [List.nil_append] at e3
              have e4 : (List.replicate j.toNat (⟨zs.toArray⟩ : Str).cps).foldl (· ++ ·) #[] = (repS zs j.toNat).toArray := e3
              rw [e4]
              exact g
    · exact p.elim
  · split at p
    · rename_i hz
      obtain ⟨a1, xs1, e1, q1, r1⟩ := bor_lst S bd
      rw [← hK] at q1
      refine op_repL pins s σ H x y v u Q I rx ry ⟨a1, _, xs1, e1, bor_int be, q1, by omega, by omega, ?_, p.lst S (r1.rep _)⟩
      rw [r1.length]
      exact sz_line hz.2.2
    · exact p.elim
  · exact p.elim

/-! ### // % ** and the rest -/
def fdivD : D → D → R D
  | .int i, .int j => if 0 < j ∧ j.natAbs.log2 < 9000 then .ok (.int (i / j)) else if j < 0 ∧ j.natAbs.log2 < 9000 then .ok (.int (i.fdiv j)) else .bad
  | _, _ => .bad
theorem fdivD_ne : NoEx2 fdivD := fun x y c vs h => by
  unfold fdivD at h
  split at h <;> first | cases h | (split at h <;> first | cases h | (split at h <;> cases h))
theorem op_fdivD {X : Cx} {G : GE} : OpR X (binaryOp .FloorDiv) (r2 G fdivD) := by
  intro pins s σ H x y v u Q I rx ry h
  obtain ⟨F, d, e, S, bd, be, p⟩ := h
  unfold fdivD at p
  split at p
  · split at p
    · rename_i hz
      exact op_fdivW pins s σ H x y v u Q I rx ry ⟨_, _, bor_int bd, bor_int be, hz, p.int S⟩
    · split at p
      · rename_i i j _ hz
        have e1 := bor_int bd
        have e2 := bor_int be
        subst e1 e2
        obtain ⟨t, rfl⟩ := rx
        obtain ⟨t', rfl⟩ := ry
        exact floordiv_int (by omega) ⟨.int (i.fdiv j), H, I.tok _, ⟨_, rfl⟩, p.int S⟩ (.inl (PyProof.noPylong_of_log2 hz.2))
      · exact p.elim
  · exact p.elim
def modD : D → D → R D
  | .int i, .int j => if 0 < j then .ok (.int (i % j)) else .bad
  | _, _ => .bad
theorem modD_ne : NoEx2 modD := fun x y c vs h => by
  unfold modD at h
  split at h <;> first | cases h | (split at h <;> cases h)
theorem op_modD {X : Cx} {G : GE} : OpR X (binaryOp .Mod) (r2 G modD) := by
  intro pins s σ H x y v u Q I rx ry h
  obtain ⟨F, d, e, S, bd, be, p⟩ := h
  unfold modD at p
  split at p
  · split at p
    · rename_i hz
      exact op_mod pins s σ H x y v u Q I rx ry ⟨_, _, bor_int bd, bor_int be, hz, p.int S⟩
    · exact p.elim
  · exact p.elim
def powD : D → D → R D
  | .int i, .int j => if 0 ≤ j ∧ j ≤ 1000000 ∧ i.natAbs < 18446744073709551616 then .ok (.int (i ^ j.toNat)) else .bad
  | _, _ => .bad
theorem powD_ne : NoEx2 powD := fun x y c vs h => by
  unfold powD at h
  split at h <;> first | cases h | (split at h <;> cases h)
theorem op_powD {X : Cx} {G : GE} : OpR X (binaryOp .Pow) (r2 G powD) := by
  intro pins s σ H x y v u Q I rx ry h
  obtain ⟨F, d, e, S, bd, be, p⟩ := h
  unfold powD at p
  split at p
  · split at p
    · rename_i hz
      exact op_pow pins s σ H x y v u Q I rx ry ⟨_, _, bor_int bd, bor_int be, hz, p.int S⟩
    · exact p.elim
  · exact p.elim
def negD : D → R D
  | .int i => .ok (.int (-i))
  | _ => .bad
theorem negD_ne : NoEx1 negD := fun x c vs h => by
  unfold negD at h
  split at h <;> cases h
theorem un_negD {X : Cx} {G : GE} : UnR X (unaryOp .USub) (r1 G negD) := by
  intro pins s σ H x v Q I rx h
  obtain ⟨F, d, S, bd, p⟩ := h
  unfold negD at p
  split at p
  · exact un_neg pins s σ H x v Q I rx ⟨_, bor_int bd, p.int S⟩
  · exact p.elim

/-! ### order -/
def ltS (x y : List Nat) : Bool := decide (x < y)
def ltD : D → D → R D
  | .int i, .int j => .ok (.bl (decide (i < j)))
  | .str x, .str y => .ok (.bl (ltS x y))
  | _, _ => .bad
def leD : D → D → R D
  | .int i, .int j => .ok (.bl (decide (i ≤ j)))
  | .str x, .str y => .ok (.bl (!ltS y x))
  | _, _ => .bad
def gtD : D → D → R D
  | .int i, .int j => .ok (.bl (decide (j < i)))
  | .str x, .str y => .ok (.bl (ltS y x))
  | _, _ => .bad
def geD : D → D → R D
  | .int i, .int j => .ok (.bl (decide (j ≤ i)))
  | .str x, .str y => .ok (.bl (!ltS x y))
  | _, _ => .bad
theorem ltD_ne : NoEx2 ltD := fun x y c vs h => by unfold ltD at h; split at h <;> cases h
theorem leD_ne : NoEx2 leD := fun x y c vs h => by unfold leD at h; split at h <;> cases h
theorem gtD_ne : NoEx2 gtD := fun x y c vs h => by unfold gtD at h; split at h <;> cases h
theorem geD_ne : NoEx2 geD := fun x y c vs h => by unfold geD at h; split at h <;> cases h
theorem op_ltD {X : Cx} {G : GE} : OpR X (compareOp .Lt) (r2 G ltD) := by
  intro pins s σ H x y v u Q I rx ry h
  obtain ⟨F, d, e, S, bd, be, p⟩ := h
  unfold ltD at p
  split at p
  · exact op_lt pins s σ H x y v u Q I rx ry ⟨_, _, bor_int bd, bor_int be, p.bl S⟩
  · exact op_lt_str pins s σ H x y v u Q I rx ry ⟨_, _, (bor_str bd).1, (bor_str be).1, p.bl S⟩
  · exact p.elim
theorem op_leD {X : Cx} {G : GE} : OpR X (compareOp .LtE) (r2 G leD) := by
  intro pins s σ H x y v u Q I rx ry h
  obtain ⟨F, d, e, S, bd, be, p⟩ := h
  unfold leD at p
  split at p
  · exact op_le pins s σ H x y v u Q I rx ry ⟨_, _, bor_int bd, bor_int be, p.bl S⟩
  · exact op_le_str pins s σ H x y v u Q I rx ry ⟨_, _, (bor_str bd).1, (bor_str be).1, p.bl S⟩
  · exact p.elim
theorem op_gtD {X : Cx} {G : GE} : OpR X (compareOp .Gt) (r2 G gtD) := by
  intro pins s σ H x y v u Q I rx ry h
  obtain ⟨F, d, e, S, bd, be, p⟩ := h
  unfold gtD at p
  split at p
  · exact op_gt pins s σ H x y v u Q I rx ry ⟨_, _, bor_int bd, bor_int be, p.bl S⟩
  · exact op_gt_str pins s σ H x y v u Q I rx ry ⟨_, _, (bor_str bd).1, (bor_str be).1, p.bl S⟩
  · exact p.elim
theorem op_geD {X : Cx} {G : GE} : OpR X (compareOp .GtE) (r2 G geD) := by
  intro pins s σ H x y v u Q I rx ry h
  obtain ⟨F, d, e, S, bd, be, p⟩ := h
  unfold geD at p
  split at p
  · exact op_ge pins s σ H x y v u Q I rx ry ⟨_, _, bor_int bd, bor_int be, p.bl S⟩
  · exact op_ge_str pins s σ H x y v u Q I rx ry ⟨_, _, (bor_str bd).1, (bor_str be).1, p.bl S⟩
  · exact p.elim

/-! ### == -/
mutual
def eqv : D → D → Bool
  | .non, .non => true
  | .bl a, .bl b => a == b
  | .bl a, .int j => (if a then 1 else 0) == j
  | .int i, .bl b => i == (if b then 1 else 0)
  | .int i, .int j => i == j
  | .str x, .str y => x == y
  | .lst xs, .lst ys => eqvL xs ys
  | .tup xs, .tup ys => eqvL xs ys
  | _, _ => false
def eqvL : List D → List D → Bool
  | [], [] => true
  | x :: xs, y :: ys => eqv x y && eqvL xs ys
  | _, _ => false
end
mutual
/-- how deep; 99 for what is not compared -/
def dep : D → Nat
  | .non => 0 | .bl _ => 0 | .int _ => 0 | .str _ => 0
  | .lst xs => depL xs + 1 | .tup xs => depL xs + 1
  | _ => 99
def depL : List D → Nat
  | [] => 0
  | x :: xs => max (dep x) (depL xs)
end
mutual
def py : D → PyData
  | .non => .none | .bl b => .bool b | .int i => .int i | .str x => .str ⟨x.toArray⟩
  | .lst xs => .list (pyL xs) | .tup xs => .tuple (pyL xs)
  | _ => .none
def pyL : List D → List PyData
  | [] => []
  | x :: xs => py x :: pyL xs
end
mutual
theorem py_eqv : ∀ (d e : D), dep d ≤ 64 → dep e ≤ 64 → PyData.eqv (py d) (py e) = eqv d e := by
  intro d e hd he
  cases d with
  | lst xs => cases e with
    | lst ys =>
      unfold dep at hd he
      simp only [py, PyData.eqv, eqv]
      exact py_eqvL xs ys (by omega) (by omega)
    | dic ks vs => simp [dep] at he
    | obj c vs => simp [dep] at he
    | exc c vs => simp [dep] at he
    | _ => simp [py, PyData.eqv, eqv]
  | tup xs => cases e with
    | tup ys =>
      unfold dep at hd he
      simp only [py, PyData.eqv, eqv]
      exact py_eqvL xs ys (by omega) (by omega)
    | dic ks vs => simp [dep] at he
    | obj c vs => simp [dep] at he
    | exc c vs => simp [dep] at he
    | _ => simp [py, PyData.eqv, eqv]
  | dic ks vs => simp [dep] at hd
  | obj c vs => simp [dep] at hd
  | exc c vs => simp [dep] at hd
  | str x => cases e with
    | str y =>
      simp only [py, PyData.eqv, eqv]
      rw [Bool.eq_iff_iff]
      simp
    | dic ks vs => simp [dep] at he
    | obj c vs => simp [dep] at he
    | exc c vs => simp [dep] at he
    | _ => simp [py, PyData.eqv, eqv]
  | _ => cases e with
    | dic ks vs => simp [dep] at he
    | obj c vs => simp [dep] at he
    | exc c vs => simp [dep] at he
    | _ => simp [py, PyData.eqv, eqv]
theorem py_eqvL : ∀ (xs ys : List D), depL xs ≤ 63 → depL ys ≤ 63 → PyData.eqvAll (pyL xs) (pyL ys) = eqvL xs ys
  | [], [], _, _ => by simp [pyL, PyData.eqvAll, eqvL]
  | [], y :: ys, _, _ => by simp [pyL, PyData.eqvAll, eqvL]
  | x :: xs, [], _, _ => by simp [pyL, PyData.eqvAll, eqvL]
  | x :: xs, y :: ys, hx, hy => by
    unfold depL at hx hy
    simp only [pyL, PyData.eqvAll, eqvL]
    rw [py_eqv x y (by omega) (by omega), py_eqvL xs ys (by omega) (by omega)]
end
mutual
theorem rep_dp {G : GE} {K : PySem.W.Frag} (hK : K = G.K) {H : Hp} : ∀ {d : D} {v : V}, dep d ≤ 64 → Rep G H d v → Dp K H v (py d) ∧ (py d).canLay0 = true ∧ (py d).depth ≤ dep d
  | .non, v, _, h => by have := rep_non.mp h; subst this; exact ⟨.non, rfl, Nat.le_refl _⟩
  | .bl b, v, _, h => by have := rep_bl.mp h; subst this; exact ⟨.bl b, rfl, Nat.le_refl _⟩
  | .int b, v, _, h => by have := rep_int.mp h; subst this; exact ⟨.int b, rfl, Nat.le_refl _⟩
  | .str x, v, _, h => by
    obtain ⟨rfl, k⟩ := rep_str.mp h
    refine ⟨.str _, ?_, Nat.le_refl _⟩
    show PyData.canLay0 (.str _) = true
    unfold PyData.canLay0 PyData.strOk
    unfold okS at k
    simpa using k
  | .lst xs, v, hd, h => by
    obtain ⟨a, vs, rfl, q, r⟩ := rep_lst.mp h
    unfold dep at hd
    obtain ⟨h1, h2, h3⟩ := repL_dp hK (by omega) r
    subst hK
    refine ⟨.lst q h1, ?_, ?_⟩
    · unfold py PyData.canLay0; exact h2
    · unfold py PyData.depth dep; omega
  | .tup xs, v, hd, h => by
    obtain ⟨a, vs, rfl, q, r⟩ := rep_tup.mp h
    unfold dep at hd
    obtain ⟨h1, h2, h3⟩ := repL_dp hK (by omega) r
    subst hK
    refine ⟨.tup q h1, ?_, ?_⟩
    · unfold py PyData.canLay0; exact h2
    · unfold py PyData.depth dep; omega
  | .dic _ _, _, hd, _ => by simp [dep] at hd
  | .obj _ _, _, hd, _ => by simp [dep] at hd
  | .exc _ _, _, hd, _ => by simp [dep] at hd
theorem repL_dp {G : GE} {K : PySem.W.Frag} (hK : K = G.K) {H : Hp} : ∀ {ds : List D} {vs : List V}, depL ds ≤ 63 → RepL G H ds vs → DpAll K H vs (pyL ds) ∧ PyData.canLayAll0 (pyL ds) = true ∧ PyData.depthAll (pyL ds) ≤ depL ds
  | [], vs, _, h => by unfold RepL at h; subst h; exact ⟨.nil, rfl, Nat.le_refl _⟩
  | d :: ds, vs, hd, h => by
    unfold RepL at h
    obtain ⟨v, r, rfl, h1, h2⟩ := h
    unfold depL at hd
    obtain ⟨a1, a2, a3⟩ := rep_dp hK (by omega) h1
    obtain ⟨b1, b2, b3⟩ := repL_dp hK (by omega) h2
    refine ⟨.cons a1 b1, ?_, ?_⟩
    · unfold pyL PyData.canLayAll0; rw [a2, b2]; rfl
    · unfold pyL PyData.depthAll depL; omega
end
theorem bor_dp {G : GE} {K : PySem.W.Frag} (hK : K = G.K) {F H : Hp} (S : Same F H) {d : D} {v : V} (hd : dep d ≤ 64) (h : Bor G F H d v) : Dp K H v (py d) ∧ SeqAt.shaped (py d) = true := by
  have fin : ∀ {d : D} {v : V}, dep d ≤ 64 → Rep G H d v → Dp K H v (py d) ∧ SeqAt.shaped (py d) = true := fun hd h => by
    obtain ⟨a, b, c⟩ := rep_dp hK hd h
    refine ⟨a, ?_⟩
    unfold SeqAt.shaped
    rw [b, Bool.true_and]
    exact decide_eq_true (by omega)
  rcases h with h | ⟨a, rfl, hn, q⟩
  · exact fin hd (Rep.mono S h)
  · exact fin hd (q.rep1 (by cases d <;> first | rfl | (simp [dep] at hd)) S fun _ e => e)
def eqD (d e : D) : R D := if dep d ≤ 64 ∧ dep e ≤ 64 then .ok (.bl (eqv d e)) else .bad
def neD (d e : D) : R D := if dep d ≤ 64 ∧ dep e ≤ 64 then .ok (.bl (!eqv d e)) else .bad
theorem eqD_ne : NoEx2 eqD := fun x y c vs h => by unfold eqD at h; split at h <;> cases h
theorem neD_ne : NoEx2 neD := fun x y c vs h => by unfold neD at h; split at h <;> cases h
theorem op_eqDD {X : Cx} {C : CT} (hK : X.K = C.G.K) (hu : X.A.units + 64 < cLine) : OpR X (compareOp .Eq) (r2 C.G eqD) := by
  intro pins s σ H x y v u Q I rx ry h
  obtain ⟨F, d, e, S, bd, be, p⟩ := h
  unfold eqD at p
  split at p
  · rename_i hz
    obtain ⟨a1, a2⟩ := bor_dp hK S hz.1 bd
    obtain ⟨b1, b2⟩ := bor_dp hK S hz.2 be
    refine op_eqD hu pins s σ H x y v u Q I rx ry ⟨_, _, a1, b1, a2, b2, ?_⟩
    rw [py_eqv d e hz.1 hz.2]
    exact p.bl S
  · exact p.elim
theorem op_neDD {X : Cx} {C : CT} (hK : X.K = C.G.K) (hu : X.A.units + 64 < cLine) : OpR X (compareOp .NotEq) (r2 C.G neD) := by
  intro pins s σ H x y v u Q I rx ry h
  obtain ⟨F, d, e, S, bd, be, p⟩ := h
  unfold neD at p
  split at p
  · rename_i hz
    obtain ⟨a1, a2⟩ := bor_dp hK S hz.1 bd
    obtain ⟨b1, b2⟩ := bor_dp hK S hz.2 be
    refine op_neD hu pins s σ H x y v u Q I rx ry ⟨_, _, a1, b1, a2, b2, ?_⟩
    rw [py_eqv d e hz.1 hz.2]
    exact p.bl S
  · exact p.elim
end
end Z
namespace Z
noncomputable section
open PySem PySem.Spec PySem.P PyProof.Rows L2

/-! ### dicts as data -/
def look : List Key → List D → Key → Option D
  | k :: ks, v :: vs, j => if k = j then some v else look ks vs j
  | _, _, _ => none
def putV : List Key → List D → Key → D → List D
  | k :: ks, v :: vs, j, w => if k = j then w :: vs else v :: putV ks vs j w
  | _, _, _, w => [w]
def has (ks : List Key) (j : Key) : Bool := ks.any fun k => decide (k = j)
def putKs (ks : List Key) (j : Key) : List Key := if has ks j = true then ks else ks ++ [j]
def dropV : List Key → List D → Key → List D
  | k :: ks, v :: vs, j => if k = j then vs else v :: dropV ks vs j
  | _, _, _ => []
/-- a key -/
def keyD : D → Option Key
  | .int i => some (.inl i)
  | .str x => some (.inr ⟨x.toArray⟩)
  | _ => none
section
variable {G : GE} {F H : Hp}
theorem keyD_rep {d : D} {k : Key} {v : V} (h : keyD d = some k) (r : Bor G F H d v) : v = kV k := by
  cases d <;> simp [keyD] at h
  · subst h; exact bor_int r
  · subst h; exact (bor_str r).1
theorem look_val : ∀ {kvs : List (Key × V)} {ds : List D} {k : Key}, RepL G F ds (kvs.map (·.2)) → (∀ d, look (kvs.map (·.1)) ds k = some d → ∃ v, valV kvs k = some v ∧ Rep G F d v) ∧ (look (kvs.map (·.1)) ds k = none → valV kvs k = none)
  | [], ds, k, r => ⟨fun d h => by simp [look] at h, fun _ => rfl⟩
  | p :: kvs, [], k, r => by
    have := r.length
    simp at this
  | p :: kvs, d :: ds, k, r => by
    simp only [List.map_cons] at r ⊢
    unfold RepL at r
    obtain ⟨v, t, e, h1, h2⟩ := r
    injection e with e1 e2
    subst e1 e2
    unfold look
    by_cases hk : p.1 = k
    · rw [if_pos hk, valV_pos hk]
      exact ⟨fun d' h => by cases h; exact ⟨_, rfl, h1⟩, fun h => by cases h⟩
    · rw [if_neg hk, valV_neg hk]
      exact look_val h2
theorem look_some {kvs : List (Key × V)} {ds : List D} {k : Key} (r : RepL G F ds (kvs.map (·.2))) : (look (kvs.map (·.1)) ds k).isSome = (valV kvs k).isSome := by
  obtain ⟨h1, h2⟩ := look_val (k := k) r
  cases q : look (kvs.map (·.1)) ds k with
  | none => rw [h2 q]; rfl
  | some d => obtain ⟨v, e, _⟩ := h1 d q; rw [e]; rfl
theorem look_has : ∀ {ks : List Key} {ds : List D} {k : Key}, ds.length = ks.length → (look ks ds k).isSome = has ks k
  | [], ds, k, h => by simp [look, has]
  | j :: ks, [], k, h => by simp at h
  | j :: ks, d :: ds, k, h => by
    have ih := look_has (ks := ks) (ds := ds) (k := k) (by simpa using h)
    unfold look has
    rw [List.any_cons]
    by_cases e : j = k
    · rw [if_pos e, decide_eq_true e]; rfl
    · rw [if_neg e, decide_eq_false e, ih]; rfl
end

/-! ### in -/
/-- x stands in y, side by side -/
def inS (x y : List Nat) : Bool := (List.range (y.length + 1)).any fun i => (y.drop i).take x.length == x
def flat : D → Bool
  | .non => true | .bl _ => true | .int _ => true | .str _ => true
  | _ => false
def inD (neg : Bool) (x y : D) : R D := match x, y with
  | .str x, .str y => .ok (.bl (xor neg (inS x y)))
  | x, .lst ys => if dep x ≤ 64 ∧ depL ys ≤ 63 then .ok (.bl (xor neg (ys.any fun y => eqv y x))) else .bad
  | x, .tup ys => if flat x = true ∧ ys.all flat = true then .ok (.bl (xor neg (ys.any fun y => eqv y x))) else .bad
  | x, .dic ks vs => match keyD x with
    | some k => .ok (.bl (xor neg (has ks k)))
    | none => .bad
  | _, _ => .bad
theorem inD_ne {neg : Bool} : NoEx2 (inD neg) := fun x y c vs h => by
  unfold inD at h
  split at h <;> first | cases h | (split at h <;> cases h)
theorem pyL_any (x : D) (hx : dep x ≤ 64) : ∀ ys : List D, depL ys ≤ 63 → (pyL ys).any (fun z => PyData.eqv z (py x)) = ys.any fun y => eqv y x
  | [], _ => by simp [pyL]
  | y :: ys, h => by
    unfold depL at h
    simp only [pyL, List.any_cons]
    rw [py_eqv y x (by omega) hx, pyL_any x hx ys (by omega)]
theorem inS_iff (x y : List Nat) : inS x y = true ↔ ∃ i, i + x.length ≤ y.length ∧ (y.drop i).take x.length = x := by
  unfold inS
  rw [List.any_eq_true]
  constructor
  · rintro ⟨i, hi, e⟩
    have e : (y.drop i).take x.length = x := by simpa using e
    have h := congrArg List.length e
    rw [List.length_take, List.length_drop] at h
    have hi : i < y.length + 1 := by simpa using hi
    exact ⟨i, by omega, e⟩
  · rintro ⟨i, hi, e⟩
    exact ⟨i, by simp; omega, by simpa using e⟩
theorem flat_bor {G : GE} {F H : Hp} {d : D} {v : V} (h : flat d = true) (r : Bor G F H d v) : flatV v = true := by
  cases d <;> simp [flat] at h
  · rw [bor_non r]; rfl
  · rw [bor_bl r]; rfl
  · rw [bor_int r]; rfl
  · rw [(bor_str r).1]; rfl
theorem flat_eqv {G : GE} {F H F' H' : Hp} {d e : D} {v u : V} (hd : flat d = true) (he : flat e = true) (r : Bor G F H d v) (q : Bor G F' H' e u) : eqV v u = eqv d e := by
  cases d <;> simp [flat] at hd <;> cases e <;> simp [flat] at he
  all_goals first
    | (rw [bor_non r]; first | rw [bor_non q] | rw [bor_bl q] | rw [bor_int q] | rw [(bor_str q).1]) <;> rfl
    | skip
  all_goals first
    | (rw [bor_bl r]; first | rw [bor_non q] | rw [bor_bl q] | rw [bor_int q] | rw [(bor_str q).1]) <;> rfl
    | skip
  all_goals first
    | (rw [bor_int r]; first | rw [bor_non q] | rw [bor_bl q] | rw [bor_int q] | rw [(bor_str q).1]) <;> rfl
    | skip
  all_goals first
    | (rw [(bor_str r).1]; first | rw [bor_non q] | rw [bor_bl q] | rw [bor_int q] | rw [(bor_str q).1]) <;> first | rfl | (unfold eqV eqv; rw [Bool.eq_iff_iff]; simp)
    | skip
theorem flat_all {G : GE} {F : Hp} : ∀ {ds : List D} {vs : List V}, ds.all flat = true → RepL G F ds vs → vs.all flatV = true
  | [], vs, _, r => by unfold RepL at r; subst r; rfl
  | d :: ds, vs, h, r => by
    unfold RepL at r
    obtain ⟨v, t, rfl, h1, h2⟩ := r
    rw [List.all_cons, Bool.and_eq_true] at h
    rw [List.all_cons, flat_bor (H := F) h.1 (.inl h1), flat_all h.2 h2]
    rfl
theorem flat_any {G : GE} {F F' H' : Hp} {x : D} {u : V} (hx : flat x = true) (q : Bor G F' H' x u) : ∀ {ds : List D} {vs : List V}, ds.all flat = true → RepL G F ds vs → inV u vs = ds.any fun y => eqv y x
  | [], vs, _, r => by unfold RepL at r; subst r; rfl
  | d :: ds, vs, h, r => by
    unfold RepL at r
    obtain ⟨v, t, rfl, h1, h2⟩ := r
    rw [List.all_cons, Bool.and_eq_true] at h
    have ih := flat_any hx q h.2 h2
    unfold inV at ih ⊢
    rw [List.any_cons, List.any_cons, ih, flat_eqv (H := F) h.1 hx (.inl h1) q]
theorem occ_inS (x y : List Nat) : (!(Builtin.Str.occurrences (⟨y.toArray⟩ : Str) ⟨x.toArray⟩ 0 (⟨y.toArray⟩ : Str).length 1).isEmpty) = inS x y := by
  rw [Bool.eq_iff_iff, StrLaws.found_iff, inS_iff]
  have l1 : (⟨y.toArray⟩ : Str).length = y.length := List.size_toArray
  have l2 : (⟨x.toArray⟩ : Str).length = x.length := List.size_toArray
  rw [l1, l2]
  refine exists_congr fun i => and_congr_right fun hi => ?_
  rw [StrLaws.subAt_eq, l2]
  simp
theorem op_inDD {X : Cx} {C : CT} (hK : X.K = C.G.K) (hu : X.A.units + 65 < cLine) : OpR X (compareOp .In) (r2 C.G (inD false)) := by
  intro pins s σ H x y v u Q I rx ry h
  obtain ⟨F, d, e, S, bd, be, p⟩ := h
  unfold inD at p
  split at p
  · rename_i a b
    refine op_in_str pins s σ H x y v u Q I rx ry ⟨_, _, (bor_str bd).1, (bor_str be).1, ?_⟩
    rw [occ_inS]
    simpa using p.bl S
  · split at p
    · rename_i hz
      obtain ⟨a1, a2⟩ := bor_dp hK S hz.1 bd
      obtain ⟨b1, b2⟩ := bor_dp hK S (by unfold dep; omega) be
      unfold py at b1 b2
      refine op_inD hu pins s σ H x y v u Q I rx ry ⟨_, _, a1, b1, a2, b2, ?_⟩
      rw [pyL_any _ hz.1 _ hz.2]
      simpa using p.bl S
    · exact p.elim
  · split at p
    · rename_i hz
      obtain ⟨a, vs, rfl, q, r⟩ := bor_tup S be
      rw [← hK] at q
      refine op_in_seq pins s σ H x _ v u Q I rx ry ⟨a, vs, rfl, .inr q, flat_bor hz.1 bd, flat_all hz.2 r, ?_⟩
      rw [if_neg Bool.false_ne_true, flat_any hz.1 bd hz.2 r]
      simpa using p.bl S
    · exact p.elim
  · split at p
    · rename_i k hk
      obtain ⟨a, kvs, rfl, q, e1, nd, r⟩ := bor_dic S be
      cases ry
      have ex := keyD_rep hk bd
      refine d_in (by omega) I (o := valV kvs k) (.inl ⟨kvs, k, q, ex, rfl⟩) rx fun s' I' => ?_
      refine ⟨.bl _, H, I', rfl, ?_⟩
      rw [← look_some r, look_has (by rw [List.length_map, ← r.length, List.length_map]), e1]
      simpa using p.bl S
    · exact p.elim
  · exact p.elim
theorem op_notInDD {X : Cx} {C : CT} (hK : X.K = C.G.K) (hu : X.A.units + 65 < cLine) : OpR X (compareOp .NotIn) (r2 C.G (inD true)) := by
  intro pins s σ H x y v u Q I rx ry h
  obtain ⟨F, d, e, S, bd, be, p⟩ := h
  unfold inD at p
  split at p
  · rename_i a b
    refine op_notin_str pins s σ H x y v u Q I rx ry ⟨_, _, (bor_str bd).1, (bor_str be).1, ?_⟩
    rw [occ_inS]
    simpa using p.bl S
  · split at p
    · rename_i hz
      obtain ⟨a1, a2⟩ := bor_dp hK S hz.1 bd
      obtain ⟨b1, b2⟩ := bor_dp hK S (by unfold dep; omega) be
      unfold py at b1 b2
      refine op_notInD hu pins s σ H x y v u Q I rx ry ⟨_, _, a1, b1, a2, b2, ?_⟩
      rw [pyL_any _ hz.1 _ hz.2]
      simpa using p.bl S
    · exact p.elim
  · split at p
    · rename_i hz
      obtain ⟨a, vs, rfl, q, r⟩ := bor_tup S be
      rw [← hK] at q
      refine op_notIn_seq pins s σ H x _ v u Q I rx ry ⟨a, vs, rfl, .inr q, flat_bor hz.1 bd, flat_all hz.2 r, ?_⟩
      rw [if_pos rfl, flat_any hz.1 bd hz.2 r]
      simpa using p.bl S
    · exact p.elim
  · split at p
    · rename_i k hk
      obtain ⟨a, kvs, rfl, q, e1, nd, r⟩ := bor_dic S be
      cases ry
      have ex := keyD_rep hk bd
      refine d_notIn (by omega) I (o := valV kvs k) (.inl ⟨kvs, k, q, ex, rfl⟩) rx fun s' I' => ?_
      refine ⟨.bl _, H, I', rfl, ?_⟩
      rw [← look_some r, look_has (by rw [List.length_map, ← r.length, List.length_map]), e1]
      simpa using p.bl S
    · exact p.elim
  · exact p.elim

/-! ### is None, not, and, or -/
def isNone : D → Bool
  | .non => true
  | _ => false
def isN (neg : Bool) (x y : D) : R D := match y with
  | .non => .ok (.bl (xor neg (isNone x)))
  | .bl b => (match x with
    | .bl a => .ok (.bl (xor neg (decide (a = b))))
    | _ => .bad)
  | _ => .bad
theorem isN_ne {neg : Bool} : NoEx2 (isN neg) := fun x y c vs h => by
  unfold isN at h
  split at h
  · cases h
  · split at h <;> cases h
  · cases h
theorem bor_isN {G : GE} {F H : Hp} (S : Same F H) {d : D} {v : V} (r : Bor G F H d v) : decide (v = .non) = isNone d := by
  cases d with
  | non => rw [bor_non r]; rfl
  | bl b => rw [bor_bl r]; rfl
  | int b => rw [bor_int r]; rfl
  | str b => rw [(bor_str r).1]; rfl
  | lst b => obtain ⟨a, xs, rfl, _⟩ := bor_lst S r; rfl
  | tup b => obtain ⟨a, xs, rfl, _⟩ := bor_tup S r; rfl
  | dic k b => obtain ⟨a, xs, rfl, _⟩ := bor_dic S r; rfl
  | obj k b => obtain ⟨a, C, dx, fs, ns, rfl, _⟩ := bor_obj S r; rfl
  | exc k b =>
    rcases r with r | ⟨_, _, _, r⟩
    · unfold Rep at r
      obtain ⟨a, C, ns, dx, rfl, _⟩ := r
      rfl
    · exact r.elim
theorem op_isND {X : Cx} {G : GE} : OpR X (compareOp .Is) (r2 G (isN false)) := by
  intro pins s σ H x y v u Q I rx ry h
  obtain ⟨F, d, e, S, bd, be, p⟩ := h
  unfold isN at p
  split at p
  · refine op_isN pins s σ H x y v u Q I rx ry ⟨bor_non be, ?_⟩
    rw [bor_isN S bd]
    simpa using p.bl S
  · split at p
    · exact op_isBl pins s σ H x y v u Q I rx ry ⟨_, _, bor_bl bd, bor_bl be, by simpa using p.bl S⟩
    · exact p.elim
  · exact p.elim
theorem op_notND {X : Cx} {G : GE} : OpR X (compareOp .IsNot) (r2 G (isN true)) := by
  intro pins s σ H x y v u Q I rx ry h
  obtain ⟨F, d, e, S, bd, be, p⟩ := h
  unfold isN at p
  split at p
  · refine op_notN pins s σ H x y v u Q I rx ry ⟨bor_non be, ?_⟩
    rw [bor_isN S bd]
    simpa using p.bl S
  · split at p
    · exact op_notBl pins s σ H x y v u Q I rx ry ⟨_, _, bor_bl bd, bor_bl be, by simpa using p.bl S⟩
    · exact p.elim
  · exact p.elim

def eAnd (fa fb : SS → R D) : SS → R D := fun s => (fa s).bind fun x => match x with
  | .bl true => fb s
  | .bl false => .ok (.bl false)
  | _ => .bad
def eOr (fa fb : SS → R D) : SS → R D := fun s => (fa s).bind fun x => match x with
  | .bl true => .ok (.bl true)
  | .bl false => fb s
  | _ => .bad
def eNot (fa : SS → R D) : SS → R D := fun s => (fa s).bind fun x => match x with
  | .bl b => .ok (.bl (!b))
  | _ => .bad
def eIf (fc fa fb : SS → R D) : SS → R D := fun s => (fc s).bind fun x => match x with
  | .bl true => fa s
  | .bl false => fb s
  | _ => .bad
section
variable {X : Cx} {C : CT} {W : WX} {a b c : Expr} {rest : List Expr} {fa fb fc f : SS → R D} {g : D → D → R D} {pos : Pos} {σ : L2.St} {H F F1 H1 : Hp} {sd : SS}
theorem PostT.ext {r : R D} {Q : Bool → Hp → Prop} (e : Ext F H F1 H1) (h : PostT C W F H σ Q r) : PostT C W F1 H1 σ Q r := by
  cases r with
  | ok d => cases d with
    | bl b => exact fun F' H' e' => h F' H' (e.trans e')
    | _ => exact h.elim
  | ex c vs => exact fun cls dx F' H' e' x => h cls dx F' H' (e.trans e') x
  | bad => exact h.elim
/-- a value that is a truth value, as a test -/
theorem t_of {Q : Bool → Hp → Prop} (h : tT C W f σ H Q) : tD C W f σ H fun x H1 => ∃ k, x = .bl k ∧ Q k H1 := by
  obtain ⟨F, sd, S, h⟩ := h
  refine ⟨F, sd, S, ?_⟩
  cases q : f sd with
  | ok d =>
    rw [q] at h
    cases d with
    | bl b => exact fun v F' H' e r => ⟨b, rep_bl.mp r, h F' H' e⟩
    | _ => exact h.elim
  | ex c vs => rw [q] at h; exact h
  | bad => rw [q] at h; exact h
theorem s_t (h : PE X a (tD C W f)) (he : ∀ whole, isTrue a X.env whole = (do let v ← whole; standAt a.pos; holding [v] (truthy v)) := by intro _; rfl) : PT X a (tT C W f) :=
  pt_imp (pt_val h he) fun _ _ _ h => t_of h
theorem s_tcmp {op : CmpOp} (hg : NoEx2 g) (ho : OpR X (compareOp op) (r2 C.G g)) (ha : PE X a (tB C W fa)) (hb : PE X b (tB C W fb)) (hm : behindInMarks op b = false := by first | exact nomark _ | with_unfolding_all rfl) : PT X (.Compare a [op] [b] pos) (tT C W (eBin g fa fb)) :=
  pt_imp (pt_cmpR ho ha hb hm) fun _ _ _ h => bin_read hg (t_of h)
/-- two tests, the second one where the first says so -/
theorem t_bind {k : Bool → R D} {Q Q1 : Bool → Hp → Prop} {r : R D}
    (h : PostT C W F H σ Q (r.bind fun x => match x with | .bl b => k b | _ => .bad)) (hk : ∀ b F1 H1, Ext F H F1 H1 → PostT C W F1 H1 σ Q (k b) → Q1 b H1) : PostT C W F H σ Q1 r := by
  cases r with
  | ok d => cases d with
    | bl b => exact fun F' H' e => hk b F' H' e (PostT.ext e h)
    | _ => exact h.elim
  | ex c vs => exact h
  | bad => exact h
theorem bind_bl {r : R D} {k k' : D → R D} (h : ∀ d, k d = k' d) : r.bind k = r.bind k' := by
  have : k = k' := funext h
  rw [this]
theorem s_tand (ha : PT X a (tT C W fa)) (hb : PW X (.BoolOp .And (b :: rest) pos) (tT C W fb)) : PW X (.BoolOp .And (a :: b :: rest) pos) (tT C W (eAnd fa fb)) := by
  refine ⟨fun wh pins s σ H Q I h => (pw_and ha hb).run wh pins s σ H Q I ?_⟩
  obtain ⟨F, sd, S, h⟩ := h
  refine ⟨F, sd, S, t_bind (Q := Q) (k := fun b => if b = true then fb sd else .ok (.bl false)) ?_ fun b F1 H1 e h1 => ?_⟩
  · unfold eAnd at h
    rw [bind_bl (k' := fun x => match x with | .bl true => fb sd | .bl false => .ok (.bl false) | _ => .bad)]
    · exact h
    · intro d
      cases d with
      | bl b => cases b <;> rfl
      | _ => rfl
  · cases b with
    | true =>
      rw [if_pos rfl] at h1 ⊢
      exact ⟨F1, sd, S.mono e, h1⟩
    | false =>
      rw [if_neg Bool.false_ne_true] at h1 ⊢
      exact h1 F1 H1 (Ext.refl e.fh)
theorem s_tor (ha : PT X a (tT C W fa)) (hb : PW X (.BoolOp .Or (b :: rest) pos) (tT C W fb)) : PW X (.BoolOp .Or (a :: b :: rest) pos) (tT C W (eOr fa fb)) := by
  refine ⟨fun wh pins s σ H Q I h => (pw_or ha hb).run wh pins s σ H Q I ?_⟩
  obtain ⟨F, sd, S, h⟩ := h
  refine ⟨F, sd, S, t_bind (Q := Q) (k := fun b => if b = true then .ok (.bl true) else fb sd) ?_ fun b F1 H1 e h1 => ?_⟩
  · unfold eOr at h
    rw [bind_bl (k' := fun x => match x with | .bl true => .ok (.bl true) | .bl false => fb sd | _ => .bad)]
    · exact h
    · intro d
      cases d with
      | bl b => cases b <;> rfl
      | _ => rfl
  · cases b with
    | true =>
      rw [if_pos rfl] at h1 ⊢
      exact h1 F1 H1 (Ext.refl e.fh)
    | false =>
      rw [if_neg Bool.false_ne_true] at h1 ⊢
      exact ⟨F1, sd, S.mono e, h1⟩
theorem s_tand1 (ha : PT X a (tT C W fa)) : PW X (.BoolOp .And [a] pos) (tT C W fa) := pw_and1 ha
theorem s_tor1 (ha : PT X a (tT C W fa)) : PW X (.BoolOp .Or [a] pos) (tT C W fa) := pw_or1 ha
theorem s_tnot (ha : PT X a (tT C W fa)) : PT X (.UnaryOp .Not a pos) (tT C W (eNot fa)) := by
  refine pt_imp (pt_not ha) fun σ H Q h => ?_
  obtain ⟨F, sd, S, h⟩ := h
  refine ⟨F, sd, S, t_bind (Q := Q) (k := fun b => .ok (.bl (!b))) ?_ fun b F1 H1 e h1 => h1 F1 H1 (Ext.refl e.fh)⟩
  unfold eNot at h
  rw [bind_bl (k' := fun x => match x with | .bl b => .ok (.bl (!b)) | _ => .bad)]
  · exact h
  · intro d
    cases d <;> rfl
/-! the same as values -/
theorem e_bind {k : Bool → R D} {Q Q1 : VK} {r : R D}
    (h : PostE C W F H σ (pD C) Q (r.bind fun x => match x with | .bl b => k b | _ => .bad)) (hk : ∀ b F1 H1, Ext F H F1 H1 → PostE C W F1 H1 σ (pD C) Q (k b) → Q1 (.bl b) H1) : PostE C W F H σ (pD C) Q1 r := by
  cases r with
  | ok d => cases d with
    | bl b => exact fun v F' H' e p => by rw [rep_bl.mp p]; exact hk b F' H' e (PostE.ext e h)
    | _ => exact h.elim
  | ex c vs => exact h
  | bad => exact h
theorem s_and (ha : PE X a (tD C W fa)) (hb : PE X (.BoolOp .And (b :: rest) pos) (tD C W fb)) : PE X (.BoolOp .And (a :: b :: rest) pos) (tD C W (eAnd fa fb)) := by
  refine pe_imp (pe_and ha hb) fun σ H Q h => ?_
  obtain ⟨F, sd, S, h⟩ := h
  refine ⟨F, sd, S, e_bind (Q := Q) (k := fun b => if b = true then fb sd else .ok (.bl false)) ?_ fun b F1 H1 e h1 => ⟨b, rfl, ?_⟩⟩
  · unfold eAnd at h
    rw [bind_bl (k' := fun x => match x with | .bl true => fb sd | .bl false => .ok (.bl false) | _ => .bad)]
    · exact h
    · intro d
      cases d with
      | bl b => cases b <;> rfl
      | _ => rfl
  · cases b with
    | true =>
      rw [if_pos rfl] at h1 ⊢
      exact ⟨F1, sd, S.mono e, h1⟩
    | false =>
      rw [if_neg Bool.false_ne_true] at h1 ⊢
      exact h1 _ F1 H1 (Ext.refl e.fh) (rep_bl.mpr rfl)
theorem s_or (ha : PE X a (tD C W fa)) (hb : PE X (.BoolOp .Or (b :: rest) pos) (tD C W fb)) : PE X (.BoolOp .Or (a :: b :: rest) pos) (tD C W (eOr fa fb)) := by
  refine pe_imp (pe_or ha hb) fun σ H Q h => ?_
  obtain ⟨F, sd, S, h⟩ := h
  refine ⟨F, sd, S, e_bind (Q := Q) (k := fun b => if b = true then .ok (.bl true) else fb sd) ?_ fun b F1 H1 e h1 => ⟨b, rfl, ?_⟩⟩
  · unfold eOr at h
    rw [bind_bl (k' := fun x => match x with | .bl true => .ok (.bl true) | .bl false => fb sd | _ => .bad)]
    · exact h
    · intro d
      cases d with
      | bl b => cases b <;> rfl
      | _ => rfl
  · cases b with
    | true =>
      rw [if_pos rfl] at h1 ⊢
      exact h1 _ F1 H1 (Ext.refl e.fh) (rep_bl.mpr rfl)
    | false =>
      rw [if_neg Bool.false_ne_true] at h1 ⊢
      exact ⟨F1, sd, S.mono e, h1⟩
theorem s_one {op} (ha : PE X a (tD C W fa)) : PE X (.BoolOp op [a] pos) (tD C W fa) := pe_one ha
theorem s_not (ha : PE X a (tD C W fa)) : PE X (.UnaryOp .Not a pos) (tD C W (eNot fa)) := by
  refine pe_imp (pe_not ha) fun σ H Q h => ?_
  obtain ⟨F, sd, S, h⟩ := h
  refine ⟨F, sd, S, e_bind (Q := Q) (k := fun b => .ok (.bl (!b))) ?_ fun b F1 H1 e h1 => ⟨b, rfl, h1 _ F1 H1 (Ext.refl e.fh) (rep_bl.mpr rfl)⟩⟩
  unfold eNot at h
  rw [bind_bl (k' := fun x => match x with | .bl b => .ok (.bl (!b)) | _ => .bad)]
  · exact h
  · intro d
    cases d <;> rfl
theorem t_bindE {k : Bool → R D} {Q : VK} {Q1 : Bool → Hp → Prop} {P : Hp → Hp → D → V → Prop} {r : R D}
    (h : PostE C W F H σ P Q (r.bind fun x => match x with | .bl b => k b | _ => .bad)) (hk : ∀ b F1 H1, Ext F H F1 H1 → PostE C W F1 H1 σ P Q (k b) → Q1 b H1) : PostT C W F H σ Q1 r := by
  cases r with
  | ok d => cases d with
    | bl b => exact fun F' H' e => hk b F' H' e (PostE.ext e h)
    | _ => exact h.elim
  | ex c vs => exact h
  | bad => exact h
theorem s_if (hc : PT X c (tT C W fc)) (ha : PE X a (tD C W fa)) (hb : PE X b (tD C W fb)) : PE X (.IfExp c a b pos) (tD C W (eIf fc fa fb)) := by
  refine pe_imp (pe_ifExp hc ha hb) fun σ H Q h => ?_
  obtain ⟨F, sd, S, h⟩ := h
  refine ⟨F, sd, S, t_bindE (P := pD C) (Q := Q) (k := fun b => if b = true then fa sd else fb sd) ?_ fun b F1 H1 e h1 => ?_⟩
  · unfold eIf at h
    rw [bind_bl (k' := fun x => match x with | .bl true => fa sd | .bl false => fb sd | _ => .bad)]
    · exact h
    · intro d
      cases d with
      | bl b => cases b <;> rfl
      | _ => rfl
  · cases b with
    | true => rw [if_pos rfl] at h1 ⊢; exact ⟨F1, sd, S.mono e, h1⟩
    | false => rw [if_neg Bool.false_ne_true] at h1 ⊢; exact ⟨F1, sd, S.mono e, h1⟩
end
end
end Z
namespace Z
noncomputable section
open PySem PySem.Spec PySem.P PyProof.Rows L2

/-! ### a[i] -/
def ixD : D → D → R D
  | .lst xs, .int i => match atI xs i with
    | some d => .ok d
    | none => .bad
  | .tup xs, .int i => match atI xs i with
    | some d => .ok d
    | none => .bad
  | .str x, .int i => if x.length ≤ SZ then (match atI x i with
    | some c => .ok (.str [c])
    | none => .bad) else .bad
  | .dic ks vs, k => match keyD k with
    | some k => (match look ks vs k with
      | some d => .ok d
      | none => .bad)
    | none => .bad
  | _, _ => .bad
theorem ixD_ne : NoEx2 ixD := fun x y c vs h => by
  unfold ixD at h
  split at h <;> first | cases h | (split at h <;> first | cases h | (split at h <;> cases h))
theorem atI_rep {G : GE} {F : Hp} {ds : List D} {vs : List V} {i : Int} {d : D} (r : RepL G F ds vs) (h : atI ds i = some d) : ∃ v, atI vs i = some v ∧ Rep G F d v := by
  unfold atI at h ⊢
  rw [r.length]
  cases q : ixN ds.length i with
  | none => rw [q] at h; cases h
  | some j =>
    rw [q] at h
    exact r.get h
theorem atI_mem {α : Type} {xs : List α} {i : Int} {d : α} (h : atI xs i = some d) : d ∈ xs := by
  obtain ⟨j, _, e, _⟩ := atI_get h
  exact List.mem_of_getElem? e
theorem ix_D {X : Cx} {C : CT} (hK : X.K = C.G.K) (hu : X.A.units + 65 < cLine) : IxR X (r2 C.G ixD) := by
  intro value slice pins s σ H x y v u Q I rx ry h hs
  obtain ⟨F, d, e, S, bd, be, p⟩ := h
  unfold ixD at p
  split at p
  · split at p
    · rename_i hz
      obtain ⟨a, vs, e1, q, r⟩ := bor_lst S bd
      obtain ⟨w, h1, h2⟩ := atI_rep r hz
      rw [← hK] at q
      exact ix_list value slice pins s σ H x y v u Q I rx ry ⟨a, vs, _, w, e1, bor_int be, q, h1, p w F H (Ext.refl S) h2⟩ hs
    · exact p.elim
  · split at p
    · rename_i hz
      obtain ⟨a, vs, e1, q, r⟩ := bor_tup S bd
      obtain ⟨w, h1, h2⟩ := atI_rep r hz
      rw [← hK] at q
      exact ix_tup value slice pins s σ H x y v u Q I rx ry ⟨a, vs, _, w, e1, bor_int be, q, h1, p w F H (Ext.refl S) h2⟩ hs
    · exact p.elim
  · split at p
    · split at p
      · rename_i hl _ c hz
        obtain ⟨e1, k⟩ := bor_str bd
        refine ix_str value slice pins s σ H x y v u Q I rx ry ⟨_, _, c, e1, bor_int be, ?_, hz, p.str S (okS_mem k (atI_mem hz))⟩ hs
        show Array.size _ ≤ _
        rw [List.size_toArray]
        exact sz_line hl
      · exact p.elim
    · exact p.elim
  · split at p
    · rename_i k hk
      split at p
      · rename_i d' hd
        obtain ⟨a, kvs, rfl, q, e1, nd, r⟩ := bor_dic S bd
        rw [← e1] at hd
        obtain ⟨w, h1, h2⟩ := (look_val r).1 _ hd
        have ey := keyD_rep hk be
        have g : DGet H a y (some w) := .inl ⟨kvs, k, q, ey, h1.symm⟩
        obtain rfl : v = Value.ref a := rx
        exact tail_any (dict_typeIs I g) PySem.F.slot_dict_getitem.lookup (d_getItem (by omega) I g ry fun w' s3 I3 rw' => ⟨w, H, I3, rw', p w F H (Ext.refl S) h2⟩) hs
      · exact p.elim
    · exact p.elim
  · exact p.elim
section
variable {X : Cx} {C : CT} {W : WX} {a b c : Expr} {rest : List Expr} {fa fb fc f : SS → R D} {pos p2 : Pos}
theorem s_ix (hK : X.K = C.G.K) (hu : X.A.units + 65 < cLine) (ha : PE X a (tB C W fa)) (hb : PE X b (tB C W fb)) (hs : PlainIx b := by exact fun _ _ => rfl) : PE X (.Subscript a b pos) (tD C W (eBin ixD fa fb)) :=
  pe_imp (pe_ix (ix_D hK hu) ha hb hs) fun _ _ _ h => bin_read ixD_ne h

/-! ### a[lo:hi] -/
def cutL {α : Type} (xs : List α) (lo hi : Option Int) : List α := (xs.drop (HT.sIx xs.length 0 lo)).take (HT.sIx xs.length xs.length hi - HT.sIx xs.length 0 lo)
def slD (x : D) (lo hi : Option Int) : R D := match x with
  | .lst xs => .ok (.lst (cutL xs lo hi))
  | .tup xs => .ok (.tup (cutL xs lo hi))
  | .str x => if x.length ≤ SZ then .ok (.str (cutL x lo hi)) else .bad
  | _ => .bad
def optI : D → R (Option Int)
  | .int i => .ok (some i)
  | _ => .bad
/-- a part of a slice -/
def oNo : SS → R (Option Int) := fun _ => .ok none
def oSo (f : SS → R D) : SS → R (Option Int) := fun s => (f s).bind fun x => match x with
  | .int i => .ok (some i)
  | _ => .bad
def eSl (fa : SS → R D) (fl fh : SS → R (Option Int)) : SS → R D := fun s => (fa s).bind fun x => (fl s).bind fun l => (fh s).bind fun h => slD x l h
def PostO (C : CT) (W : WX) (F H : Hp) (σ : L2.St) (Q : Option Int → Hp → Prop) : R (Option Int) → Prop
  | .ok o => ∀ F' H', Ext F H F' H' → Q o H'
  | .ex c vs => ∀ cls dx F' H', Ext F H F' H' → XR C.G F' c vs cls dx → W cls dx σ H'
  | .bad => False
def tO (C : CT) (W : WX) (f : SS → R (Option Int)) : TO := fun σ H Q => ∃ F sd, StR C F H sd σ ∧ PostO C W F H σ Q (f sd)
theorem po_imp {e : Option Expr} {t t' : TO} (h : PO X e t) (i : ∀ σ H Q, t' σ H Q → t σ H Q) : PO X e t' := ⟨fun pins s σ H Q I q => h.run pins s σ H Q I (i σ H Q q)⟩
theorem s_ono : PO X none (tO C W oNo) := po_imp po_none fun σ H Q ⟨F, sd, S, h⟩ => h F H (Ext.refl S.fh)
theorem s_oso (ha : PE X a (tD C W fa)) : PO X (some a) (tO C W (oSo fa)) := po_imp (po_some ha) fun σ H Q ⟨F, sd, S, h⟩ => by
  refine ⟨F, sd, S, ?_⟩
  unfold oSo at h
  cases q : fa sd with
  | ok d =>
    rw [q] at h
    cases d with
    | int i => exact fun v F' H' e r => ⟨i, rep_int.mp r, h F' H' e⟩
    | _ => exact h.elim
  | ex c vs => rw [q] at h; exact h
  | bad => rw [q] at h; exact h
theorem PostE.bindO {F H : Hp} {σ : L2.St} {P : Hp → Hp → D → V → Prop} {Q : VK} {Q1 : Option Int → Hp → Prop} {x : R (Option Int)} {k : Option Int → R D} (h : PostE C W F H σ P Q (x.bind k))
    (hk : ∀ d F1 H1, Ext F H F1 H1 → PostE C W F1 H1 σ P Q (k d) → Q1 d H1) : PostO C W F H σ Q1 x := by
  cases x with
  | ok d => exact fun F' H' e => hk d F' H' e (PostE.ext e h)
  | ex c vs => exact h
  | bad => exact h
theorem RepL.cut {G : GE} {F : Hp} {ds : List D} {vs : List V} (r : RepL G F ds vs) (lo hi : Option Int) : RepL G F (cutL ds lo hi) (cutV vs lo hi) := by
  unfold cutL cutV
  rw [r.length]
  exact (r.drop _).take _
theorem cutL_all {α : Type} {xs : List α} {lo hi : Option Int} {c : α} (h : c ∈ cutL xs lo hi) : c ∈ xs := List.mem_of_mem_drop (List.mem_of_mem_take h)
def rSD (G : GE) : V → Option Int → Option Int → Hp → VK → Prop := fun x lo hi H Q => ∃ F d, Same F H ∧ Bor G F H d x ∧ PostV G F H Q (slD d lo hi)
theorem sl_D (hK : X.K = C.G.K) : SlR X (rSD C.G) := by
  intro pins s σ H x v vl vu lo hi sl Q I rx hs pl pu h
  obtain ⟨F, d, S, bd, p⟩ := h
  unfold slD at p
  split at p
  · obtain ⟨a, vs, e1, q, r⟩ := bor_lst S bd
    rw [← hK] at q
    exact sl_list pins s σ H x v vl vu lo hi sl Q I rx hs pl pu ⟨a, vs, e1, q, p.lst S (r.cut lo hi)⟩
  · rename_i xs
    obtain ⟨a, vs, rfl, q, r⟩ := bor_tup S bd
    rw [← hK] at q
    refine sl_tupA pins s σ H _ v vl vu lo hi sl Q I rx hs pl pu ⟨a, vs, rfl, q, fun hw => ?_, fun _ => p.tup S (r.cut lo hi)⟩
    have e : cutL xs lo hi = xs := by
      unfold cutL
      rw [← r.length, hw.1, hw.2, List.drop_zero, Nat.sub_zero, r.length]
      exact List.take_length
    rw [e] at p
    exact p _ F H (Ext.refl S) (bd.elim id fun ⟨_, _, _, z⟩ => z.elim)
  · split at p
    · rename_i xs hl
      obtain ⟨e1, k⟩ := bor_str bd
      refine sl_str pins s σ H x v vl vu lo hi sl Q I rx hs pl pu ⟨_, e1, ?_, ?_⟩
      · show Array.size _ ≤ _
        rw [List.size_toArray]
        exact sz_line hl
      · have := p.str S (okS_take _ (okS_drop _ k))
        unfold cutS
        have l1 : (⟨xs.toArray⟩ : Str).length = xs.length := List.size_toArray
        rw [l1]
        exact this
    · exact p.elim
  · exact p.elim
theorem s_sl (hK : X.K = C.G.K) {lo hi : Option Expr} {fl fh : SS → R (Option Int)} (ha : PE X a (tB C W fa)) (hl : PO X lo (tO C W fl)) (hh : PO X hi (tO C W fh)) : PE X (.Subscript a (.Slice lo hi none p2) pos) (tD C W (eSl fa fl fh)) := by
  refine pe_imp (pe_slice (sl_D hK) ha hl hh) fun σ H Q ⟨F, sd, S, h⟩ => ?_
  refine ⟨F, sd, S, PostE.bind h fun d v F1 H1 e1 b1 h1 => ?_⟩
  refine ⟨F1, sd, S.mono e1, PostE.bindO h1 fun l F2 H2 e2 h2 => ?_⟩
  refine ⟨F2, sd, (S.mono e1).mono e2, PostE.bindO h2 fun u F3 H3 e3 h3 => ?_⟩
  refine ⟨F3, d, e3.fh, Bor.mono (e2.trans e3) b1, h3.toV fun c vs z => ?_⟩
  unfold slD at z
  split at z <;> first | cases z | (split at z <;> cases z)

/-! ### arguments -/
def aNil : SS → R (List D) := fun _ => .ok []
def aCons (fa : SS → R D) (fs : SS → R (List D)) : SS → R (List D) := fun s => (fa s).bind fun x => (fs s).bind fun xs => .ok (x :: xs)
variable {es : List Expr} {fs : SS → R (List D)}
theorem PostA.ext {F H F1 H1 : Hp} {σ : L2.St} {P : Hp → Hp → D → V → Prop} {Q : List V → Hp → Prop} {r : R (List D)} (e : Ext F H F1 H1) (h : PostA C W F H σ P Q r) : PostA C W F1 H1 σ P Q r := by
  cases r with
  | ok d => exact fun v F' H' e' p => h v F' H' (e.trans e') p
  | ex c vs => exact fun cls dx F' H' e' x => h cls dx F' H' (e.trans e') x
  | bad => exact h
theorem a_cons {F H : Hp} {σ : L2.St} {sd : SS} {P : Hp → Hp → D → V → Prop} {Q : List V → Hp → Prop} (mono : ∀ {F H F' H' d v}, Ext F H F' H' → P F H d v → P F' H' d v) (S : StR C F H sd σ) (h : PostA C W F H σ P Q (aCons fa fs sd)) :
    PostE C W F H σ P (fun x H1 => ∃ F sd, StR C F H1 sd σ ∧ PostA C W F H1 σ P (fun xs H2 => Q (x :: xs) H2) (fs sd)) (fa sd) := by
  unfold aCons at h
  cases q : fa sd with
  | ok d =>
    rw [q] at h
    intro v F1 H1 e1 p1
    refine ⟨F1, sd, S.mono e1, ?_⟩
    cases q2 : fs sd with
    | ok ds =>
      have h : PostA C W F H σ P Q ((R.ok d).bind fun x => (fs sd).bind fun xs => .ok (x :: xs)) := h
      simp only [R.bind, q2] at h
      intro vs F2 H2 e2 p2
      exact h (v :: vs) F2 H2 (e1.trans e2) (.cons (mono e2 p1) p2)
    | ex c vs =>
      have h : PostA C W F H σ P Q ((R.ok d).bind fun x => (fs sd).bind fun xs => .ok (x :: xs)) := h
      simp only [R.bind, q2] at h
      exact fun cls dx F2 H2 e2 x => h cls dx F2 H2 (e1.trans e2) x
    | bad =>
      have h : PostA C W F H σ P Q ((R.ok d).bind fun x => (fs sd).bind fun xs => .ok (x :: xs)) := h
      simp only [R.bind, q2] at h
      exact h
  | ex c vs => rw [q] at h; exact h
  | bad => rw [q] at h; exact h
theorem s_anil : PA X [] (tA C W aNil) := pa_imp pa_nil fun σ H Q ⟨F, sd, S, h⟩ => h [] F H (Ext.refl S.fh) .nil
theorem s_acons (ha : PE X a (tD C W fa)) (hr : PA X es (tA C W fs)) (hs : starEach (a :: es) X.env = (false, eval a X.env) :: starEach es X.env := by rfl) : PA X (a :: es) (tA C W (aCons fa fs)) :=
  pa_imp (pa_cons ha hr hs) fun σ H Q ⟨F, sd, S, h⟩ => ⟨F, sd, S, a_cons (fun e p => Rep.mono e.ff p) S h⟩
theorem s_bnil : PA X [] (tAB C W aNil) := pa_imp pa_nil fun σ H Q ⟨F, sd, S, h⟩ => h [] F H (Ext.refl S.fh) .nil
theorem s_bcons (ha : PE X a (tB C W fa)) (hr : PA X es (tAB C W fs)) (hs : starEach (a :: es) X.env = (false, eval a X.env) :: starEach es X.env := by rfl) : PA X (a :: es) (tAB C W (aCons fa fs)) :=
  pa_imp (pa_cons ha hr hs) fun σ H Q ⟨F, sd, S, h⟩ => ⟨F, sd, S, a_cons (fun e p => Bor.mono e p) S h⟩
theorem pairL {G : GE} {F : Hp} : ∀ {ds : List D} {vs : List V}, Paired (Rep G F) ds vs → RepL G F ds vs
  | _, _, .nil => RepL.nil
  | _, _, .cons r t => RepL.cons r (pairL t)

/-! ### fresh things: displays -/
theorem PostE.fresh {F H : Hp} {σ : L2.St} {Q : VK} {ds : List D} {vs : List V} {H₀ : Hp} (e₀ : Same H₀ H) (S : Same F H) (r : RepL C.G F ds vs) (p : PostE C W F H σ (pF C H₀) Q (.ok (.lst ds))) : ∀ a, H a = none → Q (.ref a) (upd H a (.lst vs)) := fun a ha =>
  p _ F (upd H a (.lst vs)) (Ext.newOwn S ha) ⟨a, rfl, e₀.free ha, S.free ha, vs, upd_same, r⟩
/-- an own thing laid fast: a dict is locked -/
theorem lay_fast {X : Cx} {pins : List (Addr × Obj)} {σ : L2.St} {H : Hp} {s : Shared} {G : GE} {F : Hp} {a : Addr} {d : D} (I : Inv X pins σ H s) (q : OwR G F H a d) : ∃ o o', H a = some o ∧ Fz o o' ∧ (isDic d = true → o' ≠ o) ∧ Inv X pins σ (upd H a o') s := by
  obtain ⟨o, ho⟩ := q.there
  by_cases hd : isDic d = true
  · cases d with
    | dic ks vs =>
      obtain ⟨kvs, e, -⟩ := q
      obtain ⟨od, I1⟩ := I.lock e (by trivial)
      exact ⟨_, _, e, .inr ⟨od, kvs, rfl, rfl⟩, (fun _ z => by cases z), I1⟩
    | _ => cases hd
  · refine ⟨o, o, ho, .inl rfl, fun z => absurd z hd, ?_⟩
    have : upd H a o = H := by
      funext b
      by_cases hb : b = a
      · subst hb; rw [upd_same, ho]
      · rw [upd_ne hb]
    rw [this]
    exact I
/-- a fresh thing, shared from now on -/
theorem s_f (h : PE X a (tF C W f)) : PE X a (tD C W f) := ⟨fun pins s σ H Q I hh => by
  obtain ⟨F, sd, S, hh⟩ := hh
  refine thn (h.run pins s σ H (fun v H1 => ∃ F' d, Ext F H F' H1 ∧ (∃ a, v = .ref a ∧ H a = none ∧ F' a = none ∧ OwR C.G F' H1 a d) ∧ PostE C W F H σ (pD C) Q (.ok d)) I ⟨F, sd, S, ?_⟩) ?_
  · cases q : f sd with
    | ok d =>
      rw [q] at hh
      exact fun v F' H' e p => ⟨F', d, e, p, hh⟩
    | ex c vs => rw [q] at hh; exact hh
    | bad => rw [q] at hh; exact hh
  · intro u s1 ⟨x, H1, I1, r1, F', d, e, ⟨p, ex, hn, fn, ow⟩, hd⟩
    subst ex
    obtain ⟨o, o', ho, fz, nd, I2⟩ := lay_fast I1 ow
    have s1' : Same F' (upd F' p o') := same_new fn
    have s2 : Same (upd F' p o') (upd H1 p o') := fun b u z => by
      by_cases hb : b = p
      · subst hb; rw [upd_same] at z ⊢; exact z
      · rw [upd_ne hb] at z ⊢; exact e.fh _ _ z
    refine ⟨.ref p, upd H1 p o', I2, r1, hd _ (upd F' p o') (upd H1 p o') ⟨e.ff.trans s1', fun b u z => ?_, s2, fun b u h1 h2 => ?_⟩ (ow.rep s1' fun u z => ?_)⟩
    · have hb : b ≠ p := fun y => by subst y; rw [hn] at z; cases z
      rw [upd_ne hb]
      exact e.hh _ _ z
    · have hb : b ≠ p := fun z => by subst z; rw [hn] at h1; cases h1
      rw [upd_ne hb]
      exact e.ow b u h1 h2
    · rw [ho] at z; cases z; exact ⟨o', upd_same, fz, nd⟩⟩
def eLst (fs : SS → R (List D)) : SS → R D := fun s => (fs s).bind fun xs => if xs.length ≤ SZ then .ok (.lst xs) else .bad
def eTup (fs : SS → R (List D)) : SS → R D := fun s => (fs s).bind fun xs => if xs.length ≤ SZ then .ok (.tup xs) else .bad
theorem PostE.bindA {F H : Hp} {σ : L2.St} {P : Hp → Hp → D → V → Prop} {P1 : Hp → Hp → D → V → Prop} {Q : VK} {Q1 : List V → Hp → Prop} {x : R (List D)} {k : List D → R D} (h : PostE C W F H σ P Q (x.bind k))
    (hk : ∀ ds vs F1 H1, Ext F H F1 H1 → Paired (P1 F1 H1) ds vs → PostE C W F1 H1 σ P Q (k ds) → Q1 vs H1) : PostA C W F H σ P1 Q1 x := by
  cases x with
  | ok d => exact fun vs F' H' e r => hk d vs F' H' e r (PostE.ext e h)
  | ex c vs => exact h
  | bad => exact h
theorem s_lst (hs : PA X es (tA C W fs)) : PE X (.List es pos) (tF C W (eLst fs)) := by
  refine pe_imp (pe_lst hs) fun σ H Q ⟨F, sd, S, h⟩ => ?_
  refine ⟨F, sd, S, PostE.bindA h fun ds vs F1 H1 e1 r h1 => ?_⟩
  split at h1
  · rename_i hz
    have r := pairL r
    exact ⟨by rw [r.length]; exact sz_line hz, PostE.fresh e1.hh e1.fh r h1⟩
  · exact h1.elim
theorem s_tup {k} (hs : PA X es (tA C W fs)) : PE X (.Tuple es k pos) (tD C W (eTup fs)) := by
  refine pe_imp (pe_tup hs) fun σ H Q ⟨F, sd, S, h⟩ => ?_
  refine ⟨F, sd, S, PostE.bindA h fun ds vs F1 H1 e1 r h1 => ?_⟩
  split at h1
  · rename_i hz
    have r := pairL r
    exact ⟨by rw [r.length]; exact sz_line hz, (h1.toV fun _ _ z => by cases z).tup e1.fh r⟩
  · exact h1.elim
def eDic0 : SS → R D := fun _ => .ok (.dic [] [])
theorem s_dic0 : PE X (.Dict [] [] pos) (tF C W eDic0) := by
  refine pe_imp pe_dnewK fun σ H Q ⟨F, sd, S, h⟩ => ?_
  intro p hp
  exact h _ F (upd H p (.dK [])) (Ext.newOwn S.fh hp) ⟨p, rfl, hp, S.fh.free hp, [], upd_same, rfl, List.nodup_nil, RepL.nil⟩

/-! ### built-in functions by their names -/
/-- a call that gives a shared value -/
def rC (G : GE) (g : List D → R D) : List V → Hp → VK → Prop := fun vs H Q => ∃ F ds, Same F H ∧ Paired (Bor G F H) ds vs ∧ PostV G F H Q (g ds)
/-- a call that gives a new object -/
def PostVF (G : GE) (F H : Hp) (Q : VK) : R D → Prop
  | .ok d => ∀ a F' H', Ext F H F' H' → H a = none → F' a = none → OwR G F' H' a d → Q (.ref a) H'
  | _ => False
def rCF (G : GE) (g : List D → R D) : List V → Hp → VK → Prop := fun vs H Q => ∃ F ds, Same F H ∧ Paired (Bor G F H) ds vs ∧ PostVF G F H Q (g ds)
def eCall (g : List D → R D) (fs : SS → R (List D)) : SS → R D := fun s => (fs s).bind g
def NoExL (g : List D → R D) : Prop := ∀ x c vs, g x ≠ .ex c vs
variable {g : List D → R D} {x : Str} {id T : String} {p : Pos}
theorem call_read (hg : NoExL g) {σ : L2.St} {H : Hp} {Q : VK} (h : tD C W (eCall g fs) σ H Q) : tCB (rC C.G g) (tAB C W fs) σ H Q := by
  obtain ⟨F, sd, S, h⟩ := h
  refine ⟨F, sd, S, PostE.bindA h fun ds vs F1 H1 e1 r h1 => ?_⟩
  exact ⟨F1, ds, e1.fh, r, h1.toV (hg ds)⟩
theorem call_readF (hg : NoExL g) {σ : L2.St} {H : Hp} {Q : VK} (h : tF C W (eCall g fs) σ H Q) : tCB (rCF C.G g) (tAB C W fs) σ H Q := by
  obtain ⟨F, sd, S, h⟩ := h
  refine ⟨F, sd, S, PostE.bindA h fun ds vs F1 H1 e1 r h1 => ?_⟩
  refine ⟨F1, ds, e1.fh, r, ?_⟩
  cases q : g ds with
  | ok d =>
    rw [q] at h1
    exact fun a F' H' e hn fn ow => h1 _ F' H' e ⟨a, rfl, e1.hh.free hn, fn, ow⟩
  | ex c vs => exact (hg ds c vs q).elim
  | bad => rw [q] at h1; exact h1.elim
theorem s_bi (hg : NoExL g) (hc : CallR X (.builtin id) (rC C.G g)) (hgl : Gl X x) (hm : X.mg x = none) (hv : bootBuiltins x = some (.builtin id)) (ha : PA X (a :: es) (tAB C W fs)) (hn : x ≠ "__name__" := by decide) (hdb : (x == ("__debug__" : Str)) = false := by decide)
    (he : starEach (a :: es) X.env = (false, eval a X.env) :: starEach es X.env := by rfl) (hpl : (backTo pos (starEach es X.env)).any (·.1) = false := by rfl) : PE X (.Call (.Name x p) (a :: es) [] pos) (tD C W (eCall g fs)) :=
  pe_imp (pe_callB hc hgl hm hv ha hn hdb he hpl) fun _ _ _ h => call_read hg h
theorem s_biF (hg : NoExL g) (hc : CallR X (.builtin id) (rCF C.G g)) (hgl : Gl X x) (hm : X.mg x = none) (hv : bootBuiltins x = some (.builtin id)) (ha : PA X (a :: es) (tAB C W fs)) (hn : x ≠ "__name__" := by decide) (hdb : (x == ("__debug__" : Str)) = false := by decide)
    (he : starEach (a :: es) X.env = (false, eval a X.env) :: starEach es X.env := by rfl) (hpl : (backTo pos (starEach es X.env)).any (·.1) = false := by rfl) : PE X (.Call (.Name x p) (a :: es) [] pos) (tF C W (eCall g fs)) :=
  pe_imp (pe_callB hc hgl hm hv ha hn hdb he hpl) fun _ _ _ h => call_readF hg h
theorem s_ty (hg : NoExL g) (hc : CallR X (.type T) (rC C.G g)) (hgl : Gl X x) (hm : X.mg x = none) (hv : bootBuiltins x = some (.type T)) (ha : PA X (a :: es) (tAB C W fs)) (hn : x ≠ "__name__" := by decide) (hdb : (x == ("__debug__" : Str)) = false := by decide)
    (he : starEach (a :: es) X.env = (false, eval a X.env) :: starEach es X.env := by rfl) (hpl : (backTo pos (starEach es X.env)).any (·.1) = false := by rfl) : PE X (.Call (.Name x p) (a :: es) [] pos) (tD C W (eCall g fs)) :=
  pe_imp (pe_callTy hc hgl hm hv ha hn hdb he hpl) fun _ _ _ h => call_read hg h
theorem s_tyF (hg : NoExL g) (hc : CallR X (.type T) (rCF C.G g)) (hgl : Gl X x) (hm : X.mg x = none) (hv : bootBuiltins x = some (.type T)) (ha : PA X (a :: es) (tAB C W fs)) (hn : x ≠ "__name__" := by decide) (hdb : (x == ("__debug__" : Str)) = false := by decide)
    (he : starEach (a :: es) X.env = (false, eval a X.env) :: starEach es X.env := by rfl) (hpl : (backTo pos (starEach es X.env)).any (·.1) = false := by rfl) : PE X (.Call (.Name x p) (a :: es) [] pos) (tF C W (eCall g fs)) :=
  pe_imp (pe_callTy hc hgl hm hv ha hn hdb he hpl) fun _ _ _ h => call_readF hg h
/-- len(x) -/
def lenD : List D → R D
  | [.str x] => if x.length ≤ SZ then .ok (.int x.length) else .bad
  | [.lst x] => .ok (.int x.length)
  | [.tup x] => .ok (.int x.length)
  | _ => .bad
theorem lenD_ne : NoExL lenD := fun x c vs h => by
  unfold lenD at h
  split at h <;> first | cases h | (split at h <;> cases h)
theorem pair1 {P : D → V → Prop} {d : D} {vs : List V} (h : Paired P [d] vs) : ∃ v, vs = [v] ∧ P d v := by
  cases h with
  | cons r t => cases t; exact ⟨_, rfl, r⟩
theorem pair2 {P : D → V → Prop} {d e : D} {vs : List V} (h : Paired P [d, e] vs) : ∃ v u, vs = [v, u] ∧ P d v ∧ P e u := by
  cases h with
  | cons r t =>
    obtain ⟨u, rfl, q⟩ := pair1 t
    exact ⟨_, _, rfl, r, q⟩
theorem call_lenD (hK : X.K = C.G.K) : CallR X (.builtin "len") (rC C.G lenD) := by
  intro pins s σ H xs us Q I r h
  obtain ⟨F, ds, S, r2, p⟩ := h
  unfold lenD at p
  split at p
  · split at p
    · rename_i z hz
      obtain ⟨v, rfl, b⟩ := pair1 r2
      have l1 : (⟨z.toArray⟩ : Str).length = z.length := List.size_toArray
      refine call_len pins s σ H _ us Q I r ⟨_, z.length, rfl, ?_, p.int S⟩
      rw [(bor_str b).1]
      exact ⟨by rw [l1]; exact sz_line hz, l1.symm⟩
    · exact p.elim
  · obtain ⟨v, rfl, b⟩ := pair1 r2
    obtain ⟨a, xs, rfl, q, rr⟩ := bor_lst S b
    rw [← hK] at q
    refine call_len pins s σ H _ us Q I r ⟨_, _, rfl, .inl ⟨xs, q, rr.length.symm⟩, p.int S⟩
  · obtain ⟨v, rfl, b⟩ := pair1 r2
    obtain ⟨a, xs, rfl, q, rr⟩ := bor_tup S b
    rw [← hK] at q
    refine call_len pins s σ H _ us Q I r ⟨_, _, rfl, .inr ⟨xs, q, rr.length.symm⟩, p.int S⟩
  · exact p.elim
end
end
end Z
namespace Z
noncomputable section
open PySem PySem.Spec PySem.P PyProof.Rows L2

/-- what every rule asks of the place where the code stands -/
structure Pq (X : Cx) (C : CT) (W : WX) : Prop where
  K : X.K = C.G.K
  hu : X.A.units + 65 < cLine
  tk : Takes X W
  pass : PassesOwn (model X.prog X.w) X.A X.env X.xe
structure Pl (X : Cx) (C : CT) (W : WX) : Prop extends Pq X C W where
  calm : X.calm = true
instance {X : Cx} {C : CT} {W : WX} : Coe (Pl X C W) (Pq X C W) := ⟨Pl.toPq⟩

/-! ### statements -/
/-- locked slots stay -/
def LkD (d d' : D) : Prop := d' = d ∨ ∃ c c' vs ws, d = .obj c vs ∧ d' = .obj c' ws
def Lk (sd : SS) (σ : L2.St) (sd' : SS) (σ' : L2.St) : Prop := ∀ (i : Nat) (d : D), sd[i]? = some (.lk d) → (∃ d', sd'[i]? = some (.lk d') ∧ LkD d d') ∧ σ'[i]? = σ[i]?
theorem Lk.refl {sd : SS} {σ : L2.St} : Lk sd σ sd σ := fun _ _ h => ⟨⟨_, h, .inl rfl⟩, rfl⟩
theorem LkD.trans {a b c : D} (h : LkD a b) (g : LkD b c) : LkD a c := by
  rcases h with rfl | ⟨c1, c2, vs, ws, rfl, rfl⟩
  · exact g
  · rcases g with rfl | ⟨c3, c4, us, zs, e, rfl⟩
    · exact .inr ⟨_, _, _, _, rfl, rfl⟩
    · exact .inr ⟨_, _, _, _, rfl, rfl⟩
theorem Lk.trans {sd sd1 sd2 : SS} {σ σ1 σ2 : L2.St} (a : Lk sd σ sd1 σ1) (b : Lk sd1 σ1 sd2 σ2) : Lk sd σ sd2 σ2 := fun i d h => by
  obtain ⟨⟨d1, h1, l1⟩, g1⟩ := a i d h
  obtain ⟨⟨d2, h2, l2⟩, g2⟩ := b i d1 h1
  exact ⟨⟨d2, h2, l1.trans l2⟩, g2.trans g1⟩
theorem Lk.same {sd sd' : SS} {σ σ' : L2.St} {i : Nat} {d : D} (l : Lk sd σ sd' σ') (h : sd[i]? = some (.lk d)) (hd : ∀ c vs, d ≠ .obj c vs) : sd'[i]? = some (.lk d) ∧ σ'[i]? = σ[i]? := by
  obtain ⟨⟨d', h1, l1⟩, g⟩ := l i d h
  rcases l1 with rfl | ⟨c, _, vs, _, e, _⟩
  · exact ⟨h1, g⟩
  · exact (hd c vs e).elim
def PostS (C : CT) (W : WX) (F : Hp) (sd : SS) (σ : L2.St) (D : Ends) : RS → Prop
  | .nx s' => ∀ F' H' σ', StR C F' H' s' σ' → Same F F' → Lk sd σ s' σ' → D.nx σ' H'
  | .bk s' => ∀ F' H' σ', StR C F' H' s' σ' → Same F F' → Lk sd σ s' σ' → D.bk σ' H'
  | .ct s' => ∀ F' H' σ', StR C F' H' s' σ' → Same F F' → Lk sd σ s' σ' → D.ct σ' H'
  | .rt false d => ∀ v F' H', Ext C.F0 C.H0 F' H' → Same F F' → Rep C.G F' d v → D.rt v H'
  | .rt true d => ∀ a F' H', Ext C.F0 C.H0 F' H' → Same F F' → C.H0 a = none → F' a = none → OwR C.G F' H' a d → D.rt (.ref a) H'
  | .ex c vs s' => ∀ cls dx F' H' σ', StR C F' H' s' σ' → Same F F' → Lk sd σ s' σ' → XR C.G F' c vs cls dx → W cls dx σ' H'
  | .bad => False
def tS (C : CT) (W : WX) (f : SS → RS) : TS := fun D σ H => ∃ F sd, StR C F H sd σ ∧ PostS C W F sd σ D (f sd)
theorem PostS.mono {C : CT} {W : WX} {F F1 : Hp} {sd sd1 : SS} {σ σ1 : L2.St} {D : Ends} {r : RS} (f : Same F F1) (l : Lk sd σ sd1 σ1) (h : PostS C W F sd σ D r) : PostS C W F1 sd1 σ1 D r := by
  cases r with
  | nx s => exact fun F' H' σ' S q k => h F' H' σ' S (f.trans q) (l.trans k)
  | bk s => exact fun F' H' σ' S q k => h F' H' σ' S (f.trans q) (l.trans k)
  | ct s => exact fun F' H' σ' S q k => h F' H' σ' S (f.trans q) (l.trans k)
  | rt b d => cases b with
    | false => exact fun v F' H' e q => h v F' H' e (f.trans q)
    | true => exact fun v F' H' e q => h v F' H' e (f.trans q)
  | ex c vs s => exact fun cls dx F' H' σ' S q k => h cls dx F' H' σ' S (f.trans q) (l.trans k)
  | bad => exact h

/-! ### slots -/
def setS (s : SS) (i : Nat) (x : Sl) : Option SS := match s[i]? with
  | some (.lk _) => none
  | some _ => some (s.set i x)
  | none => none
theorem setS_some {s s' : SS} {i : Nat} {x : Sl} (h : setS s i x = some s') : s' = s.set i x ∧ i < s.length ∧ ∀ d, s[i]? ≠ some (.lk d) := by
  unfold setS at h
  split at h
  · cases h
  · rename_i y hn hs
    cases h
    refine ⟨rfl, (List.getElem?_eq_some_iff.mp hs).1, fun d e => ?_⟩
    rw [hs] at e
    cases e
    exact hn d rfl
  · cases h
theorem lk_set {s s' : SS} {i : Nat} {x : Sl} {σ : L2.St} {v : V} (h : setS s i x = some s') : Lk s σ s' (σ.set i (some v)) := fun j d e => by
  obtain ⟨rfl, hi, hl⟩ := setS_some h
  have hij : i ≠ j := fun z => by subst z; exact hl d e
  rw [List.getElem?_set_ne hij, List.getElem?_set_ne hij]
  exact ⟨⟨_, e, .inl rfl⟩, rfl⟩
theorem StR.setSh {C : CT} {F H : Hp} {s s' : SS} {σ : L2.St} {i : Nat} {d : D} {v : V} (S : StR C F H s σ) (h : setS s i (.sh d) = some s') (r : Rep C.G F d v) : StR C F H s' (σ.set i (some v)) := by
  obtain ⟨rfl, hi, hl⟩ := setS_some h
  have hiσ : i < σ.length := by rw [← S.len]; exact hi
  refine ⟨S.ext, by rw [List.length_set, List.length_set]; exact S.len, fun j e q => ?_, fun j e q => ?_, fun j k e e' a q1 q2 q3 q4 => ?_⟩
  · by_cases hij : i = j
    · subst hij
      rw [List.getElem?_set_self hi] at q
      cases q
      exact ⟨v, List.getElem?_set_self hiσ, r⟩
    · rw [List.getElem?_set_ne hij] at q ⊢
      exact S.sh j e q
  · by_cases hij : i = j
    · subst hij
      rw [List.getElem?_set_self hi] at q
      rcases q with q | q <;> cases q
    · rw [List.getElem?_set_ne hij] at q ⊢
      exact S.ow j e q
  · by_cases hij : i = j
    · subst hij
      rw [List.getElem?_set_self hi] at q1
      rcases q1 with q | q <;> cases q
    · by_cases hik : i = k
      · subst hik
        rw [List.getElem?_set_self hi] at q2
        rcases q2 with q | q <;> cases q
      · rw [List.getElem?_set_ne hij] at q1 q3
        rw [List.getElem?_set_ne hik] at q2 q4
        exact S.dis j k e e' a q1 q2 q3 q4
theorem StR.setOw {C : CT} {F H H₁ : Hp} {s s' : SS} {σ : L2.St} {i : Nat} {d : D} {a : Addr} (S : StR C F H s σ) (h : setS s i (.ow d) = some s') (h₁ : ∀ (j : Nat) (e : D) (b : Addr), s[j]? = some (.ow e) ∨ s[j]? = some (.lk e) → σ[j]? = some (some (.ref b)) → ∃ o, H₁ b = some o)
    (ha : H₁ a = none) (h0 : C.H0 a = none) (hf : F a = none) (r : OwR C.G F H a d) : StR C F H s' (σ.set i (some (.ref a))) := by
  obtain ⟨rfl, hi, hl⟩ := setS_some h
  have hiσ : i < σ.length := by rw [← S.len]; exact hi
  have new : ∀ (j : Nat) (e : D), s[j]? = some (.ow e) ∨ s[j]? = some (.lk e) → σ[j]? ≠ some (some (.ref a)) := fun j e q z => by
    obtain ⟨o, ho⟩ := h₁ j e a q z
    rw [ha] at ho
    cases ho
  refine ⟨S.ext, by rw [List.length_set, List.length_set]; exact S.len, fun j e q => ?_, fun j e q => ?_, fun j k e e' b q1 q2 q3 q4 => ?_⟩
  · by_cases hij : i = j
    · subst hij
      rw [List.getElem?_set_self hi] at q
      cases q
    · rw [List.getElem?_set_ne hij] at q ⊢
      exact S.sh j e q
  · by_cases hij : i = j
    · subst hij
      rw [List.getElem?_set_self hi] at q
      rcases q with q | q
      · cases q
        exact ⟨a, List.getElem?_set_self hiσ, h0, hf, r⟩
      · cases q
    · rw [List.getElem?_set_ne hij] at q ⊢
      exact S.ow j e q
  · by_cases hij : i = j
    · subst hij
      rw [List.getElem?_set_self hiσ] at q3
      cases q3
      by_cases hik : i = k
      · exact hik
      · rw [List.getElem?_set_ne hik] at q2 q4
        exact (new k e' q2 q4).elim
    · by_cases hik : i = k
      · subst hik
        rw [List.getElem?_set_self hiσ] at q4
        cases q4
        rw [List.getElem?_set_ne hij] at q1 q3
        exact (new j e q1 q3).elim
      · rw [List.getElem?_set_ne hij] at q1 q3
        rw [List.getElem?_set_ne hik] at q2 q4
        exact S.dis j k e e' b q1 q2 q3 q4
/-- the own objects stand there -/
theorem StR.owns {C : CT} {F H : Hp} {s : SS} {σ : L2.St} (S : StR C F H s σ) : ∀ (j : Nat) (e : D) (b : Addr), s[j]? = some (.ow e) ∨ s[j]? = some (.lk e) → σ[j]? = some (some (.ref b)) → ∃ o, H b = some o := fun j e b q z => by
  obtain ⟨a, h1, _, _, h4⟩ := S.ow j e q
  rw [h1] at z
  cases z
  exact h4.there

section
variable {X : Cx} {C : CT} {W : WX} {e : Expr} {fe : SS → R D} {pos : Pos} {st : Stmt} {sts : List Stmt} {f f' : SS → RS}
/-- what is made of an expression's result -/
def sE (fe : SS → R D) (k : D → SS → RS) : SS → RS := fun s => match fe s with
  | .ok d => k d s
  | .ex c vs => .ex c vs s
  | .bad => .bad
def optS (o : Option SS) : RS := match o with
  | some s => .nx s
  | none => .bad
/-- name = e -/
def sSet (i : Nat) (fe : SS → R D) : SS → RS := sE fe fun d s => optS (setS s i (.sh d))
def sSetO (i : Nat) (fe : SS → R D) : SS → RS := sE fe fun d s => optS (setS s i (.ow d))
theorem postS_E {F H : Hp} {sd : SS} {σ : L2.St} {En : Ends} {k : D → SS → RS} {P : Hp → Hp → D → V → Prop} {Q : VK} (S : StR C F H sd σ) (h : PostS C W F sd σ En (sE fe k sd))
    (hk : ∀ d v F1 H1, Ext F H F1 H1 → P F1 H1 d v → PostS C W F sd σ En (k d sd) → Q v H1) : PostE C W F H σ P Q (fe sd) := by
  unfold sE at h
  cases q : fe sd with
  | ok d =>
    rw [q] at h
    exact fun v F' H' e p => hk d v F' H' e p h
  | ex c vs =>
    rw [q] at h
    exact fun cls dx F' H' e x => h cls dx F' H' σ (S.mono e) e.ff Lk.refl x
  | bad => rw [q] at h; exact h
theorem s_set (i : Nat) {x : Str} {pos' : Pos} (he : PE X e (tD C W fe)) (hN : X.N.Nodup) (hi : X.N[i]? = some x := by rfl) (hx : Loc X.env.scope x := by first | exact Or.inl rfl | exact Or.inr rfl) (hs : swapsWith e (some (.Name x pos')) pos.line X.env = pure false := by rfl)
    (hf : X.fn x = true ∨ X.env.scope.names.lookup x = some .local := by first | exact .inl rfl | exact .inr rfl) : PS X (.Assign [.Name x pos'] e pos) (tS C W (sSet i fe)) := by
  refine ps_imp (ps_set (i := i) hN hi hx he hs hf) fun D σ H ⟨F, sd, S, h⟩ => ?_
  refine ⟨F, sd, S, postS_E S h fun d v F1 H1 e1 r h1 => ?_⟩
  cases q : setS sd i (.sh d) with
  | none => rw [q] at h1; exact h1.elim
  | some s' =>
    rw [q] at h1
    exact h1 F1 H1 _ ((S.mono e1).setSh q r) e1.ff (lk_set q)
theorem s_seto (i : Nat) {x : Str} {pos' : Pos} (he : PE X e (tF C W fe)) (hN : X.N.Nodup) (hi : X.N[i]? = some x := by rfl) (hx : Loc X.env.scope x := by first | exact Or.inl rfl | exact Or.inr rfl) (hs : swapsWith e (some (.Name x pos')) pos.line X.env = pure false := by rfl)
    (hf : X.fn x = true ∨ X.env.scope.names.lookup x = some .local := by first | exact .inl rfl | exact .inr rfl) : PS X (.Assign [.Name x pos'] e pos) (tS C W (sSetO i fe)) := by
  refine ps_imp (ps_set (i := i) hN hi hx he hs hf) fun D σ H ⟨F, sd, S, h⟩ => ?_
  refine ⟨F, sd, S, postS_E S h fun d v F1 H1 e1 r h1 => ?_⟩
  obtain ⟨a, rfl, hn, hf, ow⟩ := r
  cases q : setS sd i (.ow d) with
  | none => rw [q] at h1; exact h1.elim
  | some s' =>
    rw [q] at h1
    exact h1 F1 H1 _ ((S.mono e1).setOw (H₁ := H) q S.owns hn (S.ext.hh.free hn) hf ow) e1.ff (lk_set q)
/-- an expression whose value is dropped -/
def sX (fe : SS → R D) : SS → RS := sE fe fun _ s => .nx s
theorem s_x (he : PE X e (tD C W fe)) (hs : swapsWith e none pos.line X.env = pure false := by rfl) : PS X (.Expr e pos) (tS C W (sX fe)) := by
  refine ps_imp (ps_expr he hs) fun D σ H ⟨F, sd, S, h⟩ => ?_
  exact ⟨F, sd, S, postS_E S h fun d v F1 H1 e1 r h1 => h1 F1 H1 σ (S.mono e1) e1.ff Lk.refl⟩
/-- return e -/
def sRet (fe : SS → R D) : SS → RS := sE fe fun d _ => .rt false d
def sRetF (fe : SS → R D) : SS → RS := sE fe fun d _ => .rt true d
theorem s_ret (he : PE X e (tD C W fe)) : PS X (.Return (some e) pos) (tS C W (sRet fe)) := by
  refine ps_imp (ps_ret he) fun D σ H ⟨F, sd, S, h⟩ => ?_
  exact ⟨F, sd, S, postS_E S h fun d v F1 H1 e1 r h1 => h1 v F1 H1 (S.ext.trans e1) e1.ff r⟩
theorem s_retf (he : PE X e (tF C W fe)) : PS X (.Return (some e) pos) (tS C W (sRetF fe)) := by
  refine ps_imp (ps_ret he) fun D σ H ⟨F, sd, S, h⟩ => ?_
  refine ⟨F, sd, S, postS_E S h fun d v F1 H1 e1 r h1 => ?_⟩
  obtain ⟨a, rfl, hn, hf, ow⟩ := r
  exact h1 a F1 H1 (S.ext.trans e1) e1.ff (S.ext.hh.free hn) hf ow
def sRetN : SS → RS := fun _ => .rt false .non
theorem s_retn : PS X (.Return none pos) (tS C W sRetN) := ps_imp ps_retN fun D σ H ⟨F, sd, S, h⟩ => h .non F H S.ext (Same.refl F) (rep_non.mpr rfl)
/-- return x, x an own object: handed on -/
def sRetO (i : Nat) : SS → RS := fun s => match s[i]? with
  | some (.ow d) => .rt true d
  | _ => .bad
theorem s_reto (i : Nat) {x : Str} {p : Pos} (hN : X.N[i]? = some x := by rfl) (hv : Vis X.env.scope x := by first | exact Or.inl rfl | exact Or.inr (Or.inl rfl) | exact Or.inr (Or.inr rfl)) (hd : (x == ("__debug__" : Str)) = false := by decide)
    (hcd : (x == ("__classdict__" : Str)) = false := by decide) : PS X (.Return (some (.Name x p)) pos) (tS C W (sRetO i)) := by
  refine ps_imp (ps_ret (pe_var (i := i) hN hv hd hcd)) fun D σ H ⟨F, sd, S, h⟩ => ?_
  unfold sRetO at h
  split at h
  · rename_i d hd'
    obtain ⟨a, h1, h2, h3, h4⟩ := S.ow i d (.inl hd')
    exact ⟨_, h1, h a F H S.ext (Same.refl F) h2 h3 h4⟩
  · exact h.elim
def sNx : SS → RS := fun s => .nx s
def sBk : SS → RS := fun s => .bk s
def sCt : SS → RS := fun s => .ct s
theorem s_pass : PS X (.Pass pos) (tS C W sNx) := ps_imp ps_pass fun D σ H ⟨F, sd, S, h⟩ => h F H σ S (Same.refl F) Lk.refl
theorem s_bk : PS X (.Break pos) (tS C W sBk) := ps_imp ps_break fun D σ H ⟨F, sd, S, h⟩ => h F H σ S (Same.refl F) Lk.refl
theorem s_ct : PS X (.Continue pos) (tS C W sCt) := ps_imp ps_continue fun D σ H ⟨F, sd, S, h⟩ => h F H σ S (Same.refl F) Lk.refl
/-- blocks -/
def sSeq (f g : SS → RS) : SS → RS := fun s => match f s with
  | .nx s' => g s'
  | r => r
theorem ss_nil : PSs X [] (tS C W sNx) := pss_imp pss_nil fun D σ H ⟨F, sd, S, h⟩ => h F H σ S (Same.refl F) Lk.refl
theorem ss_cons (h1 : PS X st (tS C W f)) (h2 : PSs X sts (tS C W f')) : PSs X (st :: sts) (tS C W (sSeq f f')) := by
  refine pss_imp (pss_cons h1 h2) fun D σ H ⟨F, sd, S, h⟩ => ?_
  refine ⟨F, sd, S, ?_⟩
  unfold sSeq at h
  cases q : f sd with
  | nx s' =>
    rw [q] at h
    exact fun F' H' σ' S' f l => ⟨F', s', S', PostS.mono f l h⟩
  | bk s' => rw [q] at h; exact h
  | ct s' => rw [q] at h; exact h
  | rt b d => rw [q] at h; cases b <;> exact h
  | ex c vs s' => rw [q] at h; exact h
  | bad => rw [q] at h; exact h
theorem ss_one (h1 : PS X st (tS C W f)) : PSs X [st] (tS C W f) := pss_one h1
/-- if -/
def sIf (fc : SS → R D) (f g : SS → RS) : SS → RS := sE fc fun d s => match d with
  | .bl true => f s
  | .bl false => g s
  | _ => .bad
theorem postS_T {F H : Hp} {sd : SS} {σ : L2.St} {D : Ends} {k : Bool → SS → RS} {Q : Bool → Hp → Prop} (S : StR C F H sd σ) (h : PostS C W F sd σ D (sE fe (fun d s => match d with | .bl b => k b s | _ => .bad) sd))
    (hk : ∀ b F1 H1, Ext F H F1 H1 → PostS C W F sd σ D (k b sd) → Q b H1) : PostT C W F H σ Q (fe sd) := by
  unfold sE at h
  cases q : fe sd with
  | ok d =>
    rw [q] at h
    cases d with
    | bl b => exact fun F' H' e => hk b F' H' e h
    | _ => exact h.elim
  | ex c vs =>
    rw [q] at h
    exact fun cls dx F' H' e x => h cls dx F' H' σ (S.mono e) e.ff Lk.refl x
  | bad => rw [q] at h; exact h
theorem sE_congr {k k' : D → SS → RS} (h : ∀ d s, k d s = k' d s) : sE fe k = sE fe k' := by
  have : k = k' := funext fun d => funext fun s => h d s
  rw [this]
theorem sIf_eq {fc : SS → R D} {f g : SS → RS} : sIf fc f g = sE fc fun d s => match d with | .bl b => (if b = true then f s else g s) | _ => .bad := by
  unfold sIf
  refine sE_congr fun d s => ?_
  cases d with
  | bl b => cases b <;> rfl
  | _ => rfl
theorem s_ifs {a b : List Stmt} {fc : SS → R D} (hc : PT X e (tT C W fc)) (ha : PSs X a (tS C W f)) (hb : PSs X b (tS C W f')) : PS X (.If e a b pos) (tS C W (sIf fc f f')) := by
  refine ps_imp (ps_if hc ha hb) fun D σ H ⟨F, sd, S, h⟩ => ?_
  rw [sIf_eq] at h
  refine ⟨F, sd, S, postS_T S h fun b F1 H1 e1 h1 => ?_⟩
  cases b with
  | true =>
    rw [if_pos rfl] at h1 ⊢
    exact ⟨F1, sd, S.mono e1, PostS.mono e1.ff Lk.refl h1⟩
  | false =>
    rw [if_neg Bool.false_ne_true] at h1 ⊢
    exact ⟨F1, sd, S.mono e1, PostS.mono e1.ff Lk.refl h1⟩
/-- an own object becomes a shared one -/
def frz (i : Nat) (s : SS) : SS := match s[i]? with
  | some (.ow d) => s.set i (.sh d)
  | _ => s
theorem StR.frz {X : Cx} {pins : List (Addr × Obj)} {s : Shared} {F H : Hp} {sd : SS} {σ : L2.St} (i : Nat) (I : Inv X pins σ H s) (S : StR C F H sd σ) : ∃ F' H', Same F F' ∧ Inv X pins σ H' s ∧ StR C F' H' (Z.frz i sd) σ ∧ Lk sd σ (Z.frz i sd) σ := by
  unfold Z.frz
  cases q : sd[i]? with
  | none => exact ⟨F, H, Same.refl F, I, S, Lk.refl⟩
  | some u =>
    cases u with
    | ow d =>
      obtain ⟨a, h1, h2, h3, h4⟩ := S.ow i d (.inl q)
      obtain ⟨o, o', ho, fz, nd, I2⟩ := lay_fast I h4
      have hi : i < sd.length := (List.getElem?_eq_some_iff.mp q).1
      have s1 : Same F (upd F a o') := same_new h3
      have s2 : Same (upd F a o') (upd H a o') := fun b u z => by
        by_cases hb : b = a
        · subst hb; rw [upd_same] at z ⊢; exact z
        · rw [upd_ne hb] at z ⊢; exact S.fh _ _ z
      have other : ∀ (j : Nat) (e : D) (b : Addr), j ≠ i → sd[j]? = some (.ow e) ∨ sd[j]? = some (.lk e) → σ[j]? = some (some (.ref b)) → b ≠ a := fun j e b hj q2 q3 z => by
        subst z
        exact hj (S.dis j i e d b q2 (.inl q) q3 h1)
      refine ⟨upd F a o', upd H a o', s1, I2, ⟨⟨S.ext.ff.trans s1, fun b u z => ?_, s2, fun b u e1 e2 => ?_⟩, by rw [List.length_set]; exact S.len, fun j e q2 => ?_, fun j e q2 => ?_, fun j k e e' b q1 q2 => ?_⟩, fun j e q2 => ?_⟩
      · have hb : b ≠ a := fun y => by subst y; rw [h2] at z; cases z
        rw [upd_ne hb]
        exact S.ext.hh _ _ z
      · have hb : b ≠ a := fun z => by subst z; rw [h2] at e1; cases e1
        rw [upd_ne hb]
        exact S.ext.ow b u e1 e2
      · by_cases hij : i = j
        · subst hij
          rw [List.getElem?_set_self hi] at q2
          cases q2
          exact ⟨_, h1, h4.rep s1 fun u z => by rw [ho] at z; cases z; exact ⟨o', upd_same, fz, nd⟩⟩
        · rw [List.getElem?_set_ne hij] at q2
          obtain ⟨v, e1, e2⟩ := S.sh j e q2
          exact ⟨v, e1, Rep.mono s1 e2⟩
      · by_cases hij : i = j
        · subst hij
          rw [List.getElem?_set_self hi] at q2
          rcases q2 with z | z <;> cases z
        · rw [List.getElem?_set_ne hij] at q2
          obtain ⟨b, e1, e2, e3, e4⟩ := S.ow j e q2
          have hb := other j e b (Ne.symm hij) q2 e1
          refine ⟨b, e1, e2, by rw [upd_ne hb]; exact e3, e4.mono s1 fun _ z => ?_⟩
          rw [upd_ne hb]; exact z
      · by_cases hij : i = j
        · subst hij
          rw [List.getElem?_set_self hi] at q1
          rcases q1 with z | z <;> cases z
        · by_cases hik : i = k
          · subst hik
            rw [List.getElem?_set_self hi] at q2
            rcases q2 with z | z <;> cases z
          · rw [List.getElem?_set_ne hij] at q1
            rw [List.getElem?_set_ne hik] at q2
            exact S.dis j k e e' b q1 q2
      · have hij : i ≠ j := fun z => by subst z; rw [q] at q2; cases q2
        rw [List.getElem?_set_ne hij]
        exact ⟨⟨_, q2, .inl rfl⟩, rfl⟩
    | _ => exact ⟨F, H, Same.refl F, I, S, Lk.refl⟩
def sFrz (i : Nat) (f : SS → RS) : SS → RS := fun s => f (frz i s)
theorem s_frz (i : Nat) (h : PS X st (tS C W f)) : PS X st (tS C W (sFrz i f)) := ⟨fun pins s σ H D I hh => by
  obtain ⟨F, sd, S, hh⟩ := hh
  obtain ⟨F', H', q, I2, S', l⟩ := S.frz i I
  exact h.run pins s σ H' D I2 ⟨F', Z.frz i sd, S', PostS.mono q l hh⟩⟩
end
end
end Z
namespace Z
noncomputable section
open PySem PySem.Spec PySem.P PyProof.Rows L2

/-! ### targets -/
abbrev FG := D → SS → Option SS
/-- σ' is σ but for the slots vs -/
def But (vs : List Nat) (σ σ' : L2.St) : Prop := σ'.length = σ.length ∧ ∀ j, j ∉ vs → σ'[j]? = σ[j]?
theorem But.trans {vs us : List Nat} {σ σ1 σ2 : L2.St} (a : But vs σ σ1) (b : But us σ1 σ2) : But (vs ++ us) σ σ2 :=
  ⟨b.1.trans a.1, fun j h => by
    rw [List.mem_append, not_or] at h
    exact (b.2 j h.2).trans (a.2 j h.1)⟩
def tG (C : CT) (ft : FG) (vs : List Nat) : TG := fun v σ H Q => ∃ F s d s', StR C F H s σ ∧ Rep C.G F d v ∧ ft d s = some s' ∧ ∀ σ', StR C F H s' σ' → Lk s σ s' σ' → But vs σ σ' → Q σ' H
def seqG : List FG → List D → SS → Option SS
  | [], [], s => some s
  | g :: gs, d :: ds, s => (g d s).bind (seqG gs ds)
  | _, _, _ => none
def tGs (C : CT) (gs : List FG) (vs : List Nat) : TGs := fun us σ H Q => ∃ F s ds s', StR C F H s σ ∧ RepL C.G F ds us ∧ seqG gs ds s = some s' ∧ ∀ σ', StR C F H s' σ' → Lk s σ s' σ' → But vs σ σ' → Q σ' H
def gN (i : Nat) : FG := fun d s => setS s i (.sh d)
def gT (gs : List FG) : FG := fun d s => match d with
  | .tup ds => seqG gs ds s
  | _ => none
theorem pg_imp {X : Cx} {e : Expr} {t t' : TG} (h : PG X e t) (i : ∀ v σ H Q, t' v σ H Q → t v σ H Q) : PG X e t' := ⟨fun pins s σ H v u Q I r q => h.run pins s σ H v u Q I r (i v σ H Q q)⟩
theorem pgs_imp {X : Cx} {e : List Expr} {t t' : TGs} (h : PGs X e t) (i : ∀ v σ H Q, t' v σ H Q → t v σ H Q) : PGs X e t' := ⟨fun pins s σ H v u Q I r q => h.run pins s σ H v u Q I r (i v σ H Q q)⟩
section
variable {X : Cx} {C : CT} {W : WX} {e tg : Expr} {es : List Expr} {fe : SS → R D} {pos : Pos} {g : FG} {gs : List FG}
theorem g_n (i : Nat) {x : Str} (hN : X.N.Nodup) (hi : X.N[i]? = some x := by rfl) (hx : Loc X.env.scope x := by first | exact Or.inl rfl | exact Or.inr rfl) (hf : X.fn x = true ∨ X.env.scope.names.lookup x = some .local := by first | exact .inl rfl | exact .inr rfl) : PG X (.Name x pos) (tG C (gN i) [i]) :=
  pg_imp (pg_name hN hi hx hf) fun v σ H Q ⟨F, s, d, s', S, r, h, q⟩ => q _ (S.setSh h r) (lk_set h) ⟨List.length_set, fun j hj => List.getElem?_set_ne (fun z => hj (by simp [z]))⟩
theorem g_nil : PGs X [] (tGs C [] []) := pgs_imp pgs_nil fun v σ H Q ⟨F, s, ds, s', S, r, h, q⟩ => by
  cases ds with
  | nil =>
    unfold RepL at r
    cases h
    exact ⟨r, q σ S Lk.refl ⟨rfl, fun _ _ => rfl⟩⟩
  | cons d ds => cases h
theorem g_cons {vs us : List Nat} (h1 : PG X e (tG C g vs)) (h2 : PGs X es (tGs C gs us)) (hs : (assignEach (e :: es) X.env).map (·.2) = assign e X.env :: (assignEach es X.env).map (·.2) := by rfl) : PGs X (e :: es) (tGs C (g :: gs) (vs ++ us)) :=
  pgs_imp (pgs_cons h1 h2 hs) fun v σ H Q ⟨F, s, ds, s', S, r, h, q⟩ => by
    cases ds with
    | nil => cases h
    | cons d ds =>
      unfold RepL at r
      obtain ⟨u, t, rfl, r1, r2⟩ := r
      refine ⟨u, t, rfl, ?_⟩
      have h : (g d s).bind (seqG gs ds) = some s' := h
      cases k : g d s with
      | none => rw [k] at h; cases h
      | some s1 =>
        rw [k] at h
        exact ⟨F, s, d, s1, S, r1, k, fun σ1 S1 l1 b1 => ⟨F, s1, ds, s', S1, r2, h, fun σ2 S2 l2 b2 => q σ2 S2 (l1.trans l2) (b1.trans b2)⟩⟩
theorem seqG_len : ∀ {gs : List FG} {ds : List D} {s s' : SS}, seqG gs ds s = some s' → ds.length = gs.length
  | [], [], _, _, _ => rfl
  | [], _ :: _, _, _, h => by cases h
  | _ :: _, [], _, _, h => by cases h
  | g :: gs, d :: ds, s, s', h => by
    have h : (g d s).bind (seqG gs ds) = some s' := h
    cases k : g d s with
    | none => rw [k] at h; cases h
    | some s1 =>
      rw [k] at h
      have := seqG_len (gs := gs) (ds := ds) h
      simp [this]
theorem g_t {k : Nat} {vs : List Nat} (v : Pl X C W) (h : PGs X es (tGs C gs vs)) (hl : gs.length = es.length := by rfl) (hn : (assignEach es X.env).length = es.length := by rfl) (hst : (assignEach es X.env).findIdx? (·.1) = none := by rfl) : PG X (.Tuple es k pos) (tG C (gT gs) vs) :=
  pg_imp (pg_tup v.calm h hn hst) fun u σ H Q ⟨F, s, d, s', S, r, hh, q⟩ => by
    unfold gT at hh
    cases d with
    | tup ds =>
      obtain ⟨a, xs, rfl, sq, rr⟩ := rep_tup.mp r
      rw [← v.K] at sq
      refine ⟨a, xs, rfl, Same.seqT S.fh sq, ?_, F, s, ds, s', S, rr, hh, q⟩
      rw [rr.length, seqG_len hh, hl]
    | _ => cases hh
/-- targets = e -/
def sAsg (ft : FG) (fe : SS → R D) : SS → RS := sE fe fun d s => optS (ft d s)
theorem s_asg {vs : List Nat} (he : PE X e (tD C W fe)) (hg : PG X tg (tG C g vs)) (hs : swapsWithSole [tg] e pos.line X.env = pure false := by rfl) (hw : swappedStores [tg] e X.env = pure none := by rfl)
    (h1 : (assignEach [tg] X.env).map (·.2) = [assign tg X.env] := by rfl) : PS X (.Assign [tg] e pos) (tS C W (sAsg g fe)) := by
  refine ps_imp (ps_asg he hg hs hw h1) fun D σ H ⟨F, sd, S, h⟩ => ?_
  refine ⟨F, sd, S, postS_E S h fun d v F1 H1 e1 r h1 => ?_⟩
  cases q : g d sd with
  | none => rw [q] at h1; exact h1.elim
  | some s' =>
    rw [q] at h1
    exact ⟨F1, sd, d, s', S.mono e1, r, q, fun σ' S' l' _ => h1 F1 H1 σ' S' e1.ff l'⟩
end

/-! ### what is walked -/
structure ItOk (G : GE) (F : Hp) (J : It) (ds : List D) : Prop where
  go : ∀ (i : Nat) (F' H' : Hp), Same F F' → Same F' H' → i < ds.length → J.go i H'
  yld : ∀ (i : Nat) (F' H' : Hp) (x : V) (H'' : Hp), Same F F' → Same F' H' → i < ds.length → J.yld i H' x H'' → ∃ F'' d, Ext F' H' F'' H'' ∧ ds[i]? = some d ∧ Rep G F'' d x
  stop : ∀ (i : Nat) (F' H' : Hp), Same F F' → Same F' H' → ds.length ≤ i → J.stop i H'
def PostI (C : CT) (W : WX) (F H : Hp) (σ : L2.St) (Q : It → Hp → Prop) : R (List D) → Prop
  | .ok ds => ∀ J F' H', Ext F H F' H' → ItOk C.G F' J ds → Q J H'
  | .ex c vs => ∀ cls dx F' H', Ext F H F' H' → XR C.G F' c vs cls dx → W cls dx σ H'
  | .bad => False
def tI (C : CT) (W : WX) (f : SS → R (List D)) : TI := fun σ H Q => ∃ F sd, StR C F H sd σ ∧ PostI C W F H σ Q (f sd)
theorem pi_imp {X : Cx} {tg e : Expr} {t t' : TI} (h : PI X tg e t) (i : ∀ σ H Q, t' σ H Q → t σ H Q) : PI X tg e t' := ⟨fun pins s σ H Q I q => h.run pins s σ H Q I (i σ H Q q)⟩
/-- a key as data -/
def keyDd : Key → D
  | .inl i => .int i
  | .inr x => .str x.cps.toList
def keyOk : Key → Bool
  | .inl _ => true
  | .inr x => okS x.cps.toList
theorem keyDd_rep {G : GE} {F : Hp} {k : Key} (h : keyOk k = true) : Rep G F (keyDd k) (kV k) := by
  cases k with
  | inl i => exact rep_int.mpr rfl
  | inr x => exact rep_str.mpr ⟨rfl, h⟩
/-- the items of a list, a tuple, a text, the keys of a dict -/
def itD : D → R (List D)
  | .lst ds => .ok ds
  | .tup ds => .ok ds
  | .str x => .ok (x.map fun c => .str [c])
  | .dic ks _ => if ks.all keyOk = true then .ok (ks.map keyDd) else .bad
  | _ => .bad
def iE (fe : SS → R D) : SS → R (List D) := fun s => (fe s).bind itD
section
variable {X : Cx} {C : CT} {W : WX} {a b c e tg : Expr} {es : List Expr} {fe fa fb fc : SS → R D} {pos p : Pos} {fi : SS → R (List D)}
theorem PostI.ext {F H F1 H1 : Hp} {σ : L2.St} {Q : It → Hp → Prop} {r : R (List D)} (e : Ext F H F1 H1) (h : PostI C W F H σ Q r) : PostI C W F1 H1 σ Q r := by
  cases r with
  | ok d => exact fun J F' H' e' p => h J F' H' (e.trans e') p
  | ex c vs => exact fun cls dx F' H' e' x => h cls dx F' H' (e.trans e') x
  | bad => exact h
theorem PostI.bind {F H : Hp} {σ : L2.St} {P : Hp → Hp → D → V → Prop} {Q : It → Hp → Prop} {Q1 : VK} {x : R D} {k : D → R (List D)} (h : PostI C W F H σ Q (x.bind k))
    (hk : ∀ d v F1 H1, Ext F H F1 H1 → P F1 H1 d v → PostI C W F1 H1 σ Q (k d) → Q1 v H1) : PostE C W F H σ P Q1 x := by
  cases x with
  | ok d => exact fun v F' H' e r => hk d v F' H' e r (PostI.ext e h)
  | ex c vs => exact h
  | bad => exact h
theorem it_list {G : GE} {K : PySem.W.Frag} (hK : K = G.K) {F : Hp} {l : Addr} {vs : List V} {ds : List D} (q : SqL G.K F l vs) (r : RepL G F ds vs) : ItOk G F (Itl K l) ds where
  go := fun i F' H' f h hi => by
    subst hK
    have hv : i < vs.length := by rw [r.length]; exact hi
    exact ⟨vs, vs[i], h.seq (f.seq q), by simp [hv]⟩
  yld := fun i F' H' x H'' f h hi y => by
    subst hK
    obtain ⟨rfl, y⟩ := y
    obtain ⟨d, e, rr⟩ := r.get' (y vs (h.seq (f.seq q)))
    exact ⟨F', d, Ext.refl h, e, Rep.mono f rr⟩
  stop := fun i F' H' f h hi => by
    subst hK
    exact ⟨vs, h.seq (f.seq q), by rw [r.length]; exact hi⟩
theorem it_tup {G : GE} {K : PySem.W.Frag} (hK : K = G.K) {F : Hp} {l : Addr} {vs : List V} {ds : List D} (q : SqT G.K F l vs) (r : RepL G F ds vs) : ItOk G F (Itt K l) ds where
  go := fun i F' H' f h hi => by
    subst hK
    have hv : i < vs.length := by rw [r.length]; exact hi
    exact ⟨vs, vs[i], Same.seqT h (Same.seqT f q), by simp [hv]⟩
  yld := fun i F' H' x H'' f h hi y => by
    subst hK
    obtain ⟨rfl, y⟩ := y
    obtain ⟨d, e, rr⟩ := r.get' (y vs (Same.seqT h (Same.seqT f q)))
    exact ⟨F', d, Ext.refl h, e, Rep.mono f rr⟩
  stop := fun i F' H' f h hi => by
    subst hK
    exact ⟨vs, Same.seqT h (Same.seqT f q), by rw [r.length]; exact hi⟩
theorem it_str {G : GE} {F : Hp} {x : List Nat} (k : okS x = true) : ItOk G F (Its ⟨x.toArray⟩) (x.map fun c => .str [c]) where
  go := fun i F' H' f h hi => by
    show i < Array.size _
    rw [List.size_toArray]
    simpa using hi
  yld := fun i F' H' v H'' f h hi y => by
    obtain ⟨rfl, c, e, rfl⟩ := y
    have e : x[i]? = some c := by simpa using e
    exact ⟨F', .str [c], Ext.refl h, by rw [List.getElem?_map, e]; rfl, rep_str.mpr ⟨rfl, okS_mem k (List.mem_of_getElem? e)⟩⟩
  stop := fun i F' H' f h hi => by
    show Array.size _ ≤ i
    rw [List.size_toArray]
    simpa using hi
theorem it_keys {G : GE} {F : Hp} {l : Addr} {o : Obj} {kvs : List (Key × V)} (q : F l = some (.frz o (.dK kvs))) (hk : (kvs.map (·.1)).all keyOk = true) : ItOk G F (Itk l o kvs) ((kvs.map (·.1)).map keyDd) where
  go := fun i F' H' f h hi => ⟨h _ _ (f _ _ q), by simpa using hi⟩
  yld := fun i F' H' x H'' f h hi y => by
    obtain ⟨rfl, k, v, e, rfl⟩ := y
    have e1 : (kvs.map (·.1))[i]? = some k := by rw [List.getElem?_map, e]; rfl
    exact ⟨F', keyDd k, Ext.refl h, by rw [List.getElem?_map, e1]; rfl, keyDd_rep (List.all_eq_true.mp hk k (List.mem_of_getElem? e1))⟩
  stop := fun i F' H' f h hi => ⟨h _ _ (f _ _ q), by simpa using hi⟩
theorem s_iter (v : Pq X C W) (he : PE X e (tD C W fe)) : PI X tg e (tI C W (iE fe)) := by
  refine ⟨fun pins s σ H Q I ⟨F, sd, S, h⟩ => ?_⟩
  refine thn (he.run pins s σ H (fun x H1 => ∃ F1 d, Same F1 H1 ∧ Rep C.G F1 d x ∧ PostI C W F1 H1 σ Q (itD d)) I ⟨F, sd, S, PostI.bind h fun d v F1 H1 e1 r h1 => ⟨F1, d, e1.fh, r, h1⟩⟩) fun u s1 ⟨x, H1, I1, r1, F1, d, f1, rp, h1⟩ => ?_
  have one : ∀ {Q' : VK}, Q' x H1 → (tC x) σ H1 Q' := fun q => q
  cases d with
  | lst ds =>
    have h1 : PostI C W F1 H1 σ Q (.ok ds) := h1
    obtain ⟨a, xs, rfl, q, rr⟩ := rep_lst.mp rp
    cases r1
    have q' := f1.seq q
    rw [← v.K] at q'
    obtain ⟨its, rv, pl, hz⟩ := I1.list q'
    refine wpAny_pyIter_list pl.isList ?_
    refine ⟨s1.heap.objs.size, [s1.heap.objs.size], _, _, H1, rfl, I1.kept (t' := s1.toks) fun b o e => Heap.get?_push_of_some _ e, turn_list a _, ⟨_, Heap.get?_push_size _ rfl, rfl, rfl⟩, fun b hb => ?_, ?_⟩
    · have e : b = s1.heap.objs.size := by simpa using hb
      subst e
      exact I1.fpOk (Nat.le_refl _) (I1.hok.fresh (Nat.le_refl _))
    · exact h1 _ F1 H1 (Ext.refl f1) (it_list v.K q rr)
  | tup ds =>
    have h1 : PostI C W F1 H1 σ Q (.ok ds) := h1
    obtain ⟨a, xs, rfl, q, rr⟩ := rep_tup.mp rp
    cases r1
    have q' := Same.seqT f1 q
    rw [← v.K] at q'
    obtain ⟨its, rv, pl, hz⟩ := I1.tuple q'
    refine wpAny_pyIter_tuple (show s1.heap.IsTuple a its.toArray from pl) ?_
    refine ⟨s1.heap.objs.size, [s1.heap.objs.size], _, _, H1, rfl, I1.kept (t' := s1.toks) fun b o e => Heap.get?_push_of_some _ e, turn_tuple a _, ⟨_, Heap.get?_push_size _ rfl, rfl, rfl⟩, fun b hb => ?_, ?_⟩
    · have e : b = s1.heap.objs.size := by simpa using hb
      subst e
      exact I1.fpOk (Nat.le_refl _) (I1.hok.fresh (Nat.le_refl _))
    · exact h1 _ F1 H1 (Ext.refl f1) (it_tup v.K q rr)
  | str z =>
    have h1 : PostI C W F1 H1 σ Q (.ok (z.map fun c => .str [c])) := h1
    obtain ⟨rfl, k⟩ := rep_str.mp rp
    obtain ⟨t, rfl⟩ := r1
    have q := h1 (Its ⟨z.toArray⟩) F1 H1 (Ext.refl f1) (it_str k)
    cases ha : (⟨z.toArray⟩ : Str).cps.all (· < 128)
    · exact wpAny_pyIter_wide ha (pi_one (tk := s1.toks) I1 _ (turn_str _ _ t "str_iterator" (.inr rfl)) ⟨_, Heap.get?_push_size _ rfl, rfl, rfl⟩ q)
    · exact wpAny_pyIter_ascii ha (pi_one (tk := s1.toks) I1 _ (turn_str _ _ t "str_ascii_iterator" (.inl rfl)) ⟨_, Heap.get?_push_size _ rfl, rfl, rfl⟩ q)
  | dic ks vs =>
    have h1 : PostI C W F1 H1 σ Q (if ks.all keyOk = true then .ok (ks.map keyDd) else .bad) := h1
    obtain ⟨d, kvs, rfl, ⟨o, hF⟩, rfl, nd, rr⟩ := rep_dic.mp rp
    obtain rfl : u = Value.ref d := r1
    split at h1
    · rename_i hk
      obtain ⟨hs, hgd, hx, es, ep, vs', hdt, hsz, kv, hm⟩ := I1.frzK (f1 _ _ hF)
      refine iter_keys hs hgd hx hdt (pi_one (tk := s1.toks) I1 _ (turn_keys _ hdt) ⟨_, Heap.get?_push_size _ rfl, rfl, ?_⟩ (h1 _ F1 H1 (Ext.refl f1) (it_keys hF hk)))
      rw [hsz] <;> rfl
    · exact h1.elim
  | _ => exact h1.elim

/-- range -/
def rangeD (i j : Int) : List D := (List.range (j - i).toNat).map fun k => .int (i + (k : Nat))
def downD (i j : Int) : List D := (List.range (i - j).toNat).map fun k => .int (i - (k : Nat))
def fit62 (i : Int) : Prop := -4611686018427387904 ≤ i ∧ i < 4611686018427387904
instance (i : Int) : Decidable (fit62 i) := Classical.propDecidable _
def rng1 : List D → R (List D)
  | [.int j] => if fit62 j then .ok (rangeD 0 j) else .bad
  | _ => .bad
def rng2 : List D → R (List D)
  | [.int i, .int j] => if fit62 i ∧ fit62 j then .ok (rangeD i j) else .bad
  | _ => .bad
def rng3 : List D → R (List D)
  | [.int i, .int j, .int c] => if fit62 i ∧ fit62 j ∧ c = -1 then .ok (downD i j) else .bad
  | _ => .bad
def iRg1 (fs : SS → R (List D)) : SS → R (List D) := fun s => (fs s).bind rng1
def iRg2 (fs : SS → R (List D)) : SS → R (List D) := fun s => (fs s).bind rng2
def iRg3 (fs : SS → R (List D)) : SS → R (List D) := fun s => (fs s).bind rng3
theorem it_range {G : GE} {F : Hp} {i : Int} {n : Nat} : ItOk G F (Itr i n) ((List.range n).map fun k => .int (i + (k : Nat))) where
  go := fun k F' H' f h hi => by
    have hi : k < n := by simpa using hi
    exact hi
  yld := fun k F' H' v H'' f h hi y => by
    obtain ⟨rfl, rfl⟩ := y
    have hi : k < n := by simpa using hi
    exact ⟨F', .int (i + (k : Nat)), Ext.refl h, by rw [List.getElem?_map, List.getElem?_range hi]; rfl, rep_int.mpr rfl⟩
  stop := fun k F' H' f h hi => by
    have hi : n ≤ k := by simpa using hi
    exact hi
theorem it_rangeC {G : GE} {F : Hp} {i : Int} {n : Nat} : ItOk G F (Itc i (-1) n) ((List.range n).map fun k => .int (i - (k : Nat))) where
  go := fun k F' H' f h hi => by
    have hi : k < n := by simpa using hi
    exact hi
  yld := fun k F' H' v H'' f h hi y => by
    obtain ⟨rfl, rfl⟩ := y
    have hi : k < n := by simpa using hi
    exact ⟨F', .int (i - (k : Nat)), Ext.refl h, by rw [List.getElem?_map, List.getElem?_range hi]; rfl, rep_int.mpr (by congr 1; omega)⟩
  stop := fun k F' H' f h hi => by
    have hi : n ≤ k := by simpa using hi
    exact hi
theorem PostI.bindA {F H : Hp} {σ : L2.St} {Q : It → Hp → Prop} {Q1 : List V → Hp → Prop} {P1 : Hp → Hp → D → V → Prop} {x : R (List D)} {k : List D → R (List D)} (h : PostI C W F H σ Q (x.bind k))
    (hk : ∀ ds vs F1 H1, Ext F H F1 H1 → Paired (P1 F1 H1) ds vs → PostI C W F1 H1 σ Q (k ds) → Q1 vs H1) : PostA C W F H σ P1 Q1 x := by
  cases x with
  | ok d => exact fun vs F' H' e r => hk d vs F' H' e r (PostI.ext e h)
  | ex c vs => exact h
  | bad => exact h

variable {fs : SS → R (List D)}
theorem s_range1 (v : Pq X C W) (hg : Gl X "range") (hm : X.mg "range" = none) (ha : PA X [a] (tAB C W fs)) (hs : starEach [a] X.env = [(false, eval a X.env)] := by rfl) : PI X tg (.Call (.Name "range" p) [a] [] pos) (tI C W (iRg1 fs)) := by
  refine pi_imp (pi_range1 hg hm ha hs) fun σ H Q ⟨F, sd, S, h⟩ => ?_
  refine ⟨F, sd, S, PostI.bindA (P1 := pB C) h fun ds vs F1 H1 e1 r h1 => ?_⟩
  unfold rng1 at h1
  split at h1
  · split at h1
    · rename_i j hz
      obtain ⟨u, rfl, b⟩ := pair1 r
      have hz : -4611686018427387904 ≤ j ∧ j < 4611686018427387904 := hz
      refine ⟨j, by rw [bor_int b], by omega, by omega, ?_⟩
      have e := h1 (Itr 0 (j - 0).toNat) F1 H1 (Ext.refl e1.fh) it_range
      rw [Int.sub_zero] at e
      exact e
    · exact h1.elim
  · exact h1.elim
theorem s_range2 (v : Pq X C W) (hg : Gl X "range") (hm : X.mg "range" = none) (ha : PA X [a, b] (tAB C W fs)) (hs : starEach [a, b] X.env = [(false, eval a X.env), (false, eval b X.env)] := by rfl) (hs2 : starEach [b] X.env = [(false, eval b X.env)] := by rfl) : PI X tg (.Call (.Name "range" p) [a, b] [] pos) (tI C W (iRg2 fs)) := by
  refine pi_imp (pi_range2 hg hm ha hs hs2) fun σ H Q ⟨F, sd, S, h⟩ => ?_
  refine ⟨F, sd, S, PostI.bindA (P1 := pB C) h fun ds vs F1 H1 e1 r h1 => ?_⟩
  unfold rng2 at h1
  split at h1
  · split at h1
    · rename_i i j hz
      obtain ⟨u, w, rfl, b1, b2⟩ := pair2 r
      have hz : (-4611686018427387904 ≤ i ∧ i < 4611686018427387904) ∧ (-4611686018427387904 ≤ j ∧ j < 4611686018427387904) := hz
      refine ⟨i, j, by rw [bor_int b1, bor_int b2], by omega, ?_⟩
      exact h1 (Itr i (j - i).toNat) F1 H1 (Ext.refl e1.fh) it_range
    · exact h1.elim
  · exact h1.elim
theorem s_range3 (v : Pq X C W) (hg : Gl X "range") (hm : X.mg "range" = none) (ha : PA X [a, b, c] (tAB C W fs)) (hs : starEach [a, b, c] X.env = (false, eval a X.env) :: starEach [b, c] X.env := by rfl) (hpl : (backTo pos (starEach [b, c] X.env)).any (·.1) = false := by rfl) : PI X tg (.Call (.Name "range" p) [a, b, c] [] pos) (tI C W (iRg3 fs)) := by
  refine pi_imp (pi_range3 hg hm ha hs hpl) fun σ H Q ⟨F, sd, S, h⟩ => ?_
  refine ⟨F, sd, S, PostI.bindA (P1 := pB C) h fun ds vs F1 H1 e1 r h1 => ?_⟩
  unfold rng3 at h1
  split at h1
  · split at h1
    · rename_i i j c hz
      have r3 : ∃ u w x, vs = [u, w, x] ∧ Bor C.G F1 H1 (.int i) u ∧ Bor C.G F1 H1 (.int j) w ∧ Bor C.G F1 H1 (.int c) x := by
        cases r with
        | cons r t =>
          obtain ⟨u, w, rfl, b1, b2⟩ := pair2 t
          exact ⟨_, _, _, rfl, r, b1, b2⟩
      obtain ⟨u, w, x, rfl, b1, b2, b3⟩ := r3
      have hz : (-4611686018427387904 ≤ i ∧ i < 4611686018427387904) ∧ (-4611686018427387904 ≤ j ∧ j < 4611686018427387904) ∧ c = -1 := hz
      obtain ⟨z1, z2, rfl⟩ := hz
      refine ⟨i, j, -1, (i - j).toNat, by rw [bor_int b1, bor_int b2, bor_int b3], RgC.neg (by omega) (by omega) (by omega) (by omega), ?_⟩
      exact h1 (Itc i (-1) (i - j).toNat) F1 H1 (Ext.refl e1.fh) it_rangeC
    · exact h1.elim
  · exact h1.elim
end

/-! ### for -/
/-- a loop over items -/
def forL (step : D → SS → RS) : List D → SS → RS
  | [], s => .nx s
  | d :: ds, s => match step d s with
    | .nx s' => forL step ds s'
    | .ct s' => forL step ds s'
    | .bk s' => .nx s'
    | .rt b d => .rt b d
    | .ex c vs s' => .ex c vs s'
    | .bad => .bad
def turn (ft : FG) (f : SS → RS) : D → SS → RS := fun d s => match ft d s with
  | some s' => f s'
  | none => .bad
def sFor (fi : SS → R (List D)) (ft : FG) (f : SS → RS) : SS → RS := fun s => match fi s with
  | .ok ds => forL (turn ft f) ds s
  | .ex c vs => .ex c vs s
  | .bad => .bad
section
variable {X : Cx} {C : CT} {W : WX} {e tg iter : Expr} {fi : SS → R (List D)} {pos : Pos} {ft : FG} {vs : List Nat} {f : SS → RS} {body : List Stmt}
theorem for_run {En : Ends} {J : It} {F1 H1 : Hp} {sd : SS} {σ : L2.St} {ds : List D} (S : StR C F1 H1 sd σ) (ok : ItOk C.G F1 J ds) (h : PostS C W F1 sd σ En (forL (turn ft f) ds sd)) :
    ∃ Wv : Nat → Nat → L2.St → Hp → Prop, (∃ m, Wv 0 m σ H1) ∧ ∀ i m σ H, Wv i m σ H →
      (J.stop i H ∧ En.nx σ H) ∨ (J.go i H ∧ ∃ N : L2.St → Hp → Prop, (∀ σ' H', N σ' H' → ∃ m', m' < m ∧ Wv (i + 1) m' σ' H') ∧ ∀ x H', J.yld i H x H' → tG C ft vs x σ H' fun σ2 H2 => tS C W f { En with nx := N, ct := N, bk := En.nx } σ2 H2) := by
  refine ⟨fun i m σ' H' => m = ds.length - i ∧ i ≤ ds.length ∧ ∃ F' s', StR C F' H' s' σ' ∧ Same F1 F' ∧ Lk sd σ s' σ' ∧ PostS C W F' s' σ' En (forL (turn ft f) (ds.drop i) s'),
    ⟨ds.length, by omega, Nat.zero_le _, F1, sd, S, Same.refl F1, Lk.refl, h⟩, ?_⟩
  rintro i m σ' H' ⟨rfl, hi, F', s', S', f1, l1, h1⟩
  by_cases hlt : i < ds.length
  · refine .inr ⟨ok.go i F' H' f1 S'.fh hlt, fun σ2 H2 => ∃ F2 s2, StR C F2 H2 s2 σ2 ∧ Same F1 F2 ∧ Lk sd σ s2 σ2 ∧ PostS C W F2 s2 σ2 En (forL (turn ft f) (ds.drop (i + 1)) s2), fun σ2 H2 n2 => ⟨ds.length - (i + 1), by omega, rfl, hlt, n2⟩, fun x H'' y => ?_⟩
    obtain ⟨F'', d, e2, hd, r⟩ := ok.yld i F' H' x H'' f1 S'.fh hlt y
    have hdr : ds.drop i = d :: ds.drop (i + 1) := by
      obtain ⟨hi', e⟩ := List.getElem?_eq_some_iff.mp hd
      rw [List.drop_eq_getElem_cons hi', e]
    rw [hdr] at h1
    unfold forL turn at h1
    cases q : ft d s' with
    | none => rw [q] at h1; exact h1.elim
    | some s2 =>
      rw [q] at h1
      refine ⟨F'', s', d, s2, S'.mono e2, r, q, fun σ2 S2 l2 _ => ⟨F'', s2, S2, ?_⟩⟩
      have h1 : PostS C W F' s' σ' En (match f s2 with
        | .nx s' => forL (turn ft f) (ds.drop (i + 1)) s'
        | .ct s' => forL (turn ft f) (ds.drop (i + 1)) s'
        | .bk s' => .nx s'
        | .rt b d => .rt b d
        | .ex c vs s' => .ex c vs s'
        | .bad => .bad) := h1
      cases k : f s2 with
      | nx s3 =>
        rw [k] at h1
        exact fun F3 H3 σ3 S3 f3 l3 => ⟨F3, s3, S3, f1.trans (e2.ff.trans f3), l1.trans (l2.trans l3), PostS.mono (e2.ff.trans f3) (l2.trans l3) h1⟩
      | ct s3 =>
        rw [k] at h1
        exact fun F3 H3 σ3 S3 f3 l3 => ⟨F3, s3, S3, f1.trans (e2.ff.trans f3), l1.trans (l2.trans l3), PostS.mono (e2.ff.trans f3) (l2.trans l3) h1⟩
      | bk s3 =>
        rw [k] at h1
        exact fun F3 H3 σ3 S3 f3 l3 => h1 F3 H3 σ3 S3 (e2.ff.trans f3) (l2.trans l3)
      | rt b d =>
        rw [k] at h1
        cases b with
        | false => exact fun v F3 H3 e3 f3 r3 => h1 v F3 H3 e3 (e2.ff.trans f3) r3
        | true => exact fun v F3 H3 e3 f3 r3 => h1 v F3 H3 e3 (e2.ff.trans f3) r3
      | ex c vs s3 =>
        rw [k] at h1
        exact fun cls dx F3 H3 σ3 S3 f3 l3 r3 => h1 cls dx F3 H3 σ3 S3 (e2.ff.trans f3) (l2.trans l3) r3
      | bad => rw [k] at h1; exact h1.elim
  · have e : i = ds.length := by omega
    subst e
    rw [List.drop_length] at h1
    exact .inl ⟨ok.stop _ F' H' f1 S'.fh (Nat.le_refl _), h1 F' H' σ' S' (Same.refl _) Lk.refl⟩
theorem s_for (v : Pl X C W) (hi : PI X tg iter (tI C W fi)) (hg : PG X tg (tG C ft vs)) (hb : PSs X body (tS C W f)) (hs : ∀ x, foldedSetIterable iter X.env x = pure x := by intro _; rfl) : PS X (.For tg iter body [] pos) (tS C W (sFor fi ft f)) := by
  refine ps_imp (ps_for v.pass v.calm hi hg hb hs) fun En σ H ⟨F, sd, S, h⟩ => ?_
  refine ⟨F, sd, S, ?_⟩
  unfold sFor at h
  cases q : fi sd with
  | ok ds =>
    rw [q] at h
    exact fun J F1 H1 e1 ok => for_run (S.mono e1) ok (PostS.mono e1.ff Lk.refl h)
  | ex c vs =>
    rw [q] at h
    exact fun cls dx F' H' e x => h cls dx F' H' σ (S.mono e) e.ff Lk.refl x
  | bad => rw [q] at h; exact h

/-! ### while -/
def whL (fc : SS → R D) (f : SS → RS) : Nat → SS → RS
  | 0, _ => .bad
  | n + 1, s => match fc s with
    | .ok (.bl true) => (match f s with
      | .nx s' => whL fc f n s'
      | .ct s' => whL fc f n s'
      | .bk s' => .nx s'
      | .rt b d => .rt b d
      | .ex c vs s' => .ex c vs s'
      | .bad => .bad)
    | .ok (.bl false) => .nx s
    | .ex c vs => .ex c vs s
    | _ => .bad
def sWh (n : Nat) (fc : SS → R D) (f : SS → RS) : SS → RS := whL fc f n
theorem s_wh (v : Pq X C W) (n : Nat) {fc : SS → R D} (hc : PT X e (tT C W fc)) (hb : PSs X body (tS C W f)) : PS X (.While e body [] pos) (tS C W (sWh n fc f)) := by
  refine ps_imp (ps_while v.pass hc hb) fun En σ H ⟨F, sd, S, h⟩ => ?_
  refine ⟨fun m σ' H' => ∃ F' s', StR C F' H' s' σ' ∧ Same F F' ∧ Lk sd σ s' σ' ∧ PostS C W F' s' σ' En (whL fc f m s'), ⟨n, F, sd, S, Same.refl F, Lk.refl, h⟩, ?_⟩
  rintro m σ1 H1 ⟨F1, s1, S1, f1, l1, h1⟩
  cases m with
  | zero => exact h1.elim
  | succ m =>
    refine ⟨F1, s1, S1, ?_⟩
    unfold whL at h1
    cases q : fc s1 with
    | ok d =>
      rw [q] at h1
      cases d with
      | bl b =>
        intro F2 H2 e2
        cases b with
        | true =>
          rw [if_pos rfl]
          refine ⟨fun σ3 H3 => ∃ F3 s3, StR C F3 H3 s3 σ3 ∧ Same F F3 ∧ Lk sd σ s3 σ3 ∧ PostS C W F3 s3 σ3 En (whL fc f m s3), fun σ3 H3 n3 => ⟨m, Nat.lt_succ_self m, n3⟩, F2, s1, S1.mono e2, ?_⟩
          have h1 : PostS C W F1 s1 σ1 En (match f s1 with
            | .nx s' => whL fc f m s'
            | .ct s' => whL fc f m s'
            | .bk s' => .nx s'
            | .rt b d => .rt b d
            | .ex c vs s' => .ex c vs s'
            | .bad => .bad) := h1
          cases k : f s1 with
          | nx s3 =>
            rw [k] at h1
            exact fun F3 H3 σ3 S3 f3 l3 => ⟨F3, s3, S3, f1.trans (e2.ff.trans f3), l1.trans l3, PostS.mono (e2.ff.trans f3) l3 h1⟩
          | ct s3 =>
            rw [k] at h1
            exact fun F3 H3 σ3 S3 f3 l3 => ⟨F3, s3, S3, f1.trans (e2.ff.trans f3), l1.trans l3, PostS.mono (e2.ff.trans f3) l3 h1⟩
          | bk s3 =>
            rw [k] at h1
            exact fun F3 H3 σ3 S3 f3 l3 => h1 F3 H3 σ3 S3 (e2.ff.trans f3) l3
          | rt b d =>
            rw [k] at h1
            cases b with
            | false => exact fun v F3 H3 e3 f3 r3 => h1 v F3 H3 e3 (e2.ff.trans f3) r3
            | true => exact fun v F3 H3 e3 f3 r3 => h1 v F3 H3 e3 (e2.ff.trans f3) r3
          | ex c vs s3 =>
            rw [k] at h1
            exact fun cls dx F3 H3 σ3 S3 f3 l3 r3 => h1 cls dx F3 H3 σ3 S3 (e2.ff.trans f3) l3 r3
          | bad => rw [k] at h1; exact h1.elim
        | false =>
          rw [if_neg Bool.false_ne_true]
          exact h1 F2 H2 σ1 (S1.mono e2) e2.ff Lk.refl
      | _ => exact h1.elim
    | ex c vs =>
      rw [q] at h1
      exact fun cls dx F' H' e x => h1 cls dx F' H' σ1 (S1.mono e) e.ff Lk.refl x
    | bad => rw [q] at h1; exact h1.elim
end
end
end Z
namespace Z
noncomputable section
open PySem PySem.Spec PySem.P PyProof.Rows L2

/-! ### comprehensions -/
abbrev WNo : WX := fun _ _ _ _ => False
theorem Pl.blk {X : Cx} {C : CT} {W : WX} (v : Pl X C W) (s : Shared) (H : Hp) (scope : Scope) (cenv : PySem.Env) (fp : List Addr) : Pl (X.blk s H scope cenv fp) C WNo :=
  ⟨⟨v.K, v.hu, takes0, PassesOwn.never⟩, v.calm⟩
/-- the items kept -/
def mapD (step : D → R (Option D)) : List D → R (List D)
  | [] => .ok []
  | d :: ds => match step d with
    | .ok (some x) => (match mapD step ds with
      | .ok xs => .ok (x :: xs)
      | _ => .bad)
    | .ok none => mapD step ds
    | _ => .bad
def wipeS (s : SS) : List Nat → SS
  | [] => s
  | v :: vs => (wipeS s vs).set v .no
def cStep (ft : FG) (vs : List Nat) (fc fe : SS → R D) (s : SS) (d : D) : R (Option D) := match ft d (wipeS s vs) with
  | some s' => (match fc s' with
    | .ok (.bl true) => (match fe s' with
      | .ok x => .ok (some x)
      | _ => .bad)
    | .ok (.bl false) => .ok none
    | _ => .bad)
  | none => .bad
def eComp (fi : SS → R (List D)) (ft : FG) (vs : List Nat) (fc fe : SS → R D) : SS → R D := fun s => (fi s).bind fun ds => match mapD (cStep ft vs fc fe s) ds with
  | .ok xs => if xs.length ≤ SZ then .ok (.lst xs) else .bad
  | _ => .bad
def cYes : SS → R D := fun _ => .ok (.bl true)
theorem wipeS_len (s : SS) : ∀ vs, (wipeS s vs).length = s.length
  | [] => rfl
  | v :: vs => by unfold wipeS; rw [List.length_set, wipeS_len s vs]
theorem wipeS_get {s : SS} {x : Sl} {i : Nat} (hx : x ≠ .no) : ∀ {vs : List Nat}, (wipeS s vs)[i]? = some x → s[i]? = some x ∧ i ∉ vs
  | [], h => ⟨h, by simp⟩
  | v :: vs, h => by
    unfold wipeS at h
    by_cases hi : v = i
    · subst hi
      by_cases hv : v < (wipeS s vs).length
      · rw [List.getElem?_set_self hv] at h
        cases h
        exact (hx rfl).elim
      · rw [List.getElem?_eq_none (by simpa using hv)] at h
        cases h
    · rw [List.getElem?_set_ne hi] at h
      obtain ⟨h1, h2⟩ := wipeS_get hx h
      exact ⟨h1, by simp only [List.mem_cons, not_or]; exact ⟨fun e => hi e.symm, h2⟩⟩
theorem wipe_get {σ : L2.St} {i : Nat} : ∀ {vs : List Nat}, i ∉ vs → (wipe σ vs)[i]? = σ[i]?
  | [], _ => rfl
  | v :: vs, h => by
    simp only [List.mem_cons, not_or] at h
    unfold wipe
    rw [List.getElem?_set_ne (Ne.symm h.1)]
    exact wipe_get h.2
theorem wipe_in {σ : L2.St} {i : Nat} : ∀ {vs : List Nat}, i ∈ vs → i < σ.length → (wipe σ vs)[i]? = some none
  | [], h, _ => by cases h
  | v :: vs, h, hl => by
    unfold wipe
    by_cases hi : v = i
    · subst hi
      rw [List.getElem?_set_self (by rw [wipe_length]; exact hl)]
    · rw [List.getElem?_set_ne hi]
      have h2 : i ∈ vs := by
        rcases List.mem_cons.mp h with e | e
        · exact (hi e.symm).elim
        · exact e
      exact wipe_in h2 hl
theorem wipe_but {σ σ' : L2.St} {vs : List Nat} (b : But vs (wipe σ vs) σ') : wipe σ' vs = wipe σ vs := by
  have hl : σ'.length = σ.length := b.1.trans (wipe_length σ vs)
  refine List.ext_getElem? fun i => ?_
  by_cases hi : i ∈ vs
  · by_cases hlt : i < σ.length
    · rw [wipe_in hi hlt, wipe_in hi (by rw [hl]; exact hlt)]
    · rw [List.getElem?_eq_none (by rw [wipe_length]; omega), List.getElem?_eq_none (by rw [wipe_length]; omega)]
  · rw [wipe_get hi, b.2 i hi]
theorem StR.wiped {C : CT} {F H : Hp} {s : SS} {σ : L2.St} (S : StR C F H s σ) (vs : List Nat) : StR C F H (wipeS s vs) (wipe σ vs) := by
  have ow : ∀ {i : Nat} {d : D}, (wipeS s vs)[i]? = some (.ow d) ∨ (wipeS s vs)[i]? = some (.lk d) → (s[i]? = some (.ow d) ∨ s[i]? = some (.lk d)) ∧ i ∉ vs := fun {i d} h => by
    rcases h with h | h
    · obtain ⟨h1, h2⟩ := wipeS_get (by intro z; cases z) h
      exact ⟨.inl h1, h2⟩
    · obtain ⟨h1, h2⟩ := wipeS_get (by intro z; cases z) h
      exact ⟨.inr h1, h2⟩
  refine ⟨S.ext, by rw [wipeS_len, wipe_length]; exact S.len, fun i d h => ?_, fun i d h => ?_, fun i j d e a h1 h2 h3 h4 => ?_⟩
  · obtain ⟨h1, h2⟩ := wipeS_get (by intro z; cases z) h
    rw [wipe_get h2]
    exact S.sh i d h1
  · obtain ⟨h1, h2⟩ := ow h
    rw [wipe_get h2]
    exact S.ow i d h1
  · obtain ⟨a1, a2⟩ := ow h1
    obtain ⟨b1, b2⟩ := ow h2
    rw [wipe_get a2] at h3
    rw [wipe_get b2] at h4
    exact S.dis i j d e a a1 b1 h3 h4
section
variable {X : Cx} {C : CT} {W : WX} {elt tg iter : Expr} {ifs : List Expr} {fi : SS → R (List D)} {pos : Pos} {ft : FG} {vs : List Nat} {fc fe : SS → R D}
/-- the tests of a comprehension -/
structure CTs (X : Cx) (C : CT) (ifs : List Expr) (fc : SS → R D) : Prop where
  t : PTs X ifs (tT C WNo fc)
theorem c_none : PTs X [] (tT C WNo cYes) := ⟨fun pins s σ H Q I ⟨F, sd, S, h⟩ => pts_nil.run pins s σ H Q I (h F H (Ext.refl S.fh))⟩
theorem c_one {e : Expr} (h : PT X e (tT C WNo fc)) : PTs X [e] (tT C WNo fc) := pts_one h
theorem comp_run {F1 H1 H₀ : Hp} {sd : SS} {σ : L2.St} {Q : VK} {ds : List D} {J : It} (S : StR C F1 H1 sd σ) (e₀ : Same H₀ H1) (ok : ItOk C.G F1 J ds)
    (h : PostE C W F1 H1 σ (pF C H₀) Q (match mapD (cStep ft vs fc fe sd) ds with | .ok xs => if xs.length ≤ SZ then .ok (.lst xs) else .bad | _ => .bad)) :
    ∀ L, H1 L = none → ∃ Wv : Nat → Nat → Hp → Prop, (∃ m, Wv 0 m (upd H1 L (.lst []))) ∧ ∀ i m H, Wv i m H →
      (J.stop i H ∧ Q (.ref L) H) ∨ (J.go i H ∧ ∃ Nx : Hp → Prop, (∀ H', Nx H' → ∃ m', m' < m ∧ Wv (i + 1) m' H') ∧ ∀ x H', J.yld i H x H' → tG C ft vs x (wipe σ vs) H' fun σ2 H2 => wipe σ2 vs = wipe σ vs ∧ tT C WNo fc σ2 H2 fun b H3 =>
        if b = true then tD C WNo fe σ2 H3 fun y H4 => ∃ acc, H4 L = some (.lst acc) ∧ acc.length < sizeLine ∧ Nx (upd H4 L (.lst (acc ++ [y]))) else Nx H3) := by
  intro L hL
  obtain ⟨xs, hx, hz, h⟩ : ∃ xs, mapD (cStep ft vs fc fe sd) ds = .ok xs ∧ xs.length ≤ SZ ∧ PostE C W F1 H1 σ (pF C H₀) Q (.ok (.lst xs)) := by
    cases q : mapD (cStep ft vs fc fe sd) ds with
    | ok xs =>
      rw [q] at h
      by_cases hz : xs.length ≤ SZ
      · have h : PostE C W F1 H1 σ (pF C H₀) Q (if xs.length ≤ SZ then .ok (.lst xs) else .bad) := h
        rw [if_pos hz] at h
        exact ⟨xs, rfl, hz, h⟩
      · have h : PostE C W F1 H1 σ (pF C H₀) Q (if xs.length ≤ SZ then .ok (.lst xs) else .bad) := h
        rw [if_neg hz] at h
        exact h.elim
    | ex c vs => rw [q] at h; exact h.elim
    | bad => rw [q] at h; exact h.elim
  have hFL : F1 L = none := S.fh.free hL
  refine ⟨fun i m H => m = ds.length - i ∧ i ≤ ds.length ∧ ∃ F acc dacc rest, Ext F1 H1 F H ∧ F L = none ∧ H L = some (.lst acc) ∧ RepL C.G F dacc acc ∧ mapD (cStep ft vs fc fe sd) (ds.drop i) = .ok rest ∧ xs = dacc ++ rest,
    ⟨ds.length, by omega, Nat.zero_le _, F1, [], [], xs, Ext.newOwn S.fh hL, hFL, upd_same, RepL.nil, hx, rfl⟩, ?_⟩
  rintro i m H ⟨rfl, hi, F, acc, dacc, rest, e1, f1, hl, ra, hm, hxs⟩
  by_cases hlt : i < ds.length
  · refine .inr ⟨ok.go i F H e1.ff e1.fh hlt, fun H' => ∃ F acc dacc rest, Ext F1 H1 F H' ∧ F L = none ∧ H' L = some (.lst acc) ∧ RepL C.G F dacc acc ∧ mapD (cStep ft vs fc fe sd) (ds.drop (i + 1)) = .ok rest ∧ xs = dacc ++ rest,
      fun H' n => ⟨ds.length - (i + 1), by omega, rfl, hlt, n⟩, fun x H' y => ?_⟩
    obtain ⟨F', d, e2, hd, r⟩ := ok.yld i F H x H' e1.ff e1.fh hlt y
    have hdr : ds.drop i = d :: ds.drop (i + 1) := by
      obtain ⟨hi', e⟩ := List.getElem?_eq_some_iff.mp hd
      rw [List.drop_eq_getElem_cons hi', e]
    rw [hdr] at hm
    unfold mapD at hm
    have hst : ∀ {q : R (Option D)}, cStep ft vs fc fe sd d = q → q ≠ .bad ∧ ∃ s', ft d (wipeS sd vs) = some s' ∧ ((∃ x, fc s' = .ok (.bl true) ∧ fe s' = .ok x ∧ q = .ok (some x)) ∨ (fc s' = .ok (.bl false) ∧ q = .ok none)) := by
      intro q hq
      subst hq
      unfold cStep at hm ⊢
      cases k : ft d (wipeS sd vs) with
      | none => rw [k] at hm; cases hm
      | some s' =>
        rw [k] at hm
        simp only at hm ⊢
        cases k2 : fc s' with
        | ok b =>
          rw [k2] at hm
          cases b with
          | bl b =>
            cases b with
            | true =>
              simp only at hm ⊢
              cases k3 : fe s' with
              | ok x => exact ⟨fun z => (by cases z), s', rfl, .inl ⟨x, k2, k3, rfl⟩⟩
              | ex c vs => rw [k3] at hm; cases hm
              | bad => rw [k3] at hm; cases hm
            | false => exact ⟨fun z => (by cases z), s', rfl, .inr ⟨k2, rfl⟩⟩
          | _ => cases hm
        | ex c vs => rw [k2] at hm; cases hm
        | bad => rw [k2] at hm; cases hm
    obtain ⟨_, s', k1, k2⟩ := hst rfl
    have S' : StR C F' H' (wipeS sd vs) (wipe σ vs) := ((S.mono e1).mono e2).wiped vs
    refine ⟨F', wipeS sd vs, d, s', S', r, k1, fun σ2 S2 l2 b2 => ⟨wipe_but b2, F', s', S2, ?_⟩⟩
    rcases k2 with ⟨y, c1, c2, c3⟩ | ⟨c1, c3⟩
    · rw [c1]
      intro F3 H3 e3
      rw [if_pos rfl]
      refine ⟨F3, s', S2.mono e3, ?_⟩
      rw [c2]
      intro u F4 H4 e4 r4
      have e24 : Ext F H F4 H4 := (e2.trans e3).trans e4
      have f4 : F4 L = none := e24.ow L _ hl f1
      rw [c3] at hm
      have hm : (match mapD (cStep ft vs fc fe sd) (ds.drop (i + 1)) with | .ok xs => R.ok (y :: xs) | _ => R.bad) = .ok rest := hm
      cases k5 : mapD (cStep ft vs fc fe sd) (ds.drop (i + 1)) with
      | ok rest' =>
        rw [k5] at hm
        have hm : R.ok (y :: rest') = .ok rest := hm
        cases hm
        have hlen : acc.length < sizeLine := by
          rw [ra.length, sizeLine_eq]
          have : xs.length = dacc.length + (rest'.length + 1) := by rw [hxs]; simp
          have hz' : xs.length ≤ 16777216 := (sz_is ▸ hz)
          omega
        refine ⟨acc, e24.hh _ _ hl, hlen, F4, acc ++ [u], dacc ++ [y], rest', ?_, f4, upd_same, (RepL.mono e24.ff ra).append (RepL.cons r4 RepL.nil), rfl, by rw [hxs]; simp⟩
        have e14 := e1.trans e24
        refine ⟨e14.ff, fun b o z => ?_, fun b o z => ?_, fun b o z1 z2 => e14.ow b o z1 z2⟩
        · have hb : b ≠ L := ne_of_none z hL
          rw [upd_ne hb]
          exact e14.hh _ _ z
        · have hb : b ≠ L := ne_of_none z f4
          rw [upd_ne hb]
          exact e14.fh _ _ z
      | ex c vs => rw [k5] at hm; cases hm
      | bad => rw [k5] at hm; cases hm
    · rw [c1]
      intro F3 H3 e3
      rw [if_neg Bool.false_ne_true]
      rw [c3] at hm
      have e23 : Ext F H F3 H3 := e2.trans e3
      exact ⟨F3, acc, dacc, rest, e1.trans e23, e23.ow L _ hl f1, e23.hh _ _ hl, RepL.mono e23.ff ra, hm, hxs⟩
  · have e : i = ds.length := by omega
    subst e
    rw [List.drop_length] at hm
    cases hm
    rw [List.append_nil] at hxs
    subst hxs
    exact .inl ⟨ok.stop _ F H e1.ff e1.fh (Nat.le_refl _), h _ F H e1 ⟨L, rfl, e₀.free hL, f1, acc, hl, ra⟩⟩
theorem comp_read {σ : L2.St} {H : Hp} {Q : VK} (h : tF C W (eComp fi ft vs fc fe) σ H Q) : tLc (tI C W fi) (tG C ft vs) (tT C WNo fc) (tD C WNo fe) vs σ H Q := by
  obtain ⟨F, sd, S, h⟩ := h
  refine ⟨F, sd, S, ?_⟩
  unfold eComp at h
  cases q : fi sd with
  | ok ds =>
    rw [q] at h
    exact fun J F1 H1 e1 ok => comp_run (S.mono e1) e1.hh ok (PostE.ext e1 h)
  | ex c vs => rw [q] at h; exact h
  | bad => rw [q] at h; exact h
/-- [elt for tg in iter if ..] -/
theorem s_comp (v : Pl X C W) {scope : Scope} {own : List (Str × Nat)} (hN : X.N.Nodup) (hi : PI X tg iter (tI C W fi)) (hv : own.map (·.2) = vs)
    (hg : ∀ (s : Shared) (H : Hp) (Ca : Addr) (cl : List (Str × Addr)) (fp : List Addr), Pl (X.blk s H scope (compEnvC scope cl Ca X.env) fp) C WNo → PG (X.blk s H scope (compEnvC scope cl Ca X.env) fp) tg (tG C ft vs))
    (ht : ∀ (s : Shared) (H : Hp) (Ca : Addr) (cl : List (Str × Addr)) (fp : List Addr), Pl (X.blk s H scope (compEnvC scope cl Ca X.env) fp) C WNo → PTs (X.blk s H scope (compEnvC scope cl Ca X.env) fp) ifs (tT C WNo fc))
    (he : ∀ (s : Shared) (H : Hp) (Ca : Addr) (cl : List (Str × Addr)) (fp : List Addr), Pl (X.blk s H scope (compEnvC scope cl Ca X.env) fp) C WNo → PE (X.blk s H scope (compEnvC scope cl Ca X.env) fp) elt (tD C WNo fe))
    (ok : BlkOk X.N X.env.scope scope own := by exact blkOk_by (by decide +kernel))
    (hs : ∀ x, foldedSetIterable iter X.env x = pure x := by intro _; rfl) : PE X (.ListComp elt [⟨tg, iter, ifs, 0⟩] scope pos) (tF C W (eComp fi ft vs fc fe)) := by
  subst hv
  exact pe_imp (pe_lc v.calm hN hi ok (fun s H Ca cl fp => hg s H Ca cl fp (v.blk ..)) (fun s H Ca cl fp => ht s H Ca cl fp (v.blk ..)) (fun s H Ca cl fp => he s H Ca cl fp (v.blk ..)) hs) fun σ H Q h => comp_read h
/-- y = [elt for ..]: an own list, a shared list -/
theorem s_setc (v : Pl X C W) (i : Nat) {y : Str} {py spos : Pos} {scope : Scope} {own : List (Str × Nat)} (hN : X.N.Nodup) (hi : PI X tg iter (tI C W fi)) (hv : own.map (·.2) = vs)
    (hg : ∀ (s : Shared) (H : Hp) (Ca : Addr) (cl : List (Str × Addr)) (fp : List Addr), Pl (X.blk s H scope (compEnvC scope cl Ca X.env) fp) C WNo → PG (X.blk s H scope (compEnvC scope cl Ca X.env) fp) tg (tG C ft vs))
    (ht : ∀ (s : Shared) (H : Hp) (Ca : Addr) (cl : List (Str × Addr)) (fp : List Addr), Pl (X.blk s H scope (compEnvC scope cl Ca X.env) fp) C WNo → PTs (X.blk s H scope (compEnvC scope cl Ca X.env) fp) ifs (tT C WNo fc))
    (he : ∀ (s : Shared) (H : Hp) (Ca : Addr) (cl : List (Str × Addr)) (fp : List Addr), Pl (X.blk s H scope (compEnvC scope cl Ca X.env) fp) C WNo → PE (X.blk s H scope (compEnvC scope cl Ca X.env) fp) elt (tD C WNo fe))
    (hy : X.N[i]? = some y := by rfl) (hyl : X.env.scope.names.lookup y = some .local := by rfl)
    (hsw : swapsWith (.ListComp elt [⟨tg, iter, ifs, 0⟩] scope pos) (some (.Name y py)) spos.line X.env = pure true := by exact sw_true rfl rfl rfl (by decide +kernel))
    (ok : BlkOk X.N X.env.scope scope own := by exact blkOk_by (by decide +kernel))
    (hs : ∀ x, foldedSetIterable iter X.env x = pure x := by intro _; rfl) : PS X (.Assign [.Name y py] (.ListComp elt [⟨tg, iter, ifs, 0⟩] scope pos) spos) (tS C W (sSetO i (eComp fi ft vs fc fe))) := by
  subst hv
  refine ps_imp (ps_setLc v.calm hN hy hyl hsw hi ok (fun s H Ca cl fp => hg s H Ca cl fp (v.blk ..)) (fun s H Ca cl fp => ht s H Ca cl fp (v.blk ..)) (fun s H Ca cl fp => he s H Ca cl fp (v.blk ..)) hs) fun En σ H ⟨F, sd, S, h⟩ => ?_
  refine comp_read (W := W) ⟨F, sd, S, postS_E S h fun d u F1 H1 e1 r h1 => ?_⟩
  obtain ⟨a, rfl, hn, hf, ow⟩ := r
  cases q : setS sd i (.ow d) with
  | none => rw [q] at h1; exact h1.elim
  | some s' =>
    rw [q] at h1
    exact h1 F1 H1 _ ((S.mono e1).setOw (H₁ := H) q S.owns hn (S.ext.hh.free hn) hf ow) e1.ff (lk_set q)
end
end
end Z
namespace Z
noncomputable section
open PySem PySem.Spec PySem.P PyProof.Rows L2

/-! ### isinstance with built-in types -/
def tyN : D → Option String
  | .non => some "NoneType" | .bl _ => some "bool" | .int _ => some "int" | .str _ => some "str" | .lst _ => some "list" | .tup _ => some "tuple" | .dic _ _ => some "dict"
  | _ => none
def tyIs (t T : String) : Bool := t == T || (t == "bool" && T == "int")
def isiD (T : String) (d : D) : R D := match tyN d with
  | some t => .ok (.bl (tyIs t T))
  | none => .bad
theorem isiD_ne {T : String} : NoEx1 (isiD T) := fun x c vs h => by
  unfold isiD at h
  split at h <;> cases h
theorem bor_ty {G : GE} {K : PySem.W.Frag} (hK : K = G.K) {F H : Hp} (S : Same F H) {d : D} {v : V} {t : String} (ht : tyN d = some t) (b : Bor G F H d v) : TyX K H v (.type t) := by
  subst hK
  cases d with
  | non => cases ht; rw [bor_non b]; exact .base .non
  | bl _ => cases ht; rw [bor_bl b]; exact .base (.bl _)
  | int _ => cases ht; rw [bor_int b]; exact .base (.int _)
  | str _ => cases ht; rw [(bor_str b).1]; exact .base (.str _)
  | lst _ =>
    cases ht
    obtain ⟨a, xs, rfl, q, _⟩ := bor_lst S b
    rcases q with (q | ⟨o, q⟩) | ⟨o, its, n, hk, hc, _⟩
    · exact .base (.lst q)
    · exact .base (.frz q)
    · exact .kList hk hc
  | tup _ =>
    cases ht
    obtain ⟨a, xs, rfl, q, _⟩ := bor_tup S b
    rcases q with (q | ⟨o, q⟩) | ⟨o, its, n, hk, hc, _⟩
    · exact .base (.tup q)
    · exact .fTuple q
    · exact .kTuple hk hc
  | dic _ _ =>
    cases ht
    obtain ⟨a, kvs, rfl, q, _⟩ := bor_dic S b
    rcases q with q | ⟨o, q⟩
    · exact .base (.dK q)
    · exact .fDict q
  | _ => cases ht
/-- the types that are asked for -/
def tyOk (T : String) : Bool := ["bool", "int", "str", "list", "tuple", "dict"].contains T
theorem kit_all {K : PySem.W.Frag} {t T : String} {d : D} (ht : tyN d = some t) (hT : tyOk T = true) : PySem.W.kitOne K (.type t) (.type T) = some (tyIs t T) := by
  have hT : T ∈ ["bool", "int", "str", "list", "tuple", "dict"] := by simpa [tyOk] using hT
  have h : ∀ t ∈ ["NoneType", "bool", "int", "str", "list", "tuple", "dict"], ∀ T ∈ ["bool", "int", "str", "list", "tuple", "dict"], kitB t T = some (tyIs t T) := by decide +kernel
  refine kit_ty (h t ?_ T hT)
  cases d <;> cases ht <;> simp
section
variable {X : Cx} {C : CT} {W : WX} {a b c e : Expr} {es : List Expr} {fa fb fc fe f : SS → R D} {pos p p2 apos : Pos} {fs : SS → R (List D)} {x : Str}
theorem s_isi (v : Pq X C W) (T : String) (hT : tyOk T = true) {y : Str} (hg : Gl X "isinstance") (hm : X.mg "isinstance" = none) (hgT : Gl X y) (hmT : X.mg y = none) (hvT : bootBuiltins y = some (.type T)) (ha : PE X a (tB C W fa))
    (hn : y ≠ "__name__" := by decide) (hdb : (y == ("__debug__" : Str)) = false := by decide)
    (he : starEach [a, .Name y p2] X.env = (false, eval a X.env) :: starEach [.Name y p2] X.env := by rfl) (he2 : starEach [.Name y p2] X.env = (false, eval (.Name y p2) X.env) :: starEach [] X.env := by rfl)
    (hpl : (backTo pos (starEach [.Name y p2] X.env)).any (·.1) = false := by rfl) : PE X (.Call (.Name "isinstance" p) [a, .Name y p2] [] pos) (tD C W (eUn (isiD T) fa)) := by
  refine pe_imp (pe_callB call_isi hg hm (by decide +kernel) (pa_cons ha (pa_cons (pe_bltn (v := .ty T) hgT hmT hvT rfl hn hdb) pa_nil he2) he) (by decide) (by decide) he hpl) fun σ H Q ⟨F, sd, S, h⟩ => ?_
  refine ⟨F, sd, S, PostE.bind h fun d u F1 H1 e1 b1 h1 => ?_⟩
  unfold isiD at h1
  split at h1
  · rename_i t ht
    exact ⟨u, .ty T, .type t, .type T, _, rfl, .ty T, bor_ty v.K e1.fh ht b1, kit_all ht hT, h1 _ F1 H1 (Ext.refl e1.fh) (rep_bl.mpr rfl)⟩
  · exact h1.elim

/-! ### more built-in functions -/
/-- list(x) -/
def listD : List D → R D
  | [.lst x] => .ok (.lst x)
  | [.tup x] => .ok (.lst x)
  | _ => .bad
theorem listD_ne : NoExL listD := fun x c vs h => by unfold listD at h; split at h <;> cases h
theorem PostVF.lst {G : GE} {F H : Hp} {Q : VK} {ds : List D} {vs : List V} (S : Same F H) (r : RepL G F ds vs) (p : PostVF G F H Q (.ok (.lst ds))) : ∀ a, H a = none → Q (.ref a) (upd H a (.lst vs)) := fun a ha =>
  p a F (upd H a (.lst vs)) (Ext.newOwn S ha) ha (S.free ha) ⟨vs, upd_same, r⟩
theorem call_listD (hK : X.K = C.G.K) : CallR X (.type "list") (rCF C.G listD) := by
  intro pins s σ H xs us Q I r h
  obtain ⟨F, ds, S, r2, p⟩ := h
  unfold listD at p
  split at p
  · obtain ⟨v, rfl, b⟩ := pair1 r2
    obtain ⟨a, ys, rfl, q, rr⟩ := bor_lst S b
    rw [← hK] at q
    exact call_list_of pins s σ H _ us Q I r ⟨a, ys, rfl, .inl q, p.lst S rr⟩
  · obtain ⟨v, rfl, b⟩ := pair1 r2
    obtain ⟨a, ys, rfl, q, rr⟩ := bor_tup S b
    rw [← hK] at q
    exact call_list_of pins s σ H _ us Q I r ⟨a, ys, rfl, .inr q, p.lst S rr⟩
  · exact p.elim
/-- tuple(x) -/
def tupleD : List D → R D
  | [.lst x] => .ok (.tup x)
  | [.tup x] => .ok (.tup x)
  | _ => .bad
theorem tupleD_ne : NoExL tupleD := fun x c vs h => by unfold tupleD at h; split at h <;> cases h
theorem call_tupleD (hK : X.K = C.G.K) : CallR X (.type "tuple") (rC C.G tupleD) := by
  intro pins s σ H xs us Q I r h
  obtain ⟨F, ds, S, r2, p⟩ := h
  unfold tupleD at p
  split at p
  · obtain ⟨v, rfl, b⟩ := pair1 r2
    obtain ⟨a, ys, rfl, q, rr⟩ := bor_lst S b
    rw [← hK] at q
    exact call_tuple_of pins s σ H _ us Q I r ⟨a, ys, rfl, .inl ⟨q, p.tup S rr⟩⟩
  · obtain ⟨v, rfl, b⟩ := pair1 r2
    have b' := b
    obtain ⟨a, ys, rfl, q, rr⟩ := bor_tup S b
    rw [← hK] at q
    exact call_tuple_of pins s σ H _ us Q I r ⟨a, ys, rfl, .inr ⟨q, p _ F H (Ext.refl S) (b'.elim id fun ⟨_, _, _, z⟩ => z.elim)⟩⟩
  · exact p.elim
/-- ints of a list -/
def intsD : List D → Option (List Int)
  | [] => some []
  | .int i :: r => (intsD r).map (i :: ·)
  | _ :: _ => none
theorem ints_rep {G : GE} {F : Hp} : ∀ {ds : List D} {vs : List V} {ns : List Int}, intsD ds = some ns → RepL G F ds vs → vs = ns.map V.int
  | [], vs, ns, h, r => by
    unfold RepL at r
    cases h
    exact r
  | d :: ds, vs, ns, h, r => by
    cases d with
    | int i =>
      unfold intsD at h
      unfold RepL at r
      obtain ⟨v, t, rfl, r1, r2⟩ := r
      cases k : intsD ds with
      | none => rw [k] at h; cases h
      | some ms =>
        rw [k] at h
        cases h
        rw [rep_int.mp r1, ints_rep k r2]
        rfl
    | _ => cases h
/-- sum(xs) -/
def sumD : List D → R D
  | [.lst x] => match intsD x with
    | some ns => .ok (.int ns.sum)
    | none => .bad
  | _ => .bad
theorem sumD_ne : NoExL sumD := fun x c vs h => by
  unfold sumD at h
  split at h <;> first | cases h | (split at h <;> cases h)
theorem call_sumD (v : Pl X C W) : CallR X (.builtin "sum") (rC C.G sumD) := by
  intro pins s σ H xs us Q I r h
  obtain ⟨F, ds, S, r2, p⟩ := h
  unfold sumD at p
  split at p
  · split at p
    · rename_i ns hn
      obtain ⟨u, rfl, b⟩ := pair1 r2
      obtain ⟨a, ys, rfl, q, rr⟩ := bor_lst S b
      rw [ints_rep hn rr, ← v.K] at q
      exact cr_sum v.calm pins s σ H _ us Q I r ⟨a, ns, rfl, q, p.int S⟩
    · exact p.elim
  · exact p.elim
/-- max(a, b), min(a, b) -/
def max2D : List D → R D
  | [.int i, .int j] => .ok (.int (if j > i then j else i))
  | _ => .bad
def min2D : List D → R D
  | [.int i, .int j] => .ok (.int (if j < i then j else i))
  | _ => .bad
theorem max2D_ne : NoExL max2D := fun x c vs h => by unfold max2D at h; split at h <;> cases h
theorem min2D_ne : NoExL min2D := fun x c vs h => by unfold min2D at h; split at h <;> cases h
theorem call_max2D (v : Pl X C W) : CallR X (.builtin "max") (rC C.G max2D) := by
  intro pins s σ H xs us Q I r h
  obtain ⟨F, ds, S, r2, p⟩ := h
  unfold max2D at p
  split at p
  · obtain ⟨u, w, rfl, b1, b2⟩ := pair2 r2
    exact call_max2 v.calm pins s σ H _ us Q I r ⟨_, _, by rw [bor_int b1, bor_int b2], p.int S⟩
  · exact p.elim
theorem call_min2D (v : Pl X C W) : CallR X (.builtin "min") (rC C.G min2D) := by
  intro pins s σ H xs us Q I r h
  obtain ⟨F, ds, S, r2, p⟩ := h
  unfold min2D at p
  split at p
  · obtain ⟨u, w, rfl, b1, b2⟩ := pair2 r2
    exact call_min2 v.calm pins s σ H _ us Q I r ⟨_, _, by rw [bor_int b1, bor_int b2], p.int S⟩
  · exact p.elim
def absD : List D → R D
  | [.int i] => .ok (.int (if i < 0 then -i else i))
  | _ => .bad
theorem absD_ne : NoExL absD := fun x c vs h => by unfold absD at h; split at h <;> cases h
theorem call_absD : CallR X (.builtin "abs") (rC C.G absD) := by
  intro pins s σ H xs us Q I r h
  obtain ⟨F, ds, S, r2, p⟩ := h
  unfold absD at p
  split at p
  · obtain ⟨u, rfl, b⟩ := pair1 r2
    exact call_abs pins s σ H _ us Q I r ⟨_, by rw [bor_int b], p.int S⟩
  · exact p.elim
/-- all(xs) -/
def blsD : List D → Option (List Bool)
  | [] => some []
  | .bl i :: r => (blsD r).map (i :: ·)
  | _ :: _ => none
theorem bls_rep {G : GE} {F : Hp} : ∀ {ds : List D} {vs : List V} {ns : List Bool}, blsD ds = some ns → RepL G F ds vs → vs = ns.map V.bl
  | [], vs, ns, h, r => by
    unfold RepL at r
    cases h
    exact r
  | d :: ds, vs, ns, h, r => by
    cases d with
    | bl i =>
      unfold blsD at h
      unfold RepL at r
      obtain ⟨v, t, rfl, r1, r2⟩ := r
      cases k : blsD ds with
      | none => rw [k] at h; cases h
      | some ms =>
        rw [k] at h
        cases h
        rw [rep_bl.mp r1, bls_rep k r2]
        rfl
    | _ => cases h
def allD : List D → R D
  | [.lst x] => match blsD x with
    | some ns => .ok (.bl (ns.all id))
    | none => .bad
  | _ => .bad
theorem allD_ne : NoExL allD := fun x c vs h => by
  unfold allD at h
  split at h <;> first | cases h | (split at h <;> cases h)
theorem call_allD (v : Pl X C W) : CallR X (.builtin "all") (rC C.G allD) := by
  intro pins s σ H xs us Q I r h
  obtain ⟨F, ds, S, r2, p⟩ := h
  unfold allD at p
  split at p
  · split at p
    · rename_i ns hn
      obtain ⟨u, rfl, b⟩ := pair1 r2
      obtain ⟨a, ys, rfl, q, rr⟩ := bor_lst S b
      rw [bls_rep hn rr, ← v.K] at q
      exact cr_all v.calm pins s σ H _ us Q I r ⟨a, ns, rfl, q, p.bl S⟩
    · exact p.elim
  · exact p.elim

/-! ### methods of texts -/
/-- texts of a list -/
def strsD : List D → Option (List (List Nat))
  | [] => some []
  | .str i :: r => (strsD r).map (i :: ·)
  | _ :: _ => none
def toS (x : List Nat) : Str := ⟨x.toArray⟩
theorem strs_rep {G : GE} {F : Hp} : ∀ {ds : List D} {vs : List V} {ns : List (List Nat)}, strsD ds = some ns → RepL G F ds vs → vs = (ns.map toS).map V.str ∧ ∀ x ∈ ns, okS x = true
  | [], vs, ns, h, r => by
    unfold RepL at r
    cases h
    exact ⟨r, fun _ z => by cases z⟩
  | d :: ds, vs, ns, h, r => by
    cases d with
    | str i =>
      unfold strsD at h
      unfold RepL at r
      obtain ⟨v, t, rfl, r1, r2⟩ := r
      cases k : strsD ds with
      | none => rw [k] at h; cases h
      | some ms =>
        rw [k] at h
        cases h
        obtain ⟨e1, e2⟩ := strs_rep k r2
        obtain ⟨e3, e4⟩ := rep_str.mp r1
        refine ⟨by rw [e3, e1]; rfl, fun x hx => ?_⟩
        rcases List.mem_cons.mp hx with z | z
        · rw [z]; exact e4
        · exact e2 x z
    | _ => cases h
def joinD : D → D → R D
  | .str a, .lst xs => match strsD xs with
    | some ys => if (ys.map (·.length)).sum + ys.length * a.length ≤ SZ then .ok (.str (TL.joinL a ys)) else .bad
    | none => .bad
  | _, _ => .bad
theorem joinD_ne : NoEx2 joinD := fun x y c vs h => by
  unfold joinD at h
  split at h <;> first | cases h | (split at h <;> first | cases h | (split at h <;> cases h))
theorem joinL_mem {a : List Nat} {c : Nat} : ∀ {ys : List (List Nat)}, c ∈ TL.joinL a ys → c ∈ a ∨ ∃ y ∈ ys, c ∈ y := by
  intro ys
  induction ys with
  | nil => intro h; simp [TL.joinL] at h
  | cons x r ih =>
    intro h
    cases r with
    | nil => exact .inr ⟨x, by simp, by simpa [TL.joinL] using h⟩
    | cons y r =>
      have e : TL.joinL a (x :: y :: r) = x ++ (a ++ TL.joinL a (y :: r)) := by simp [TL.joinL]
      rw [e, List.mem_append, List.mem_append] at h
      rcases h with h | h | h
      · exact .inr ⟨x, by simp, h⟩
      · exact .inl h
      · rcases ih h with h | ⟨z, h1, h2⟩
        · exact .inl h
        · exact .inr ⟨z, List.mem_cons_of_mem _ h1, h2⟩
theorem okS_join {a : List Nat} {ys : List (List Nat)} (ha : okS a = true) (hy : ∀ y ∈ ys, okS y = true) : okS (TL.joinL a ys) = true := by
  unfold okS at *
  rw [List.all_eq_true] at *
  intro c hc
  rcases joinL_mem hc with h | ⟨y, h1, h2⟩
  · exact ha c h
  · exact List.all_eq_true.mp (hy y h1) c h2
/-- a method of a built-in type -/
def eM (T : String) (g : D → List D → R D) (fa : SS → R D) (fs : SS → R (List D)) : SS → R D := fun s => (fa s).bind fun x => if tyN x = some T then (fs s).bind (g x) else .bad
def NoExM (g : D → List D → R D) : Prop := ∀ x xs c vs, g x xs ≠ .ex c vs
def rM (G : GE) (g : D → List D → R D) : V → List V → Hp → VK → Prop := fun x vs H Q => ∃ F d ds, Same F H ∧ Bor G F H d x ∧ Paired (Bor G F H) ds vs ∧ PostV G F H Q (g d ds)
theorem bor_tyV {G : GE} {K : PySem.W.Frag} (hK : K = G.K) {F H : Hp} (S : Same F H) {d : D} {u : V} {T : String} (hT : T = "str" ∨ T = "list") (ht : tyN d = some T) (b1 : Bor G F H d u) : tyV K T u H := by
  subst hK
  cases d <;> (unfold tyN at ht) <;> (cases ht) <;> first
    | (rcases hT with h | h <;> exact absurd h (by decide))
    | skip
  · rw [(bor_str b1).1]
    exact (rfl : "str" = "str")
  · obtain ⟨a, xs, rfl, q, _⟩ := bor_lst S b1
    exact .inl ⟨rfl, xs, q⟩
variable {g : D → List D → R D} {T id : String} {name : Str}
theorem s_me (v : Pq X C W) (hT : T = "str" ∨ T = "list") (hg : NoExM g) (pa : PlainAttrs T) (slot : Slot T name id) (hty : typeOf (.builtin id) = pure (.type "method_descriptor")) (hm : MtR X id (rM C.G g)) (ho : PE X a (tB C W fa)) (ha : PA X (e :: es) (tAB C W fs))
    (hbase : attributeBase a name X.env (eval a X.env) = eval a X.env := by rfl)
    (hfew : ((backTo pos (starEach (e :: es) X.env)).all (fun x => !x.1) && (backToKw pos (keywordEach [] X.env)).all (fun x => x.1.isSome)
      && decide ((e :: es).length + ([] : List Keyword).length + (if ([] : List Keyword).isEmpty then 0 else 1) < 30)) = true := by rfl)
    (hline : (apos.endLine == pos.line) = true := by rfl) (hs : starEach (e :: es) X.env = (false, eval e X.env) :: starEach es X.env := by rfl) (hplain : (backTo pos (starEach es X.env)).any (·.1) = false := by rfl) :
    PE X (.Call (.Attribute a name apos) (e :: es) [] pos) (tD C W (eM T g fa fs)) := by
  refine pe_imp (pe_bm pa slot hty hm ho ha hbase hfew hline hs hplain) fun σ H Q h => ?_
  obtain ⟨F, sd, S, h⟩ := h
  refine ⟨F, sd, S, PostE.bind h fun d u F1 H1 e1 b1 h1 => ?_⟩
  by_cases ht : tyN d = some T
  · rw [if_pos ht] at h1
    refine ⟨bor_tyV v.K e1.fh hT ht b1, ?_⟩
    refine ⟨F1, sd, S.mono e1, PostE.bindA h1 fun ds vs F2 H2 e2 r h2 => ?_⟩
    exact ⟨F2, d, ds, e2.fh, Bor.mono e2 b1, r, h2.toV (hg d ds)⟩
  · rw [if_neg ht] at h1
    exact h1.elim
def joinM (x : D) : List D → R D
  | [y] => joinD x y
  | _ => .bad
theorem joinM_ne : NoExM joinM := fun x xs c vs h => by
  unfold joinM at h
  split at h
  · exact joinD_ne _ _ _ _ h
  · cases h
theorem mt_joinM (hK : X.K = C.G.K) : MtR X "str.join" (rM C.G joinM) := by
  intro pins s σ H x xs v us Q I rx rs h
  obtain ⟨F, d, ds, S, b1, r, p⟩ := h
  unfold joinM at p
  split at p
  · obtain ⟨u, rfl, b2⟩ := pair1 r
    unfold joinD at p
    split at p
    · rename_i z xs
      split at p
      · rename_i ys hy
        split at p
        · rename_i hz
          obtain ⟨ea, ka⟩ := bor_str b1
          obtain ⟨p', vs, e', q, rr⟩ := bor_lst S b2
          obtain ⟨ev, kv⟩ := strs_rep hy rr
          rw [ev, ← hK] at q
          refine mt_join pins s σ H x _ v us Q I rx rs ⟨_, p', ys.map toS, ea, by rw [e'], .inl q, ?_, ?_⟩
          · have l1 : (⟨z.toArray⟩ : Str).length = z.length := List.size_toArray
            rw [l1, List.length_map]
            have : (ys.map toS).map (·.length) = ys.map (·.length) := SX.lens ys
            rw [this]
            exact (sz_is ▸ hz)
          · have : Txt.join (⟨z.toArray⟩ : Str) (ys.map toS) = ⟨(TL.joinL z ys).toArray⟩ := SX.join_S z ys
            rw [this]
            exact p.str S (okS_join ka kv)
        · exact p.elim
      · exact p.elim
    · exact p.elim
  · exact p.elim
theorem s_join (v : Pq X C W) (ho : PE X a (tB C W fa)) (ha : PA X [e] (tAB C W fs))
    (hbase : attributeBase a "join" X.env (eval a X.env) = eval a X.env := by rfl)
    (hfew : ((backTo pos (starEach [e] X.env)).all (fun x => !x.1) && (backToKw pos (keywordEach [] X.env)).all (fun x => x.1.isSome)
      && decide (([e] : List Expr).length + ([] : List Keyword).length + (if ([] : List Keyword).isEmpty then 0 else 1) < 30)) = true := by rfl)
    (hline : (apos.endLine == pos.line) = true := by rfl) (hs : starEach [e] X.env = (false, eval e X.env) :: starEach [] X.env := by rfl) (hplain : (backTo pos (starEach [] X.env)).any (·.1) = false := by rfl) :
    PE X (.Call (.Attribute a "join" apos) [e] [] pos) (tD C W (eM "str" joinM fa fs)) :=
  s_me v (.inl rfl) joinM_ne PySem.F.plainAttrs_str PySem.F.slot_str_join PySem.F.type_str_join (mt_joinM v.K) ho ha hbase hfew hline hs hplain
/-- x.index(y), a text -/
def idxS (x : D) : List D → R D
  | [y] => match x, y with
    | .str z, .str [c] => if c ∈ z then .ok (.int (z.findIdx (· == c) : Nat)) else .bad
    | _, _ => .bad
  | _ => .bad
theorem idxS_ne : NoExM idxS := fun x xs c vs h => by
  unfold idxS at h
  split at h
  · split at h <;> first | cases h | (split at h <;> cases h)
  · cases h
theorem mt_idxS : MtR X "str.index" (rM C.G idxS) := by
  intro pins s σ H x xs v us Q I rx rs h
  obtain ⟨F, d, ds, S, b1, r, p⟩ := h
  unfold idxS at p
  split at p
  · obtain ⟨u, rfl, b2⟩ := pair1 r
    split at p
    · rename_i z c
      split at p
      · rename_i hc
        obtain ⟨rfl, ka⟩ := bor_str b1
        obtain ⟨rfl, kb⟩ := bor_str b2
        obtain ⟨t, rfl⟩ := rx
        obtain ⟨u', rfl, t', rfl⟩ := Vals.one rs
        have e1 : (⟨#[c]⟩ : Str) = ⟨[c].toArray⟩ := rfl
        rcases StrLaws.occ_head (⟨z.toArray⟩ : Str) ⟨#[c]⟩ 1 (Nat.le_refl 1) with ⟨_, hn⟩ | ⟨i, r, hi, hat, hno⟩
        · exfalso
          obtain ⟨i, hi⟩ := List.mem_iff_getElem?.mp hc
          exact hn i ((StrLaws.subAt_one _ c i).mpr (by simpa using hi))
        · have hat' : z[i]? = some c := by simpa using (StrLaws.subAt_one _ c i).mp hat
          have hno' : ∀ k, k < i → z[k]? ≠ some c := fun k hk e => hno k hk ((StrLaws.subAt_one _ c k).mpr (by simpa using e))
          have hidx : z.findIdx (· == c) = i := by
            obtain ⟨hl, e⟩ := List.getElem?_eq_some_iff.mp hat'
            refine (List.findIdx_eq hl).mpr ⟨by simp [e], fun j hj => ?_⟩
            have := hno' j hj
            rw [List.getElem?_eq_getElem (by omega)] at this
            simpa using fun z => this (by rw [z])
          rw [hidx] at p
          exact PySem.SC.index hi ⟨.int (i : Nat), H, I.tok _, ⟨_, rfl⟩, p.int S⟩
      · exact p.elim
    · exact p.elim
  · exact p.elim
/-- x.index(y), a list -/
def idxL (x : D) : List D → R D
  | [y] => match x with
    | .lst zs => if depL zs ≤ 63 ∧ dep y ≤ 64 then (if zs.any (fun z => eqv z y) then .ok (.int (zs.findIdx (fun z => eqv z y) : Nat)) else .bad) else .bad
    | _ => .bad
  | _ => .bad
theorem idxL_ne : NoExM idxL := fun x xs c vs h => by
  unfold idxL at h
  split at h
  · split at h
    · split at h
      · split at h <;> cases h
      · cases h
    · cases h
  · cases h
theorem pyL_get : ∀ (ds : List D) (j : Nat), (pyL ds)[j]? = (ds[j]?).map py
  | [], j => by simp [pyL]
  | d :: ds, 0 => by simp [pyL]
  | d :: ds, j + 1 => by simpa [pyL] using pyL_get ds j
theorem depL_mem : ∀ {ds : List D} {d : D}, d ∈ ds → dep d ≤ depL ds
  | [], d, h => by cases h
  | x :: ds, d, h => by
    unfold depL
    rcases List.mem_cons.mp h with e | e
    · subst e; omega
    · have := depL_mem e; omega
theorem mt_idxL (v : Pq X C W) : MtR X "list.index" (rM C.G idxL) := by
  intro pins s σ H x xs u us Q I rx rs h
  obtain ⟨F, d, ds, S, b1, r, p⟩ := h
  unfold idxL at p
  split at p
  · rename_i y
    obtain ⟨w, rfl, b2⟩ := pair1 r
    split at p
    · rename_i zs
      split at p
      · rename_i hz
        split at p
        · rename_i ha
          obtain ⟨a1, a2⟩ := bor_dp v.K S (d := .lst zs) (by unfold dep; omega) b1
          obtain ⟨c1, c2⟩ := bor_dp v.K S hz.2 b2
          obtain ⟨ad, vs, rfl, _, _⟩ := bor_lst S b1
          unfold py at a1 a2
          obtain ⟨z, hzm, hze⟩ := List.any_eq_true.mp ha
          have hlt : zs.findIdx (fun z => eqv z y) < zs.length := List.findIdx_lt_length_of_exists ⟨z, hzm, hze⟩
          refine mt_indexD v.hu pins s σ H _ _ u us Q I rx rs ⟨ad, w, py y, pyL zs, zs.findIdx (fun z => eqv z y), py (zs[zs.findIdx (fun z => eqv z y)]), rfl, rfl, a1, c1, a2, c2, ?_, ?_, fun m z' hm he => ?_, p.int S⟩
          · rw [pyL_get, List.getElem?_eq_getElem hlt]
            rfl
          · rw [py_eqv _ _ (Nat.le_trans (depL_mem (List.getElem_mem hlt)) (by omega)) hz.2]
            exact List.findIdx_getElem (w := hlt)
          · rw [pyL_get, List.getElem?_eq_getElem (by omega)] at he
            cases he
            rw [py_eqv _ _ (Nat.le_trans (depL_mem (List.getElem_mem _)) (by omega)) hz.2]
            simpa using List.not_of_lt_findIdx hm
        · exact p.elim
      · exact p.elim
    · exact p.elim
  · exact p.elim
theorem s_idxS (v : Pq X C W) (ho : PE X a (tB C W fa)) (ha : PA X [e] (tAB C W fs))
    (hbase : attributeBase a "index" X.env (eval a X.env) = eval a X.env := by rfl)
    (hfew : ((backTo pos (starEach [e] X.env)).all (fun x => !x.1) && (backToKw pos (keywordEach [] X.env)).all (fun x => x.1.isSome)
      && decide (([e] : List Expr).length + ([] : List Keyword).length + (if ([] : List Keyword).isEmpty then 0 else 1) < 30)) = true := by rfl)
    (hline : (apos.endLine == pos.line) = true := by rfl) (hs : starEach [e] X.env = (false, eval e X.env) :: starEach [] X.env := by rfl) (hplain : (backTo pos (starEach [] X.env)).any (·.1) = false := by rfl) :
    PE X (.Call (.Attribute a "index" apos) [e] [] pos) (tD C W (eM "str" idxS fa fs)) :=
  s_me v (.inl rfl) idxS_ne PySem.F.plainAttrs_str PySem.F.slot_str_index PySem.F.type_str_index mt_idxS ho ha hbase hfew hline hs hplain
theorem s_idxL (v : Pq X C W) (ho : PE X a (tB C W fa)) (ha : PA X [e] (tAB C W fs))
    (hbase : attributeBase a "index" X.env (eval a X.env) = eval a X.env := by rfl)
    (hfew : ((backTo pos (starEach [e] X.env)).all (fun x => !x.1) && (backToKw pos (keywordEach [] X.env)).all (fun x => x.1.isSome)
      && decide (([e] : List Expr).length + ([] : List Keyword).length + (if ([] : List Keyword).isEmpty then 0 else 1) < 30)) = true := by rfl)
    (hline : (apos.endLine == pos.line) = true := by rfl) (hs : starEach [e] X.env = (false, eval e X.env) :: starEach [] X.env := by rfl) (hplain : (backTo pos (starEach [] X.env)).any (·.1) = false := by rfl) :
    PE X (.Call (.Attribute a "index" apos) [e] [] pos) (tD C W (eM "list" idxL fa fs)) :=
  s_me v (.inr rfl) idxL_ne PySem.F.plainAttrs_list PySem.F.slot_list_index PySem.F.type_list_index (mt_idxL v) ho ha hbase hfew hline hs hplain
end
end
end Z
namespace Z
noncomputable section
open PySem PySem.Spec PySem.P PyProof.Rows L2

/-! ### own objects changed -/
theorem StR.upOw {C : CT} {F H : Hp} {s : SS} {σ : L2.St} {i : Nat} {d d' : D} {a : Addr} {o : HO} (S : StR C F H s σ) (hs : s[i]? = some (.ow d)) (hσ : σ[i]? = some (some (.ref a))) (r : OwR C.G F (upd H a o) a d') : StR C F (upd H a o) (s.set i (.ow d')) σ := by
  have hi : i < s.length := (List.getElem?_eq_some_iff.mp hs).1
  obtain ⟨b, h1, h2, h3, h4⟩ := S.ow i d (.inl hs)
  rw [hσ] at h1
  cases h1
  have other : ∀ (j : Nat) (e : D) (b : Addr), j ≠ i → s[j]? = some (.ow e) ∨ s[j]? = some (.lk e) → σ[j]? = some (some (.ref b)) → b ≠ a := fun j e b hj q2 q3 z => by
    subst z
    exact hj (S.dis j i e d b q2 (.inl hs) q3 hσ)
  refine ⟨⟨S.ext.ff, fun b u e => ?_, fun b u e => ?_, S.ext.ow⟩, by rw [List.length_set]; exact S.len, fun j e q => ?_, fun j e q => ?_, fun j k e e' b q1 q2 q3 q4 => ?_⟩
  · rw [upd_ne (ne_of_none e h2)]
    exact S.ext.hh _ _ e
  · rw [upd_ne (ne_of_none e h3)]
    exact S.ext.fh _ _ e
  · by_cases hij : i = j
    · subst hij
      rw [List.getElem?_set_self hi] at q
      cases q
    · rw [List.getElem?_set_ne hij] at q
      exact S.sh j e q
  · by_cases hij : i = j
    · subst hij
      rw [List.getElem?_set_self hi] at q
      rcases q with q | q
      · cases q
        exact ⟨a, hσ, h2, h3, r⟩
      · cases q
    · rw [List.getElem?_set_ne hij] at q
      obtain ⟨b, e1, e2, e3, e4⟩ := S.ow j e q
      have hb := other j e b (Ne.symm hij) q e1
      exact ⟨b, e1, e2, e3, e4.mono (Same.refl F) fun u z => by rw [upd_ne hb]; exact z⟩
  · by_cases hij : i = j
    · by_cases hik : i = k
      · exact hij.symm.trans hik
      · subst hij
        rw [List.getElem?_set_ne hik] at q2
        rw [hσ] at q3
        cases q3
        exact (other k e' _ (Ne.symm hik) q2 q4 rfl).elim
    · rw [List.getElem?_set_ne hij] at q1
      by_cases hik : i = k
      · subst hik
        rw [hσ] at q4
        cases q4
        exact (other j e _ (Ne.symm hij) q1 q3 rfl).elim
      · rw [List.getElem?_set_ne hik] at q2
        exact S.dis j k e e' b q1 q2 q3 q4
theorem lk_ow {s : SS} {σ : L2.St} {i : Nat} {d d' : D} (hs : s[i]? = some (.ow d)) : Lk s σ (s.set i (.ow d')) σ := fun j e q => by
  have hij : i ≠ j := fun z => by subst z; rw [hs] at q; cases q
  rw [List.getElem?_set_ne hij]
  exact ⟨⟨_, q, .inl rfl⟩, rfl⟩
def owL (s : SS) (i : Nat) : Option (List D) := match s[i]? with
  | some (.ow (.lst xs)) => some xs
  | _ => none
theorem owL_some {s : SS} {i : Nat} {xs : List D} (h : owL s i = some xs) : s[i]? = some (.ow (.lst xs)) := by
  unfold owL at h
  split at h
  · rename_i e
    cases h
    exact e
  · cases h
section
variable {X : Cx} {C : CT} {W : WX} {a b c e : Expr} {es : List Expr} {fa fb fc fe f : SS → R D} {pos pos' p p2 apos : Pos} {fs : SS → R (List D)} {x y : Str} {i j : Nat}
/-- x.append(e), x own: f makes the new items -/
def sMut (i : Nat) (fe : SS → R D) (g : List D → D → R (List D)) : SS → RS := fun s => match owL s i with
  | some xs => sE fe (fun d s => match g xs d with
    | .ok ys => if ys.length ≤ SZ then .nx (s.set i (.ow (.lst ys))) else .bad
    | _ => .bad) s
  | none => .bad
def gApp (xs : List D) (d : D) : R (List D) := .ok (xs ++ [d])
def sApp (i : Nat) (fe : SS → R D) : SS → RS := sMut i fe gApp
theorem post_mut {F H : Hp} {sd : SS} {σ : L2.St} {En : Ends} {g : List D → D → R (List D)} {P : Hp → Hp → D → V → Prop} {Q : VK} {xs : List D} (S : StR C F H sd σ) (hx : owL sd i = some xs) (h : PostS C W F sd σ En (sMut i fe g sd))
    (hk : ∀ d v F1 H1 a vs ys, Ext F H F1 H1 → P F1 H1 d v → σ[i]? = some (some (.ref a)) → F1 a = none → H1 a = some (.lst vs) → RepL C.G F1 xs vs → g xs d = .ok ys → ys.length ≤ SZ →
      (∀ us, RepL C.G F1 ys us → En.nx σ (upd H1 a (.lst us))) → Q v H1) : PostE C W F H σ P Q (fe sd) := by
  unfold sMut at h
  rw [hx] at h
  refine postS_E S h fun d v F1 H1 e1 p1 h1 => ?_
  cases q : g xs d with
  | ok ys =>
    rw [q] at h1
    dsimp only at h1
    split at h1
    · rename_i hz
      have S1 := S.mono e1
      have ho := owL_some hx
      obtain ⟨a, e2, e3, e4, vs, e5, e6⟩ := S1.ow i _ (.inl ho)
      refine hk d v F1 H1 a vs ys e1 p1 e2 e4 e5 e6 q hz fun us r => ?_
      exact h1 F1 _ σ (S1.upOw ho e2 ⟨us, upd_same, r⟩) e1.ff (lk_ow ho)
    · exact h1.elim
  | ex c vs => rw [q] at h1; exact h1.elim
  | bad => rw [q] at h1; exact h1.elim
theorem mut_slot {F H : Hp} {sd : SS} {σ : L2.St} {En : Ends} {g : List D → D → R (List D)} (S : StR C F H sd σ) (h : PostS C W F sd σ En (sMut i fe g sd)) : ∃ xs a vs, owL sd i = some xs ∧ σ[i]? = some (some (.ref a)) ∧ H a = some (.lst vs) := by
  cases q : owL sd i with
  | none => unfold sMut at h; rw [q] at h; exact h.elim
  | some xs =>
    obtain ⟨a, e2, e3, e4, vs, e5, e6⟩ := S.ow i _ (.inl (owL_some q))
    exact ⟨xs, a, vs, rfl, e2, e5⟩
theorem s_app (i : Nat) (he : PE X e (tD C W fe)) (hN : X.N[i]? = some x := by rfl) (hv : Vis X.env.scope x := by first | exact Or.inl rfl | exact Or.inr (Or.inl rfl) | exact Or.inr (Or.inr rfl)) (hd : (x == ("__debug__" : Str)) = false := by decide)
    (hcd : (x == ("__classdict__" : Str)) = false := by decide)
    (hbase : attributeBase (.Name x p) "append" X.env (eval (.Name x p) X.env) = eval (.Name x p) X.env := by rfl)
    (hfew : ((backTo pos (starEach [e] X.env)).all (fun x => !x.1) && (backToKw pos (keywordEach [] X.env)).all (fun x => x.1.isSome)
      && decide (([e] : List Expr).length + ([] : List Keyword).length + (if ([] : List Keyword).isEmpty then 0 else 1) < 30)) = true := by rfl)
    (hline : (apos.endLine == pos.line) = true := by rfl) (hs : starEach [e] X.env = (false, eval e X.env) :: starEach [] X.env := by rfl) (hplain : (backTo pos (starEach [] X.env)).any (·.1) = false := by rfl)
    (hsw : swapsWith (.Call (.Attribute (.Name x p) "append" apos) [e] [] pos) none pos'.line X.env = pure false := by rfl) :
    PS X (.Expr (.Call (.Attribute (.Name x p) "append" apos) [e] [] pos) pos') (tS C W (sApp i fe)) := by
  refine ps_imp (ps_expr (pe_bm PySem.F.plainAttrs_list PySem.F.slot_list_append PySem.F.type_list_append mt_append (pe_var (i := i) hN hv hd hcd) (pa_cons he pa_nil hs) hbase hfew hline hs hplain) hsw) fun En σ H ⟨F, sd, S, h⟩ => ?_
  obtain ⟨xs, a, vs, hx, e2, e5⟩ := mut_slot S h
  refine ⟨_, e2, .inl ⟨rfl, vs, SqL.of e5⟩, F, sd, S, post_mut S hx h fun d u F1 H1 a' vs' ys e1 p1 e2' fa e5' r hg hz hn => ?_⟩
  rw [e2] at e2'
  cases e2'
  cases hg
  refine ⟨a, vs', u, rfl, rfl, e5', ?_, hn _ (r.append (RepL.cons p1 RepL.nil))⟩
  have hz : (xs ++ [d]).length ≤ 16777216 := (sz_is ▸ hz)
  rw [r.length, sizeLine_eq]
  rw [List.length_append, List.length_singleton] at hz
  omega
/-- x.extend(e), e a new list -/
def gExt (xs : List D) (d : D) : R (List D) := match d with
  | .lst ys => .ok (xs ++ ys)
  | _ => .bad
def sExt (i : Nat) (fe : SS → R D) : SS → RS := sMut i fe gExt
theorem s_ext (i : Nat) (he : PE X e (tF C W fe)) (hN : X.N[i]? = some x := by rfl) (hv : Vis X.env.scope x := by first | exact Or.inl rfl | exact Or.inr (Or.inl rfl) | exact Or.inr (Or.inr rfl)) (hd : (x == ("__debug__" : Str)) = false := by decide)
    (hcd : (x == ("__classdict__" : Str)) = false := by decide)
    (hbase : attributeBase (.Name x p) "extend" X.env (eval (.Name x p) X.env) = eval (.Name x p) X.env := by rfl)
    (hfew : ((backTo pos (starEach [e] X.env)).all (fun x => !x.1) && (backToKw pos (keywordEach [] X.env)).all (fun x => x.1.isSome)
      && decide (([e] : List Expr).length + ([] : List Keyword).length + (if ([] : List Keyword).isEmpty then 0 else 1) < 30)) = true := by rfl)
    (hline : (apos.endLine == pos.line) = true := by rfl) (hs : starEach [e] X.env = (false, eval e X.env) :: starEach [] X.env := by rfl) (hplain : (backTo pos (starEach [] X.env)).any (·.1) = false := by rfl)
    (hsw : swapsWith (.Call (.Attribute (.Name x p) "extend" apos) [e] [] pos) none pos'.line X.env = pure false := by rfl) :
    PS X (.Expr (.Call (.Attribute (.Name x p) "extend" apos) [e] [] pos) pos') (tS C W (sExt i fe)) := by
  refine ps_imp (ps_expr (pe_bm PySem.F.plainAttrs_list PySem.F.slot_list_extend PySem.F.type_list_extend mt_extend (pe_var (i := i) hN hv hd hcd) (pa_cons he pa_nil hs) hbase hfew hline hs hplain) hsw) fun En σ H ⟨F, sd, S, h⟩ => ?_
  obtain ⟨xs, a, vs, hx, e2, e5⟩ := mut_slot S h
  refine ⟨_, e2, .inl ⟨rfl, vs, SqL.of e5⟩, F, sd, S, post_mut (P := pF C H) S hx h fun d u F1 H1 a' vs' ys e1 p1 e2' fa e5' r hg hz hn => ?_⟩
  rw [e2] at e2'
  cases e2'
  obtain ⟨b, rfl, hb, fb, ow⟩ := p1
  unfold gExt at hg
  split at hg
  · cases hg
    obtain ⟨us, e6, r6⟩ := ow
    refine ⟨a, b, vs', us, rfl, rfl, e5', e6, ?_, hn _ (r.append r6)⟩
    rw [r.length, r6.length, ← List.length_append]
    exact sz_line hz
  · cases hg
/-- y = x.pop(), x own -/
def sPop (i j : Nat) : SS → RS := fun s => match owL s i with
  | some xs => (match xs.getLast? with
    | some d => optS (setS (s.set i (.ow (.lst xs.dropLast))) j (.sh d))
    | none => .bad)
  | none => .bad
theorem s_pop (i j : Nat) (hNd : X.N.Nodup) (hN : X.N[i]? = some x := by rfl) (hv : Vis X.env.scope x := by first | exact Or.inl rfl | exact Or.inr (Or.inl rfl) | exact Or.inr (Or.inr rfl))
    (hj : X.N[j]? = some y := by rfl) (hy : Loc X.env.scope y := by first | exact Or.inl rfl | exact Or.inr rfl)
    (hd : (x == ("__debug__" : Str)) = false := by decide) (hcd : (x == ("__classdict__" : Str)) = false := by decide)
    (hbase : attributeBase (.Name x p) "pop" X.env (eval (.Name x p) X.env) = eval (.Name x p) X.env := by rfl) (hline : (apos.endLine == pos.line) = true := by rfl)
    (hsw : swapsWith (.Call (.Attribute (.Name x p) "pop" apos) [] [] pos) (some (.Name y p2)) pos'.line X.env = pure false := by rfl)
    (hf : X.fn y = true ∨ X.env.scope.names.lookup y = some .local := by first | exact .inl rfl | exact .inr rfl) :
    PS X (.Assign [.Name y p2] (.Call (.Attribute (.Name x p) "pop" apos) [] [] pos) pos') (tS C W (sPop i j)) := by
  refine ps_imp (ps_set (i := j) hNd hj hy (pe_bm0 PySem.F.plainAttrs_list PySem.F.slot_list_pop PySem.F.type_list_pop mt_pop (pe_var (i := i) hN hv hd hcd) hbase hline) hsw hf) fun En σ H ⟨F, sd, S, h⟩ => ?_
  unfold sPop at h
  split at h
  · rename_i xs hx
    have ho := owL_some hx
    obtain ⟨a, e2, e3, e4, vs, e5, r⟩ := S.ow i _ (.inl ho)
    split at h
    · rename_i d hd'
      cases q : setS (sd.set i (.ow (.lst xs.dropLast))) j (.sh d) with
      | none => rw [q] at h; exact h.elim
      | some s' =>
        rw [q] at h
        have hl : xs[xs.length - 1]? = some d := by rw [← List.getLast?_eq_getElem?]; exact hd'
        obtain ⟨u, h1, h2⟩ := r.get hl
        have r' : RepL C.G F xs.dropLast vs.dropLast := by
          rw [List.dropLast_eq_take, List.dropLast_eq_take, r.length]
          exact r.take _
        refine ⟨_, e2, .inl ⟨rfl, vs, SqL.of e5⟩, a, vs, u, rfl, rfl, e5, by rw [r.length]; exact h1, ?_⟩
        have S1 := S.upOw (o := .lst vs.dropLast) (d' := .lst xs.dropLast) ho e2 ⟨_, upd_same, r'⟩
        exact h F _ _ (S1.setSh q h2) (Same.refl F) ((lk_ow ho).trans (lk_set q))
    · exact h.elim
  · exact h.elim
end

/-! ### defs -/
/-- what a def gives -/
def PostC (G : GE) (F H : Hp) (Q : VK) (E : XK) (fr : Bool) : R D → Prop
  | .ok d => if fr = true then ∀ a F' H', Ext F H F' H' → H a = none → F' a = none → OwR G F' H' a d → Q (.ref a) H' else ∀ v F' H', Ext F H F' H' → Rep G F' d v → Q v H'
  | .ex c vs => ∀ cls dx F' H', Ext F H F' H' → XR G F' c vs cls dx → E cls dx H'
  | .bad => False
/-- the promise: the def gives what g tells of its arguments; fr: a new object -/
def spD (G : GE) (n : Nat) (g : List D → R D) (fr : Bool) : Sp := fun vs H Q E => ∃ F ds, Same F H ∧ ds.length = n ∧ RepL G F ds vs ∧ PostC G F H Q E fr (g ds)
/-- a body run -/
def runB (fr : Bool) (m : Nat) (f : SS → RS) (ds : List D) : R D := match f (ds.map Sl.sh ++ List.replicate (m - ds.length) .no) with
  | .nx _ => if fr = true then .bad else .ok .non
  | .rt b d => if b = fr then .ok d else .bad
  | .ex c vs _ => .ex c vs
  | _ => .bad
/-- a def that is known -/
structure Kn (P : Program) (w : World) (K : PySem.W.Frag) (mg : Str → Option Value) (base : Heap) (G : GE) (x : Str) (n : Nat) (g : List D → R D) (fr : Bool) (k : Nat) : Prop where
  ex : ∃ f fd ps, FnOk P w K mg base (L2.CX P w) k f fd ps (spD G n g fr) ∧ mg x = some (.ref f) ∧ PySem.W.keepIn K (.ref f) = true ∧ Binds K fd ps []
section
variable {X : Cx} {C : CT} {W : WX} {a b c e : Expr} {es : List Expr} {fa fb fc fe f : SS → R D} {pos pos' p p2 apos : Pos} {fs : SS → R (List D)} {x y : Str} {n k : Nat} {g : List D → R D}
theorem call_ok {F H : Hp} {σ : L2.St} {Q : VK} {ds : List D} {fr : Bool} (h : PostE C W F H σ (if fr = true then pF C H else pD C) Q (g ds)) : PostC C.G F H Q (WE W σ) fr (g ds) := by
  cases q : g ds with
  | ok d =>
    rw [q] at h
    cases fr with
    | true =>
      rw [if_pos rfl] at h
      unfold PostC
      dsimp only
      rw [if_pos rfl]
      exact fun a F' H' e h1 h2 h3 => h _ F' H' e ⟨a, rfl, h1, h2, h3⟩
    | false =>
      rw [if_neg Bool.false_ne_true] at h
      unfold PostC
      dsimp only
      rw [if_neg Bool.false_ne_true]
      exact h
  | ex c vs => rw [q] at h; exact h
  | bad => rw [q] at h; exact h
theorem s_call (v : Pq X C W) (F : Kn X.prog X.w X.K X.mg X.base C.G x n g false k) (hr : Room k X.A) (hg : Gl X x) (hn : ∀ s ds, fs s = .ok ds → ds.length = n) (ha : PA X (a :: es) (tA C W fs)) (hdb : (x == ("__debug__" : Str)) = false := by decide)
    (he : starEach (a :: es) X.env = (false, eval a X.env) :: starEach es X.env := by rfl) (hpl : (backTo pos (starEach es X.env)).any (·.1) = false := by rfl) : PE X (.Call (.Name x p) (a :: es) [] pos) (tD C W (eCall g fs)) := by
  obtain ⟨f, fd, ps, F1, F2, F3, F4⟩ := F.ex
  refine pe_imp (pe_callS F1 hr hg F2 F3 F4 (fun σ => passAt v.tk σ) ha hdb he hpl) fun σ H Q ⟨F, sd, S, h⟩ => ?_
  refine ⟨F, sd, S, ?_⟩
  unfold eCall at h
  cases q : fs sd with
  | ok ds =>
    rw [q] at h
    exact fun vs F' H' e r => ⟨F', ds, e.fh, hn sd ds q, pairL r, call_ok (fr := false) (PostE.ext e h)⟩
  | ex c vs => rw [q] at h; exact h
  | bad => rw [q] at h; exact h
theorem s_callF (v : Pq X C W) (F : Kn X.prog X.w X.K X.mg X.base C.G x n g true k) (hr : Room k X.A) (hg : Gl X x) (hn : ∀ s ds, fs s = .ok ds → ds.length = n) (ha : PA X (a :: es) (tA C W fs)) (hdb : (x == ("__debug__" : Str)) = false := by decide)
    (he : starEach (a :: es) X.env = (false, eval a X.env) :: starEach es X.env := by rfl) (hpl : (backTo pos (starEach es X.env)).any (·.1) = false := by rfl) : PE X (.Call (.Name x p) (a :: es) [] pos) (tF C W (eCall g fs)) := by
  obtain ⟨f, fd, ps, F1, F2, F3, F4⟩ := F.ex
  refine pe_imp (pe_callS F1 hr hg F2 F3 F4 (fun σ => passAt v.tk σ) ha hdb he hpl) fun σ H Q ⟨F, sd, S, h⟩ => ?_
  refine ⟨F, sd, S, ?_⟩
  unfold eCall at h
  cases q : fs sd with
  | ok ds =>
    rw [q] at h
    refine fun vs F' H' e r => ⟨F', ds, e.fh, hn sd ds q, pairL r, call_ok (fr := true) ?_⟩
    rw [if_pos rfl]
    exact PostE.imp (PostE.ext e h) fun _ _ _ _ _ ⟨a, h1, h2, h3⟩ => ⟨a, h1, e.hh.free h2, h3⟩
  | ex c vs => rw [q] at h; exact h
  | bad => rw [q] at h; exact h
/-- how many arguments -/
theorem n_nil : ∀ s ds, aNil s = .ok ds → ds.length = 0 := fun s ds h => by cases h; rfl
theorem n_cons (h : ∀ s ds, fs s = .ok ds → ds.length = n) : ∀ s ds, aCons fa fs s = .ok ds → ds.length = n + 1 := fun s ds q => by
  unfold aCons at q
  cases k : fa s with
  | ok d =>
    cases k2 : fs s with
    | ok es =>
      simp only [k, k2, R.bind] at q
      cases q
      simp [h s es k2]
    | ex c vs => simp only [k, k2, R.bind] at q; cases q
    | bad => simp only [k, k2, R.bind] at q; cases q
  | ex c vs => simp only [k, R.bind] at q; cases q
  | bad => simp only [k, R.bind] at q; cases q
end
theorem start_str {C : CT} {F H : Hp} {ds : List D} {vs : List V} {N : List Str} (hC : C.F0 = F ∧ C.H0 = H) (s : Same F H) (r : RepL C.G F ds vs) (hn : ds.length ≤ N.length) : StR C F H (ds.map Sl.sh ++ List.replicate (N.length - ds.length) .no) (L2.start N vs) := by
  obtain ⟨rfl, rfl⟩ := hC
  have hl := r.length
  have no : ∀ {i : Nat} {x : Sl}, x ≠ .no → (∀ d, x ≠ .sh d) → (ds.map Sl.sh ++ List.replicate (N.length - ds.length) Sl.no)[i]? ≠ some x := fun {i x} h1 h2 e => by
    by_cases hi : i < ds.length
    · rw [List.getElem?_append_left (by simpa using hi), List.getElem?_map, List.getElem?_eq_getElem hi] at e
      cases e
      exact h2 _ rfl
    · rw [List.getElem?_append_right (by simpa using hi), List.getElem?_replicate] at e
      split at e <;> cases e
      exact h1 rfl
  refine ⟨Ext.refl s, ?_, fun i d h => ?_, fun i d h => ?_, fun i j d e a h => ?_⟩
  · unfold L2.start
    simp only [List.length_append, List.length_map, List.length_replicate]
    omega
  · by_cases hi : i < ds.length
    · rw [List.getElem?_append_left (by simpa using hi), List.getElem?_map, List.getElem?_eq_getElem hi] at h
      cases h
      obtain ⟨v, h1, h2⟩ := r.get (List.getElem?_eq_getElem hi)
      refine ⟨v, ?_, h2⟩
      unfold L2.start
      rw [List.getElem?_append_left (by simpa [hl] using hi), List.getElem?_map, h1]
      rfl
    · rw [List.getElem?_append_right (by simpa using hi), List.getElem?_replicate] at h
      split at h <;> cases h
  · rcases h with h | h
    · exact (no (by intro z; cases z) (fun d z => by cases z) h).elim
    · exact (no (by intro z; cases z) (fun d z => by cases z) h).elim
  · rcases h with h | h
    · exact (no (by intro z; cases z) (fun d z => by cases z) h).elim
    · exact (no (by intro z; cases z) (fun d z => by cases z) h).elim
/-- THE RULE for a def -/
theorem fn_ok {P : Program} {w : World} {K : PySem.W.Frag} {mg : Str → Option Value} {base : Heap} {G : GE} {x qual : Str} {st : Stmt} {f : Addr} {fd : FuncData} {N ps : List Str} {k : Nat} {g : List D → R D} {fr : Bool} {body : SS → RS}
    (Fu : Fun K x qual st f fd) (S : FnScope N ps (defScope st)) (hK : K = G.K) (hN : ps.length ≤ N.length)
    (hb : ∀ (cdv : Value) (A : Around) (outer : List PySem.Env) (s : Shared) (H F : Hp) (E : XK), Room k (A.deeper (envOfC qual (defScope st) s.heap.objs.size f cdv)) →
      Pl (cxOf (L2.CX P w) P w K mg base N qual (defScope st) f cdv A outer s H E) ⟨G, F, H⟩ (fun cls d _ H => E cls d H) →
      PSs (cxOf (L2.CX P w) P w K mg base N qual (defScope st) f cdv A outer s H E) (defBody st) (tS ⟨G, F, H⟩ (fun cls d _ H => E cls d H) body))
    (hg : ∀ ds, ds.length = ps.length → g ds ≠ .bad → runB fr N.length body ds = g ds) : FnOk P w K mg base (L2.CX P w) (k + 1) f fd ps (spD G ps.length g fr) := by
  refine Fu.okX S (fun vs H Q E h => ?_) (fun cdv A outer s H vs Q E hr h => ?_)
  · obtain ⟨F, ds, _, hl, r, _⟩ := h
    rw [r.length, hl]
  · obtain ⟨F, ds, sm, hl, r, h⟩ := h
    have tk : Takes (cxOf (L2.CX P w) P w K mg base N qual (defScope st) f cdv A outer s H E) (fun cls d _ H => E cls d H) := takes_of rfl rfl rfl rfl
    have v : Pl (cxOf (L2.CX P w) P w K mg base N qual (defScope st) f cdv A outer s H E) ⟨G, F, H⟩ (fun cls d _ H => E cls d H) := by
      refine ⟨⟨hK, ?_, tk, ?_⟩, rfl⟩
      · have := hr.un
        show Around.units (A.deeper _) + 65 < _
        omega
      · exact passes_of rfl
    refine ⟨_, hb cdv A outer s H F E hr v, ?_⟩
    refine ⟨F, ds.map Sl.sh ++ List.replicate (N.length - ds.length) .no, start_str (C := ⟨G, F, H⟩) ⟨rfl, rfl⟩ sm r (by omega), ?_⟩
    have hne : g ds ≠ .bad := fun z => by rw [z] at h; exact h
    have hrun := hg ds hl hne
    unfold runB at hrun
    cases q : body (ds.map Sl.sh ++ List.replicate (N.length - ds.length) .no) with
    | nx s' =>
      rw [q] at hrun
      cases fr with
      | true => rw [← hrun] at hne; exact (hne rfl).elim
      | false =>
        have hrun : R.ok D.non = g ds := hrun
        rw [← hrun] at h
        exact fun F' H' σ' S' f' l' => h .non F' H' S'.ext (rep_non.mpr rfl)
    | rt b d =>
      rw [q] at hrun
      have hrun : (if b = fr then R.ok d else .bad) = g ds := hrun
      by_cases hb : b = fr
      · rw [if_pos hb] at hrun
        rw [← hrun] at h
        subst hb
        cases b with
        | true => exact fun a F' H' e f' h1 h2 h3 => h a F' H' e h1 h2 h3
        | false => exact fun u F' H' e f' r' => h u F' H' e r'
      · rw [if_neg hb] at hrun
        rw [← hrun] at hne
        exact (hne rfl).elim
    | ex c vs s' =>
      rw [q] at hrun
      have hrun : R.ex c vs = g ds := hrun
      rw [← hrun] at h
      exact fun cls dx F' H' σ' S' f' l' x => h cls dx F' H' S'.ext x
    | bk s' => rw [q] at hrun; exact (hne hrun.symm).elim
    | ct s' => rw [q] at hrun; exact (hne hrun.symm).elim
    | bad => rw [q] at hrun; exact (hne hrun.symm).elim
theorem kn_mk {P : Program} {w : World} {K : PySem.W.Frag} {mg : Str → Option Value} {base : Heap} {G : GE} {x : Str} {f : Addr} {fd : FuncData} {ps : List Str} {n k : Nat} {g : List D → R D} {fr : Bool} (h : FnOk P w K mg base (L2.CX P w) k f fd ps (spD G n g fr))
    (hm : mg x = some (.ref f)) (hk : PySem.W.keepIn K (.ref f) = true) (hb : Binds K fd ps []) : Kn P w K mg base G x n g fr k := ⟨⟨f, fd, ps, h, hm, hk, hb⟩⟩
end
end Z
namespace Z
noncomputable section
open PySem PySem.Spec PySem.P PyProof.Rows L2
section
variable {X : Cx} {C : CT} {W : WX} {a b c e elt tg iter : Expr} {ifs : List Expr} {es : List Expr} {fa fb fc fe f : SS → R D} {pos pos' p p2 apos py spos : Pos} {fs : SS → R (List D)} {fi : SS → R (List D)} {ft : FG} {vs : List Nat} {x y : Str}
theorem s_add (v : Pq X C W) (ha : PE X a (tB C W fa)) (hb : PE X b (tB C W fb)) : PE X (.BinOp a .Add b pos) (tD C W (eBin addD fa fb)) := s_bin addD_ne (op_addD v.K) ha hb
theorem s_sub (v : Pq X C W) (ha : PE X a (tB C W fa)) (hb : PE X b (tB C W fb)) : PE X (.BinOp a .Sub b pos) (tD C W (eBin subD fa fb)) := s_bin subD_ne op_subD ha hb
theorem s_mul (v : Pq X C W) (ha : PE X a (tB C W fa)) (hb : PE X b (tB C W fb)) : PE X (.BinOp a .Mult b pos) (tD C W (eBin mulD fa fb)) := s_bin mulD_ne (op_mulD v.K) ha hb
theorem s_fdiv (v : Pq X C W) (ha : PE X a (tB C W fa)) (hb : PE X b (tB C W fb)) : PE X (.BinOp a .FloorDiv b pos) (tD C W (eBin fdivD fa fb)) := s_bin fdivD_ne op_fdivD ha hb
theorem s_mod (v : Pq X C W) (ha : PE X a (tB C W fa)) (hb : PE X b (tB C W fb)) : PE X (.BinOp a .Mod b pos) (tD C W (eBin modD fa fb)) := s_bin modD_ne op_modD ha hb
theorem s_pow (v : Pq X C W) (ha : PE X a (tB C W fa)) (hb : PE X b (tB C W fb)) : PE X (.BinOp a .Pow b pos) (tD C W (eBin powD fa fb)) := s_bin powD_ne op_powD ha hb
theorem s_neg (v : Pq X C W) (ha : PE X a (tB C W fa)) : PE X (.UnaryOp .USub a pos) (tD C W (eUn negD fa)) := s_un negD_ne un_negD ha
theorem s_eq (v : Pq X C W) (ha : PE X a (tB C W fa)) (hb : PE X b (tB C W fb)) : PE X (.Compare a [.Eq] [b] pos) (tD C W (eBin eqD fa fb)) := s_cmp eqD_ne (op_eqDD v.K (by have := v.hu; omega)) ha hb
theorem s_ne (v : Pq X C W) (ha : PE X a (tB C W fa)) (hb : PE X b (tB C W fb)) : PE X (.Compare a [.NotEq] [b] pos) (tD C W (eBin neD fa fb)) := s_cmp neD_ne (op_neDD v.K (by have := v.hu; omega)) ha hb
theorem s_lt (v : Pq X C W) (ha : PE X a (tB C W fa)) (hb : PE X b (tB C W fb)) : PE X (.Compare a [.Lt] [b] pos) (tD C W (eBin ltD fa fb)) := s_cmp ltD_ne op_ltD ha hb
theorem s_le (v : Pq X C W) (ha : PE X a (tB C W fa)) (hb : PE X b (tB C W fb)) : PE X (.Compare a [.LtE] [b] pos) (tD C W (eBin leD fa fb)) := s_cmp leD_ne op_leD ha hb
theorem s_gt (v : Pq X C W) (ha : PE X a (tB C W fa)) (hb : PE X b (tB C W fb)) : PE X (.Compare a [.Gt] [b] pos) (tD C W (eBin gtD fa fb)) := s_cmp gtD_ne op_gtD ha hb
theorem s_ge (v : Pq X C W) (ha : PE X a (tB C W fa)) (hb : PE X b (tB C W fb)) : PE X (.Compare a [.GtE] [b] pos) (tD C W (eBin geD fa fb)) := s_cmp geD_ne op_geD ha hb
theorem s_is (v : Pq X C W) (ha : PE X a (tB C W fa)) (hb : PE X b (tB C W fb)) : PE X (.Compare a [.Is] [b] pos) (tD C W (eBin (isN false) fa fb)) := s_cmp isN_ne op_isND ha hb
theorem s_isn (v : Pq X C W) (ha : PE X a (tB C W fa)) (hb : PE X b (tB C W fb)) : PE X (.Compare a [.IsNot] [b] pos) (tD C W (eBin (isN true) fa fb)) := s_cmp isN_ne op_notND ha hb
theorem s_in (v : Pq X C W) (ha : PE X a (tB C W fa)) (hb : PE X b (tB C W fb)) (hm : behindInMarks .In b = false := by with_unfolding_all rfl) : PE X (.Compare a [.In] [b] pos) (tD C W (eBin (inD false) fa fb)) := s_cmp inD_ne (op_inDD v.K v.hu) ha hb hm
theorem s_nin (v : Pq X C W) (ha : PE X a (tB C W fa)) (hb : PE X b (tB C W fb)) (hm : behindInMarks .NotIn b = false := by with_unfolding_all rfl) : PE X (.Compare a [.NotIn] [b] pos) (tD C W (eBin (inD true) fa fb)) := s_cmp inD_ne (op_notInDD v.K v.hu) ha hb hm
theorem t_eq (v : Pq X C W) (ha : PE X a (tB C W fa)) (hb : PE X b (tB C W fb)) : PT X (.Compare a [.Eq] [b] pos) (tT C W (eBin eqD fa fb)) := s_tcmp eqD_ne (op_eqDD v.K (by have := v.hu; omega)) ha hb
theorem t_ne (v : Pq X C W) (ha : PE X a (tB C W fa)) (hb : PE X b (tB C W fb)) : PT X (.Compare a [.NotEq] [b] pos) (tT C W (eBin neD fa fb)) := s_tcmp neD_ne (op_neDD v.K (by have := v.hu; omega)) ha hb
theorem t_lt (v : Pq X C W) (ha : PE X a (tB C W fa)) (hb : PE X b (tB C W fb)) : PT X (.Compare a [.Lt] [b] pos) (tT C W (eBin ltD fa fb)) := s_tcmp ltD_ne op_ltD ha hb
theorem t_le (v : Pq X C W) (ha : PE X a (tB C W fa)) (hb : PE X b (tB C W fb)) : PT X (.Compare a [.LtE] [b] pos) (tT C W (eBin leD fa fb)) := s_tcmp leD_ne op_leD ha hb
theorem t_gt (v : Pq X C W) (ha : PE X a (tB C W fa)) (hb : PE X b (tB C W fb)) : PT X (.Compare a [.Gt] [b] pos) (tT C W (eBin gtD fa fb)) := s_tcmp gtD_ne op_gtD ha hb
theorem t_ge (v : Pq X C W) (ha : PE X a (tB C W fa)) (hb : PE X b (tB C W fb)) : PT X (.Compare a [.GtE] [b] pos) (tT C W (eBin geD fa fb)) := s_tcmp geD_ne op_geD ha hb
theorem t_is (v : Pq X C W) (ha : PE X a (tB C W fa)) (hb : PE X b (tB C W fb)) : PT X (.Compare a [.Is] [b] pos) (tT C W (eBin (isN false) fa fb)) := s_tcmp isN_ne op_isND ha hb
theorem t_isn (v : Pq X C W) (ha : PE X a (tB C W fa)) (hb : PE X b (tB C W fb)) : PT X (.Compare a [.IsNot] [b] pos) (tT C W (eBin (isN true) fa fb)) := s_tcmp isN_ne op_notND ha hb
theorem t_in (v : Pq X C W) (ha : PE X a (tB C W fa)) (hb : PE X b (tB C W fb)) (hm : behindInMarks .In b = false := by with_unfolding_all rfl) : PT X (.Compare a [.In] [b] pos) (tT C W (eBin (inD false) fa fb)) := s_tcmp inD_ne (op_inDD v.K v.hu) ha hb hm
theorem t_nin (v : Pq X C W) (ha : PE X a (tB C W fa)) (hb : PE X b (tB C W fb)) (hm : behindInMarks .NotIn b = false := by with_unfolding_all rfl) : PT X (.Compare a [.NotIn] [b] pos) (tT C W (eBin (inD true) fa fb)) := s_tcmp inD_ne (op_notInDD v.K v.hu) ha hb hm
/-- y = [..], shared -/
theorem s_setcS (v : Pl X C W) (i : Nat) {scope : Scope} {own : List (Str × Nat)} (hN : X.N.Nodup) (hi : PI X tg iter (tI C W fi)) (hv : own.map (·.2) = vs)
    (hg : ∀ (s : Shared) (H : Hp) (Ca : Addr) (cl : List (Str × Addr)) (fp : List Addr), Pl (X.blk s H scope (compEnvC scope cl Ca X.env) fp) C WNo → PG (X.blk s H scope (compEnvC scope cl Ca X.env) fp) tg (tG C ft vs))
    (ht : ∀ (s : Shared) (H : Hp) (Ca : Addr) (cl : List (Str × Addr)) (fp : List Addr), Pl (X.blk s H scope (compEnvC scope cl Ca X.env) fp) C WNo → PTs (X.blk s H scope (compEnvC scope cl Ca X.env) fp) ifs (tT C WNo fc))
    (he : ∀ (s : Shared) (H : Hp) (Ca : Addr) (cl : List (Str × Addr)) (fp : List Addr), Pl (X.blk s H scope (compEnvC scope cl Ca X.env) fp) C WNo → PE (X.blk s H scope (compEnvC scope cl Ca X.env) fp) elt (tD C WNo fe))
    (hy : X.N[i]? = some y := by rfl) (hyl : X.env.scope.names.lookup y = some .local := by rfl)
    (hsw : swapsWith (.ListComp elt [⟨tg, iter, ifs, 0⟩] scope pos) (some (.Name y py)) spos.line X.env = pure true := by exact sw_true rfl rfl rfl (by decide +kernel))
    (ok : BlkOk X.N X.env.scope scope own := by exact blkOk_by (by decide +kernel))
    (hs : ∀ x, foldedSetIterable iter X.env x = pure x := by intro _; rfl) : PS X (.Assign [.Name y py] (.ListComp elt [⟨tg, iter, ifs, 0⟩] scope pos) spos) (tS C W (sSet i (eComp fi ft vs fc fe))) := by
  subst hv
  refine ps_imp (ps_setLc v.calm hN hy hyl hsw hi ok (fun s H Ca cl fp => hg s H Ca cl fp (v.blk ..)) (fun s H Ca cl fp => ht s H Ca cl fp (v.blk ..)) (fun s H Ca cl fp => he s H Ca cl fp (v.blk ..)) hs) fun En σ H ⟨F, sd, S, h⟩ => ?_
  have hsub : sSet i (eComp fi ft (own.map (·.2)) fc fe) sd = sE (eComp fi ft (own.map (·.2)) fc fe) (fun d s => if isDic d = true then .bad else optS (setS s i (.sh d))) sd := by
    unfold sSet sE
    cases q : eComp fi ft (own.map (·.2)) fc fe sd with
    | ok d =>
      have hd : isDic d = false := by
        unfold eComp at q
        cases q1 : fi sd with
        | ok ds =>
          rw [q1] at q
          have q : (match mapD (cStep ft (own.map (·.2)) fc fe sd) ds with
            | .ok xs => if xs.length ≤ SZ then R.ok (D.lst xs) else .bad
            | _ => .bad) = .ok d := q
          split at q
          · split at q
            · cases q; rfl
            · cases q
          · cases q
        | ex c vs => rw [q1] at q; cases q
        | bad => rw [q1] at q; cases q
      dsimp only
      rw [if_neg (by rw [hd]; exact Bool.false_ne_true)]
    | ex c vs => rfl
    | bad => rfl
  rw [hsub] at h
  refine comp_read (W := W) ⟨F, sd, S, postS_E S h fun d u F1 H1 e1 r h1 => ?_⟩
  have hd : isDic d = false := by
    cases z : isDic d with
    | false => rfl
    | true => rw [if_pos z] at h1; exact h1.elim
  rw [if_neg (by rw [hd]; exact Bool.false_ne_true)] at h1
  obtain ⟨q, rfl, hn, hf, ow⟩ := r
  obtain ⟨o, ho⟩ := ow.there
  have s1 : Same F1 (upd F1 q o) := same_new hf
  have s2 : Same (upd F1 q o) H1 := fun b u z => by
    by_cases hb : b = q
    · subst hb; rw [upd_same] at z; cases z; exact ho
    · rw [upd_ne hb] at z; exact e1.fh _ _ z
  have e2 : Ext F H (upd F1 q o) H1 := ⟨e1.ff.trans s1, e1.hh, s2, fun b u h1 h2 => by
    have hb : b ≠ q := fun z => by subst z; rw [hn] at h1; cases h1
    rw [upd_ne hb]
    exact e1.ow b u h1 h2⟩
  have rr : Rep C.G (upd F1 q o) d (.ref q) := ow.rep1 hd s1 fun u z => by rw [ho] at z; cases z; exact upd_same
  cases k : setS sd i (.sh d) with
  | none => rw [k] at h1; exact h1.elim
  | some s' =>
    rw [k] at h1
    exact h1 _ H1 _ ((S.mono e2).setSh k rr) e2.ff (lk_set k)
/-- name op= e -/
def sAug (i : Nat) (g : D → D → R D) (fe : SS → R D) : SS → RS := sE (eBin g (eR i) fe) fun d s => optS (setS s i (.sh d))
end

/-! ### a law's end -/
def fuelP : {n : Nat // n = 1000000000} := Classical.choice ⟨⟨_, rfl⟩⟩
def fuel : Nat := fuelP.1
theorem fuel_is : fuel = 1000000000 := fuelP.2
theorem law_sp {K : PySem.W.Frag} {G : GE} (hK : K = G.K) {n : Nat} {g : List D → R D} (hg : ∀ ns : List Int, ns.length ≤ n → g [.lst (ns.map .int)] = .ok (.bl true)) (H : Hp) (a : Addr) (ns : List Int) (hl : ns.length ≤ n) (hS : SqL K H a (ns.map V.int)) :
    spD G 1 g false [.ref a] H (fun v _ => v = .bl true) (fun _ _ _ => False) := by
  subst hK
  have hr : ∀ ns : List Int, RepL G H (ns.map D.int) (ns.map V.int) := fun ns => by
    induction ns with
    | nil => exact RepL.nil
    | cons i r ih => exact RepL.cons (rep_int.mpr rfl) ih
  refine ⟨H, [.lst (ns.map .int)], Same.refl H, rfl, RepL.cons (rep_lst.mpr ⟨a, _, rfl, hS, hr ns⟩) RepL.nil, ?_⟩
  rw [hg ns hl]
  unfold PostC
  dsimp only
  rw [if_neg Bool.false_ne_true]
  exact fun v F' H' e r => rep_bl.mp r
theorem law_cx {P : Program} {w : World} {H : Hp} {s s' : Shared} {e : Value} (h : L2.CX P w [] H s (fun _ _ _ => False) e s') : False := by
  obtain ⟨_, _, _, _, _, _, _, _, _, _, _, _, z⟩ := h
  exact z
end
end Z
namespace Z
noncomputable section
open PySem PySem.Spec PySem.P PyProof.Rows L2
/-! ### how a meaning runs: equations for the plain side -/
section
variable {f g : SS → RS} {fa fb fc fe : SS → R D} {fs : SS → R (List D)} {s s' : SS} {d x y : D} {A B : Type}
@[simp] theorem R.bind_ok (a : A) (k : A → R B) : (R.ok a).bind k = k a := rfl
@[simp] theorem R.bind_bad (k : A → R B) : (R.bad).bind k = .bad := rfl
@[simp] theorem R.bind_ex (k : A → R B) (c : Nat) (vs : List D) : (R.ex c vs).bind k = .ex c vs := rfl
@[simp] theorem R.bind_ite (p : Prop) [Decidable p] (a b : R A) (k : A → R B) : (if p then a else b).bind k = if p then a.bind k else b.bind k := by split <;> rfl
@[simp] theorem eC_s : eC d s = .ok d := rfl
@[simp] theorem eBin_s (h : D → D → R D) : eBin h fa fb s = (fa s).bind fun x => (fb s).bind fun y => h x y := rfl
@[simp] theorem eUn_s (h : D → R D) : eUn h fa s = (fa s).bind h := rfl
@[simp] theorem eCall_s (h : List D → R D) : eCall h fs s = (fs s).bind h := rfl
@[simp] theorem aNil_s : aNil s = .ok [] := rfl
@[simp] theorem aCons_s : aCons fa fs s = (fa s).bind fun x => (fs s).bind fun xs => .ok (x :: xs) := rfl
def gV : Option Sl → R D
  | some (.sh d) => .ok d
  | _ => .bad
def gR : Option Sl → R D
  | some (.sh d) => .ok d
  | some (.ow d) => .ok d
  | some (.lk d) => .ok d
  | _ => .bad
@[simp] theorem eV_s (i : Nat) : eV i s = gV s[i]? := rfl
@[simp] theorem eR_s (i : Nat) : eR i s = gR s[i]? := rfl
@[simp] theorem gV_sh : gV (some (.sh d)) = .ok d := rfl
@[simp] theorem gR_sh : gR (some (.sh d)) = .ok d := rfl
@[simp] theorem gR_ow : gR (some (.ow d)) = .ok d := rfl
@[simp] theorem gR_lk : gR (some (.lk d)) = .ok d := rfl
def rE (s : SS) (r : R D) (k : D → SS → RS) : RS := match r with
  | .ok d => k d s
  | .ex c vs => .ex c vs s
  | .bad => .bad
@[simp] theorem rE_ok (k : D → SS → RS) : rE s (.ok d) k = k d s := rfl
@[simp] theorem rE_ex (k : D → SS → RS) (c : Nat) (vs : List D) : rE s (.ex c vs) k = .ex c vs s := rfl
@[simp] theorem rE_ite (p : Prop) [Decidable p] (a b : R D) (k : D → SS → RS) : rE s (if p then a else b) k = if p then rE s a k else rE s b k := by split <;> rfl
theorem sE_s (k : D → SS → RS) : sE fe k s = rE s (fe s) k := rfl
/-- a write into a list of slots -/
def canS : Option Sl → Bool
  | some (.lk _) => false
  | some _ => true
  | none => false
theorem setS_s (i : Nat) (z : Sl) : setS s i z = if canS s[i]? = true then some (s.set i z) else none := by
  unfold setS canS
  split <;> simp_all
@[simp] theorem canS_sh : canS (some (.sh d)) = true := rfl
@[simp] theorem canS_ow : canS (some (.ow d)) = true := rfl
@[simp] theorem canS_no : canS (some .no) = true := rfl
@[simp] theorem optS_some : optS (some s) = .nx s := rfl
@[simp] theorem sSet_s (i : Nat) : sSet i fe s = rE s (fe s) fun d s => optS (if canS s[i]? = true then some (s.set i (.sh d)) else none) := by
  unfold sSet
  rw [sE_s]
  congr 1
  funext d s
  rw [setS_s]
@[simp] theorem sSetO_s (i : Nat) : sSetO i fe s = rE s (fe s) fun d s => optS (if canS s[i]? = true then some (s.set i (.ow d)) else none) := by
  unfold sSetO
  rw [sE_s]
  congr 1
  funext d s
  rw [setS_s]
@[simp] theorem sX_s : sX fe s = rE s (fe s) fun _ s => .nx s := rfl
@[simp] theorem sRet_s : sRet fe s = rE s (fe s) fun d _ => .rt false d := rfl
@[simp] theorem sRetF_s : sRetF fe s = rE s (fe s) fun d _ => .rt true d := rfl
@[simp] theorem sRetN_s : sRetN s = .rt false .non := rfl
@[simp] theorem sNx_s : sNx s = .nx s := rfl
@[simp] theorem sBk_s : sBk s = .bk s := rfl
@[simp] theorem sCt_s : sCt s = .ct s := rfl
def bnd (r : RS) (g : SS → RS) : RS := match r with
  | .nx s' => g s'
  | r => r
@[simp] theorem sSeq_s : sSeq f g s = bnd (f s) g := rfl
@[simp] theorem bnd_nx : bnd (.nx s) g = g s := rfl
@[simp] theorem bnd_rt (b : Bool) : bnd (.rt b d) g = .rt b d := rfl
@[simp] theorem bnd_bk : bnd (.bk s) g = .bk s := rfl
@[simp] theorem bnd_ct : bnd (.ct s) g = .ct s := rfl
@[simp] theorem bnd_ex (c : Nat) (vs : List D) : bnd (.ex c vs s) g = .ex c vs s := rfl
@[simp] theorem bnd_ite (p : Prop) [Decidable p] (a b : RS) : bnd (if p then a else b) g = if p then bnd a g else bnd b g := by split <;> rfl
def brS (s : SS) (r : R D) (a b : RS) : RS := match r with
  | .ok (.bl true) => a
  | .ok (.bl false) => b
  | .ex c vs => .ex c vs s
  | _ => .bad
@[simp] theorem sIf_s : sIf fc f g s = brS s (fc s) (f s) (g s) := by
  unfold sIf
  rw [sE_s]
  cases fc s with
  | ok d => cases d with
    | bl b => cases b <;> rfl
    | _ => rfl
  | _ => rfl
@[simp] theorem brS_bl (b : Bool) (p q : RS) : brS s (.ok (.bl b)) p q = if b = true then p else q := by cases b <;> rfl
@[simp] theorem brS_ex (c : Nat) (vs : List D) (p q : RS) : brS s (.ex c vs) p q = .ex c vs s := rfl
@[simp] theorem brS_ite (c : Prop) [Decidable c] (a b : R D) (p q : RS) : brS s (if c then a else b) p q = if c then brS s a p q else brS s b p q := by split <;> rfl
def andR (r : R D) (q : R D) : R D := match r with
  | .ok (.bl true) => q
  | .ok (.bl false) => .ok (.bl false)
  | .ex c vs => .ex c vs
  | _ => .bad
def orR (r : R D) (q : R D) : R D := match r with
  | .ok (.bl true) => .ok (.bl true)
  | .ok (.bl false) => q
  | .ex c vs => .ex c vs
  | _ => .bad
def notR (r : R D) : R D := match r with
  | .ok (.bl b) => .ok (.bl (!b))
  | .ex c vs => .ex c vs
  | _ => .bad
def ifR (r a b : R D) : R D := match r with
  | .ok (.bl true) => a
  | .ok (.bl false) => b
  | .ex c vs => .ex c vs
  | _ => .bad
@[simp] theorem eAnd_s : eAnd fa fb s = andR (fa s) (fb s) := by
  unfold eAnd
  cases fa s with
  | ok d => cases d with
    | bl b => cases b <;> rfl
    | _ => rfl
  | _ => rfl
@[simp] theorem eOr_s : eOr fa fb s = orR (fa s) (fb s) := by
  unfold eOr
  cases fa s with
  | ok d => cases d with
    | bl b => cases b <;> rfl
    | _ => rfl
  | _ => rfl
@[simp] theorem eNot_s : eNot fa s = notR (fa s) := by
  unfold eNot
  cases fa s with
  | ok d => cases d <;> rfl
  | _ => rfl
@[simp] theorem eIf_s : eIf fc fa fb s = ifR (fc s) (fa s) (fb s) := by
  unfold eIf
  cases fc s with
  | ok d => cases d with
    | bl b => cases b <;> rfl
    | _ => rfl
  | _ => rfl
@[simp] theorem andR_bl (b c : Bool) : andR (.ok (.bl b)) (.ok (.bl c)) = .ok (.bl (b && c)) := by cases b <;> rfl
@[simp] theorem andR_tt (q : R D) : andR (.ok (.bl true)) q = q := rfl
@[simp] theorem andR_ff (q : R D) : andR (.ok (.bl false)) q = .ok (.bl false) := rfl
theorem andR_if (b : Bool) (q : R D) : andR (.ok (.bl b)) q = if b = true then q else .ok (.bl false) := by cases b <;> rfl
@[simp] theorem orR_bl (b c : Bool) : orR (.ok (.bl b)) (.ok (.bl c)) = .ok (.bl (b || c)) := by cases b <;> rfl
@[simp] theorem orR_tt (q : R D) : orR (.ok (.bl true)) q = .ok (.bl true) := rfl
@[simp] theorem orR_ff (q : R D) : orR (.ok (.bl false)) q = q := rfl
theorem orR_if (b : Bool) (q : R D) : orR (.ok (.bl b)) q = if b = true then .ok (.bl true) else q := by cases b <;> rfl
@[simp] theorem notR_bl (b : Bool) : notR (.ok (.bl b)) = .ok (.bl (!b)) := rfl
@[simp] theorem ifR_bl (b : Bool) (p q : R D) : ifR (.ok (.bl b)) p q = if b = true then p else q := by cases b <;> rfl
/-- a body's end -/
def fin (fr : Bool) (r : RS) : R D := match r with
  | .nx _ => if fr = true then .bad else .ok .non
  | .rt b d => if b = fr then .ok d else .bad
  | .ex c vs _ => .ex c vs
  | _ => .bad
theorem runB_s (fr : Bool) (m : Nat) (ds : List D) : runB fr m f ds = fin fr (f (ds.map Sl.sh ++ List.replicate (m - ds.length) .no)) := rfl
@[simp] theorem fin_rt (fr : Bool) : fin fr (.rt fr d) = .ok d := by unfold fin; simp
@[simp] theorem fin_nx : fin false (.nx s) = .ok .non := rfl
@[simp] theorem fin_ex (fr : Bool) (c : Nat) (vs : List D) : fin fr (.ex c vs s) = .ex c vs := rfl
@[simp] theorem fin_ite (fr : Bool) (p : Prop) [Decidable p] (a b : RS) : fin fr (if p then a else b) = if p then fin fr a else fin fr b := by split <;> rfl
/-! data -/
@[simp] theorem addD_i (i j : Int) : addD (.int i) (.int j) = .ok (.int (i + j)) := rfl
theorem addD_s (a b : List Nat) : addD (.str a) (.str b) = if a.length + b.length ≤ SZ then .ok (.str (a ++ b)) else .bad := rfl
theorem addD_l (a b : List D) : addD (.lst a) (.lst b) = if a.length + b.length ≤ SZ then .ok (.lst (a ++ b)) else .bad := rfl
@[simp] theorem subD_i (i j : Int) : subD (.int i) (.int j) = .ok (.int (i - j)) := rfl
theorem mulD_i (i j : Int) : mulD (.int i) (.int j) = if i.natAbs < 18446744073709551616 ∨ j.natAbs < 18446744073709551616 ∨ i.natAbs.log2 + j.natAbs.log2 < 1000000 then .ok (.int (i * j)) else .bad := by
  unfold mulD
  dsimp only
  congr
theorem mulD_s (x : List Nat) (j : Int) : mulD (.str x) (.int j) = if j < 9223372036854775808 ∧ -9223372036854775808 ≤ j ∧ x.length * j.toNat ≤ SZ then .ok (.str (repS x j.toNat)) else .bad := by
  unfold mulD
  dsimp only
  congr
theorem mulD_l (x : List D) (j : Int) : mulD (.lst x) (.int j) = if j < 9223372036854775808 ∧ -9223372036854775808 ≤ j ∧ x.length * j.toNat ≤ SZ then .ok (.lst (List.replicate j.toNat x).flatten) else .bad := by
  unfold mulD
  dsimp only
  congr
theorem fdivD_i (i j : Int) (h : 0 < j) (h2 : j.natAbs.log2 < 9000) : fdivD (.int i) (.int j) = .ok (.int (i / j)) := by unfold fdivD; simp [h, h2]
theorem modD_i (i j : Int) (h : 0 < j) : modD (.int i) (.int j) = .ok (.int (i % j)) := by unfold modD; simp [h]
theorem powD_i (i j : Int) (h : 0 ≤ j) (h1 : j ≤ 1000000) (h2 : i.natAbs < 18446744073709551616) : powD (.int i) (.int j) = .ok (.int (i ^ j.toNat)) := by unfold powD; simp [h, h1, h2]
@[simp] theorem ltD_i (i j : Int) : ltD (.int i) (.int j) = .ok (.bl (decide (i < j))) := rfl
@[simp] theorem leD_i (i j : Int) : leD (.int i) (.int j) = .ok (.bl (decide (i ≤ j))) := rfl
@[simp] theorem gtD_i (i j : Int) : gtD (.int i) (.int j) = .ok (.bl (decide (j < i))) := rfl
@[simp] theorem geD_i (i j : Int) : geD (.int i) (.int j) = .ok (.bl (decide (j ≤ i))) := rfl
@[simp] theorem ltD_s (i j : List Nat) : ltD (.str i) (.str j) = .ok (.bl (ltS i j)) := rfl
@[simp] theorem leD_s (i j : List Nat) : leD (.str i) (.str j) = .ok (.bl (!ltS j i)) := rfl
@[simp] theorem gtD_s (i j : List Nat) : gtD (.str i) (.str j) = .ok (.bl (ltS j i)) := rfl
@[simp] theorem geD_s (i j : List Nat) : geD (.str i) (.str j) = .ok (.bl (!ltS i j)) := rfl
@[simp] theorem eqD_i (i j : Int) : eqD (.int i) (.int j) = .ok (.bl (i == j)) := rfl
@[simp] theorem neD_i (i j : Int) : neD (.int i) (.int j) = .ok (.bl (!(i == j))) := rfl
@[simp] theorem eqD_s (i j : List Nat) : eqD (.str i) (.str j) = .ok (.bl (i == j)) := rfl
@[simp] theorem neD_s (i j : List Nat) : neD (.str i) (.str j) = .ok (.bl (!(i == j))) := rfl
@[simp] theorem lenD_s (x : List Nat) : lenD [.str x] = if x.length ≤ SZ then .ok (.int x.length) else .bad := rfl
@[simp] theorem lenD_l (x : List D) : lenD [.lst x] = .ok (.int x.length) := rfl
@[simp] theorem lenD_t (x : List D) : lenD [.tup x] = .ok (.int x.length) := rfl
@[simp] theorem max2D_i (i j : Int) : max2D [.int i, .int j] = .ok (.int (max i j)) := by
  show R.ok (D.int (if j > i then j else i)) = _
  congr 2
  split <;> omega
@[simp] theorem min2D_i (i j : Int) : min2D [.int i, .int j] = .ok (.int (min i j)) := by
  show R.ok (D.int (if j < i then j else i)) = _
  congr 2
  split <;> omega
@[simp] theorem intsD_map (ns : List Int) : intsD (ns.map .int) = some ns := by
  induction ns with
  | nil => rfl
  | cons a r ih => simp [intsD, ih]
@[simp] theorem strsD_map (ns : List (List Nat)) : strsD (ns.map .str) = some ns := by
  induction ns with
  | nil => rfl
  | cons a r ih => simp [strsD, ih]
@[simp] theorem blsD_map (ns : List Bool) : blsD (ns.map .bl) = some ns := by
  induction ns with
  | nil => rfl
  | cons a r ih => simp [blsD, ih]
@[simp] theorem sumD_m (ns : List Int) : sumD [.lst (ns.map .int)] = .ok (.int ns.sum) := by simp [sumD]
@[simp] theorem allD_m (ns : List Bool) : allD [.lst (ns.map .bl)] = .ok (.bl (ns.all id)) := by simp [allD]
theorem atI_nat {α : Type} (xs : List α) (n : Nat) : atI xs (n : Int) = xs[n]? := by
  unfold atI ixN
  by_cases h : n < xs.length
  · have : (n : Int) < xs.length := by omega
    simp [this]
  · have h2 : ¬ ((n : Int) < xs.length) := by omega
    simp [h2]
    omega
theorem atI_int {α : Type} (xs : List α) (i : Int) (h : 0 ≤ i) : atI xs i = xs[i.toNat]? := by
  have := atI_nat xs i.toNat
  rwa [show ((i.toNat : Nat) : Int) = i by omega] at this
theorem ixD_l (xs : List D) (i : Int) (h : 0 ≤ i) (x : D) (hx : xs[i.toNat]? = some x) : ixD (.lst xs) (.int i) = .ok x := by
  unfold ixD
  simp [atI_int xs i h, hx]
theorem ixD_t (xs : List D) (i : Int) (h : 0 ≤ i) (x : D) (hx : xs[i.toNat]? = some x) : ixD (.tup xs) (.int i) = .ok x := by
  unfold ixD
  simp [atI_int xs i h, hx]
theorem ixD_s (xs : List Nat) (i : Int) (h : 0 ≤ i) (x : Nat) (hl : xs.length ≤ SZ) (hx : xs[i.toNat]? = some x) : ixD (.str xs) (.int i) = .ok (.str [x]) := by
  unfold ixD
  simp [atI_int xs i h, hx, hl]
theorem slD_s (x : List Nat) (lo hi : Option Int) (h : x.length ≤ SZ) : slD (.str x) lo hi = .ok (.str (cutL x lo hi)) := by unfold slD; simp [h]
@[simp] theorem slD_l (x : List D) (lo hi : Option Int) : slD (.lst x) lo hi = .ok (.lst (cutL x lo hi)) := rfl
theorem cutL_to {α : Type} (x : List α) (n : Int) (h : 0 ≤ n) : cutL x none (some n) = x.take n.toNat := by
  unfold cutL HT.sIx
  have : ¬ n < 0 := by omega
  simp [this]
theorem cutL_from {α : Type} (x : List α) (n : Int) (h : 0 ≤ n) : cutL x (some n) none = x.drop n.toNat := by
  unfold cutL HT.sIx
  have : ¬ n < 0 := by omega
  simp [this]
  apply List.ext_getElem? 
  intro i
  simp [List.getElem?_take]
  split
  · congr 1; omega
  · symm; simp; omega
theorem cutL_at {α : Type} (x : List α) (a b : Int) (h : 0 ≤ a) (h2 : a ≤ b) : cutL x (some a) (some b) = (x.drop a.toNat).take (b.toNat - a.toNat) := by
  unfold cutL HT.sIx
  have h1 : ¬ a < 0 := by omega
  have h3 : ¬ b < 0 := by omega
  simp [h1, h3]
  apply List.ext_getElem? 
  intro i
  simp [List.getElem?_take]
  split <;> split
  · congr 1; omega
  · symm; simp; omega
  · symm; simp; omega
  · rfl
/-! loops -/
@[simp] theorem eSl_s (fl fh : SS → R (Option Int)) : eSl fa fl fh s = (fa s).bind fun x => (fl s).bind fun l => (fh s).bind fun h => slD x l h := rfl
def oR (r : R D) : R (Option Int) := r.bind fun x => match x with
  | .int i => .ok (some i)
  | _ => .bad
@[simp] theorem oSo_s : oSo fe s = oR (fe s) := rfl
@[simp] theorem oNo_s : oNo s = .ok none := rfl
@[simp] theorem oR_i (i : Int) : oR (.ok (.int i)) = .ok (some i) := rfl
@[simp] theorem eLst_s : eLst fs s = (fs s).bind fun xs => if xs.length ≤ SZ then .ok (.lst xs) else .bad := rfl
@[simp] theorem eTup_s : eTup fs s = (fs s).bind fun xs => if xs.length ≤ SZ then .ok (.tup xs) else .bad := rfl
@[simp] theorem iRg1_s : iRg1 fs s = (fs s).bind rng1 := rfl
@[simp] theorem iRg2_s : iRg2 fs s = (fs s).bind rng2 := rfl
@[simp] theorem iRg3_s : iRg3 fs s = (fs s).bind rng3 := rfl
@[simp] theorem iE_s : iE fe s = (fe s).bind itD := rfl
@[simp] theorem itD_l (xs : List D) : itD (.lst xs) = .ok xs := rfl
@[simp] theorem itD_t (xs : List D) : itD (.tup xs) = .ok xs := rfl
theorem rng1_i (j : Int) (h : fit62 j) : rng1 [.int j] = .ok (rangeD 0 j) := by unfold rng1; simp [h]
theorem rng2_i (i j : Int) (h : fit62 i) (h2 : fit62 j) : rng2 [.int i, .int j] = .ok (rangeD i j) := by unfold rng2; simp [h, h2]
def rFor (ft : FG) (f : SS → RS) (s : SS) (r : R (List D)) : RS := match r with
  | .ok ds => forL (turn ft f) ds s
  | .ex c vs => .ex c vs s
  | .bad => .bad
@[simp] theorem sFor_s (fi : SS → R (List D)) (ft : FG) : sFor fi ft f s = rFor ft f s (fi s) := rfl
@[simp] theorem rFor_ok (ft : FG) (ds : List D) : rFor ft f s (.ok ds) = forL (turn ft f) ds s := rfl
@[simp] theorem sWh_s (n : Nat) : sWh n fc f s = whL fc f n s := rfl
/-- THE RULE for `for` -/
theorem forL_ind {step : D → SS → RS} (P : Nat → SS → Prop) (Q : RS → Prop) : ∀ (ds : List D) (s : SS), P 0 s →
    (∀ i d s, ds[i]? = some d → P i s → match step d s with | .nx s' => P (i + 1) s' | .ct s' => P (i + 1) s' | .bk s' => Q (.nx s') | .rt b d => Q (.rt b d) | .ex c vs s' => Q (.ex c vs s') | .bad => False) →
    (∀ s, P ds.length s → Q (.nx s)) → Q (forL step ds s)
  | [], s, h0, _, he => he s h0
  | d :: ds, s, h0, hs, he => by
    have h1 := hs 0 d s rfl h0
    have ih := fun s' (h : P 1 s') => forL_ind (step := step) (fun i => P (i + 1)) Q ds s' h (fun i d s h => hs (i + 1) d s (by simpa using h)) he
    unfold forL
    cases q : step d s with
    | nx s' => rw [q] at h1; exact ih s' h1
    | ct s' => rw [q] at h1; exact ih s' h1
    | bk s' => rw [q] at h1; exact h1
    | rt b d => rw [q] at h1; exact h1
    | ex c vs s' => rw [q] at h1; exact h1
    | bad => rw [q] at h1; exact h1.elim
/-- a loop that only goes on -/
theorem forL_nx {step : D → SS → RS} (P : Nat → SS → Prop) (ds : List D) (s : SS) (h0 : P 0 s) (hs : ∀ i d s, ds[i]? = some d → P i s → ∃ s', step d s = .nx s' ∧ P (i + 1) s') : ∃ s', forL step ds s = .nx s' ∧ P ds.length s' := by
  apply forL_ind P (fun r => ∃ s', r = .nx s' ∧ P ds.length s') ds s h0
  · intro i d s h p
    obtain ⟨s', q, h'⟩ := hs i d s h p
    rw [q]
    exact h'
  · intro s h
    exact ⟨s, rfl, h⟩
theorem rangeD_get {i j : Int} {k : Nat} {d : D} (h : (rangeD i j)[k]? = some d) : d = .int (i + k) ∧ (k : Int) < j - i := by
  unfold rangeD at h
  rw [List.getElem?_map] at h
  by_cases hk : k < (j - i).toNat
  · rw [List.getElem?_range hk] at h
    simp at h
    exact ⟨h.symm, by omega⟩
  · rw [List.getElem?_eq_none (by simpa using hk)] at h
    cases h
@[simp] theorem rangeD_len (i j : Int) : (rangeD i j).length = (j - i).toNat := by simp [rangeD]
/-- for k in range -/
theorem forR_nx {step : D → SS → RS} (P : Nat → SS → Prop) (i j : Int) (s : SS) (h0 : P 0 s) (hs : ∀ (k : Nat) s, (k : Int) < j - i → P k s → ∃ s', step (.int (i + k)) s = .nx s' ∧ P (k + 1) s') : ∃ s', forL step (rangeD i j) s = .nx s' ∧ P (j - i).toNat s' := by
  have := forL_nx P (rangeD i j) s h0 fun k d s h p => by
    obtain ⟨rfl, h2⟩ := rangeD_get h
    exact hs k s h2 p
  simpa using this
/-- THE RULE for `while` -/
theorem whL_ind (P : SS → Prop) (mu : SS → Nat) (Q : RS → Prop) (hs : ∀ s, P s → match fc s with
    | .ok (.bl true) => (match f s with | .nx s' => P s' ∧ mu s' < mu s | .ct s' => P s' ∧ mu s' < mu s | .bk s' => Q (.nx s') | .rt b d => Q (.rt b d) | .ex c vs s' => Q (.ex c vs s') | .bad => False)
    | .ok (.bl false) => Q (.nx s)
    | .ex c vs => Q (.ex c vs s)
    | _ => False) : ∀ (n : Nat) (s : SS), P s → mu s < n → Q (whL fc f n s)
  | 0, s, _, h => absurd h (Nat.not_lt_zero _)
  | n + 1, s, h, hm => by
    have h1 := hs s h
    unfold whL
    cases q : fc s with
    | ok d =>
      rw [q] at h1
      cases d with
      | bl b =>
        cases b with
        | true =>
          dsimp only at h1 ⊢
          cases q2 : f s with
          | nx s' => rw [q2] at h1; exact whL_ind P mu Q hs n s' h1.1 (by have := h1.2; omega)
          | ct s' => rw [q2] at h1; exact whL_ind P mu Q hs n s' h1.1 (by have := h1.2; omega)
          | bk s' => rw [q2] at h1; exact h1
          | rt b d => rw [q2] at h1; exact h1
          | ex c vs s' => rw [q2] at h1; exact h1
          | bad => rw [q2] at h1; exact h1.elim
        | false => exact h1
      | _ => exact h1.elim
    | ex c vs => rw [q] at h1; exact h1
    | bad => rw [q] at h1; exact h1.elim
theorem mapD_map {step : D → R (Option D)} (g : D → D) : ∀ (ds : List D), (∀ d ∈ ds, step d = .ok (some (g d))) → mapD step ds = .ok (ds.map g)
  | [], _ => rfl
  | d :: ds, h => by
    unfold mapD
    rw [h d (by simp), mapD_map g ds fun e he => h e (by simp [he])]
    rfl
theorem mapD_filter {step : D → R (Option D)} (p : D → Bool) (g : D → D) : ∀ (ds : List D), (∀ d ∈ ds, step d = .ok (if p d = true then some (g d) else none)) → mapD step ds = .ok ((ds.filter p).map g)
  | [], _ => rfl
  | d :: ds, h => by
    unfold mapD
    rw [h d (by simp), mapD_filter p g ds fun e he => h e (by simp [he])]
    by_cases q : p d = true
    · simp [q]
    · simp [q]
theorem mapD_range {step : D → R (Option D)} (g : Nat → D) (i j : Int) (h : ∀ k : Nat, (k : Int) < j - i → step (.int (i + k)) = .ok (some (g k))) : mapD step (rangeD i j) = .ok ((List.range (j - i).toNat).map g) := by
  unfold rangeD
  generalize hn : (j - i).toNat = n
  have h' : ∀ k, k < n → step (.int (i + (k : Nat))) = .ok (some (g k)) := fun k hk => h k (by omega)
  clear h hn
  have : ∀ (l : List Nat), (∀ k ∈ l, k < n) → mapD step (l.map fun k : Nat => D.int (i + (k : Nat))) = .ok (l.map g) := by
    intro l
    induction l with
    | nil => intro; rfl
    | cons k l ih =>
      intro hl
      simp only [List.map_cons]
      unfold mapD
      rw [h' k (hl k (by simp)), ih fun e he => hl e (by simp [he])]
  exact this _ fun k hk => by simpa using hk
/-- comprehension over the items of a mapped list -/
theorem mapD_mapped {α : Type} {step : D → R (Option D)} (c : α → D) (g : α → D) (l : List α) (h : ∀ a ∈ l, step (c a) = .ok (some (g a))) : mapD step (l.map c) = .ok (l.map g) := by
  induction l with
  | nil => rfl
  | cons k l ih =>
    simp only [List.map_cons]
    unfold mapD
    rw [h k (by simp), ih fun e he => h e (by simp [he])]
/-- comprehensions -/
def rComp (r : R (List D)) : R D := match r with
  | .ok xs => if xs.length ≤ SZ then .ok (.lst xs) else .bad
  | _ => .bad
@[simp] theorem eComp_s (fi : SS → R (List D)) (ft : FG) (vs : List Nat) : eComp fi ft vs fc fe s = (fi s).bind fun ds => rComp (mapD (cStep ft vs fc fe s) ds) := rfl
@[simp] theorem rComp_ok (xs : List D) : rComp (.ok xs) = if xs.length ≤ SZ then .ok (.lst xs) else .bad := rfl
theorem rComp_of {r : R (List D)} {xs : List D} (h : r = .ok xs) (hl : xs.length ≤ 16777216) : rComp r = .ok (.lst xs) := by
  subst h
  exact if_pos (le_sz hl)
theorem comp_range {step : D → R (Option D)} (g : Nat → D) (i j : Int) (n : Nat) (hn : (j - i).toNat = n) (hl : n ≤ 16777216) (h : ∀ k : Nat, (k : Int) < j - i → step (.int (i + k)) = .ok (some (g k))) : rComp (mapD step (rangeD i j)) = .ok (.lst ((List.range n).map g)) := by
  subst hn
  exact rComp_of (mapD_range g i j h) (by simpa using hl)
theorem comp_mapped {α : Type} {step : D → R (Option D)} (c : α → D) (g : α → D) (l : List α) (hl : l.length ≤ 16777216) (h : ∀ a ∈ l, step (c a) = .ok (some (g a))) : rComp (mapD step (l.map c)) = .ok (.lst (l.map g)) :=
  rComp_of (mapD_mapped c g l h) (by simpa using hl)
theorem comp_filter {step : D → R (Option D)} (p : D → Bool) (g : D → D) (ds : List D) (hl : ds.length ≤ 16777216) (h : ∀ d ∈ ds, step d = .ok (if p d = true then some (g d) else none)) : rComp (mapD step ds) = .ok (.lst ((ds.filter p).map g)) :=
  rComp_of (mapD_filter p g ds h) (by simpa using Nat.le_trans (List.length_filter_le p ds) hl)
def rStep (c e : R D) : R (Option D) := match c with
  | .ok (.bl true) => (match e with | .ok x => .ok (some x) | _ => .bad)
  | .ok (.bl false) => .ok none
  | _ => .bad
@[simp] theorem rStep_t (x : D) : rStep (.ok (.bl true)) (.ok x) = .ok (some x) := rfl
@[simp] theorem rStep_b (b : Bool) (x : D) : rStep (.ok (.bl b)) (.ok x) = .ok (if b = true then some x else none) := by cases b <;> rfl
@[simp] theorem rStep_f (r : R D) : rStep (.ok (.bl false)) r = .ok none := rfl
def optR (o : Option SS) (k : SS → R (Option D)) : R (Option D) := match o with
  | some s' => k s'
  | none => .bad
@[simp] theorem optR_some (k : SS → R (Option D)) : optR (some s) k = k s := rfl
theorem cStep_s (ft : FG) (vs : List Nat) : cStep ft vs fc fe s d = optR (ft d (wipeS s vs)) fun s' => rStep (fc s') (fe s') := by
  unfold cStep
  cases ft d (wipeS s vs) with
  | none => rfl
  | some s' =>
    dsimp only [optR_some]
    generalize fc s' = r
    generalize fe s' = q
    cases r with
    | ok d => cases d with
      | bl b => cases b with
        | true => cases q <;> rfl
        | false => rfl
      | _ => rfl
    | _ => rfl
@[simp] theorem cYes_s : cYes s = .ok (.bl true) := rfl
@[simp] theorem wipeS_nil : wipeS s [] = s := rfl
@[simp] theorem wipeS_cons (v : Nat) (vs : List Nat) : wipeS s (v :: vs) = (wipeS s vs).set v .no := rfl
@[simp] theorem gN_s (i : Nat) : gN i d s = if canS s[i]? = true then some (s.set i (.sh d)) else none := setS_s i _
theorem turn_s (ft : FG) : turn ft f d s = match ft d s with | some s' => f s' | none => .bad := rfl
end
end
end Z
namespace Z
noncomputable section
open PySem PySem.Spec PySem.P PyProof.Rows L2
/-- the laws' own mixing -/
def mixI (c k : Int) : Int := ((c % 10 ^ 30 * 1000003 + (k + 1) * (k + 1) * 998244353) % 2305843009213693951) * ((c % 10 ^ 30 * 1000003 + (k + 1) * (k + 1) * 998244353) % 2305843009213693951) % 2305843009213693921
theorem mixI_nn (c k : Int) : 0 ≤ mixI c k := Int.emod_nonneg _ (by decide)
theorem mixI_lt (c k : Int) : mixI c k < 2305843009213693921 := Int.emod_lt_of_pos _ (by decide)
theorem fdivD_s (i j : Int) (h : 0 < j) (h2 : j < 1000000000000000000) : fdivD (.int i) (.int j) = .ok (.int (i / j)) := fdivD_i i j h (by
  have h3 : j.natAbs < 2 ^ 100 := by omega
  have h4 : j.natAbs ≠ 0 := by omega
  have := (Nat.log2_lt h4).mpr h3
  omega)
theorem rep_map {α β : Type} (f : α → β) (n : Nat) (l : List α) : (List.replicate n (l.map f)).flatten = ((List.replicate n l).flatten).map f := by
  rw [List.map_flatten, List.map_replicate]
theorem joinL_one (x : List Nat) : TL.joinL [] (x.map fun c => [c]) = x := by
  induction x with
  | nil => rfl
  | cons a r ih => cases r with
    | nil => rfl
    | cons b r => simp only [List.map_cons] at ih ⊢; unfold TL.joinL; rw [ih]; rfl
theorem joinM_one (x : List Nat) (h : x.length ≤ 16777216) : joinM (.str []) [.lst (x.map fun c => .str [c])] = .ok (.str x) := by
  have e : (x.map fun c => D.str [c]) = (x.map fun c => [c]).map .str := by simp
  have e2 : ((x.map fun c => [c]).map (·.length)).sum = x.length := by
    rw [List.map_map]
    clear h e
    induction x with
    | nil => rfl
    | cons a r ih => simp at ih ⊢; omega
  unfold joinM joinD
  rw [e]
  dsimp only
  rw [strsD_map]
  dsimp only
  rw [e2, joinL_one, if_pos (le_sz (by simpa using h))]
@[simp] theorem eM_s {fa : SS → R D} {fs : SS → R (List D)} {s : SS} (T : String) (g : D → List D → R D) : eM T g fa fs s = (fa s).bind fun x => if tyN x = some T then (fs s).bind (g x) else .bad := rfl
@[simp] theorem tyN_str (x : List Nat) : tyN (.str x) = some "str" := rfl
@[simp] theorem tyN_lst (x : List D) : tyN (.lst x) = some "list" := rfl
@[simp] theorem tyN_tup (x : List D) : tyN (.tup x) = some "tuple" := rfl
@[simp] theorem tyN_int (x : Int) : tyN (.int x) = some "int" := rfl
@[simp] theorem tyN_bl (x : Bool) : tyN (.bl x) = some "bool" := rfl
@[simp] theorem tyN_non : tyN .non = some "NoneType" := rfl
@[simp] theorem tyN_dic (ks : List Key) (vs : List D) : tyN (.dic ks vs) = some "dict" := rfl

/-- a loop, then what follows -/
theorem forR_then {β : Type} {step : D → SS → RS} {i j : Int} {s : SS} {k : RS → β} {Y : β} (P : Nat → SS → Prop) (h0 : P 0 s)
    (hs : ∀ (k : Nat) s, (k : Int) < j - i → P k s → ∃ s', step (.int (i + k)) s = .nx s' ∧ P (k + 1) s') (he : ∀ s', P (j - i).toNat s' → k (.nx s') = Y) : k (forL step (rangeD i j) s) = Y := by
  obtain ⟨s', q, h⟩ := forR_nx P i j s h0 hs
  rw [q]
  exact he s' h
theorem forR_in {step : D → SS → RS} {i j : Int} {s : SS} {P' : SS → Prop} (P : Nat → SS → Prop) (h0 : P 0 s)
    (hs : ∀ (k : Nat) s, (k : Int) < j - i → P k s → ∃ s', step (.int (i + k)) s = .nx s' ∧ P (k + 1) s') (he : ∀ s', P (j - i).toNat s' → P' s') : ∃ s', forL step (rangeD i j) s = .nx s' ∧ P' s' := by
  obtain ⟨s', q, h⟩ := forR_nx P i j s h0 hs
  exact ⟨s', q, he s' h⟩
/-- over the items of a mapped list -/
theorem forM_then {α β : Type} {c : α → D} {xs : List α} {step : D → SS → RS} {s : SS} {k : RS → β} {Y : β} (P : Nat → SS → Prop) (h0 : P 0 s)
    (hs : ∀ (i : Nat) (a : α) s, xs[i]? = some a → P i s → ∃ s', step (c a) s = .nx s' ∧ P (i + 1) s') (he : ∀ s', P xs.length s' → k (.nx s') = Y) : k (forL step (xs.map c) s) = Y := by
  obtain ⟨s', q, h⟩ := forL_nx P (xs.map c) s h0 fun i d s h p => by
    rw [List.getElem?_map] at h
    cases q : xs[i]? with
    | none => rw [q] at h; cases h
    | some a => rw [q] at h; cases h; exact hs i a s q p
  rw [q]
  exact he s' (by simpa using h)
theorem forM_in {α : Type} {c : α → D} {xs : List α} {step : D → SS → RS} {s : SS} {P' : SS → Prop} (P : Nat → SS → Prop) (h0 : P 0 s)
    (hs : ∀ (i : Nat) (a : α) s, xs[i]? = some a → P i s → ∃ s', step (c a) s = .nx s' ∧ P (i + 1) s') (he : ∀ s', P xs.length s' → P' s') : ∃ s', forL step (xs.map c) s = .nx s' ∧ P' s' :=
  forM_then (k := fun r => ∃ s', r = .nx s' ∧ P' s') (Y := True) P h0 hs (fun s' h => propext ⟨fun _ => trivial, fun _ => ⟨s', rfl, he s' h⟩⟩) ▸ trivial
theorem bnd_on {r : RS} {g : SS → RS} {Q : SS → Prop} (P' : SS → Prop) (h1 : ∃ s', r = .nx s' ∧ P' s') (h2 : ∀ s', P' s' → ∃ s'', g s' = .nx s'' ∧ Q s'') : ∃ s'', bnd r g = .nx s'' ∧ Q s'' := by
  obtain ⟨s', rfl, h⟩ := h1
  exact h2 s' h
theorem bnd_end {r : RS} {g : SS → RS} {fr : Bool} {Y : R D} (P' : SS → Prop) (h1 : ∃ s', r = .nx s' ∧ P' s') (h2 : ∀ s', P' s' → fin fr (g s') = Y) : fin fr (bnd r g) = Y := by
  obtain ⟨s', rfl, h⟩ := h1
  exact h2 s' h
theorem mem_le_sum {l : List Nat} {x : Nat} (h : x ∈ l) : x ≤ l.sum := by
  induction l with
  | nil => cases h
  | cons a r ih =>
    rw [List.sum_cons]
    rcases List.mem_cons.mp h with rfl | h
    · omega
    · have := ih h; omega
theorem bnd_q {r : RS} {g : SS → RS} {Q : RS → Prop} (P' : SS → Prop) (h1 : ∃ s', r = .nx s' ∧ P' s') (h2 : ∀ s', P' s' → Q (g s')) : Q (bnd r g) := by
  obtain ⟨s', rfl, h⟩ := h1
  exact h2 s' h
end
end Z
namespace ZS
open PySem PyProof.Rows Srt SrtO
section
variable {prog : Program} {w : World} {A : Around} {E : Value → Shared → Prop} {s : Shared}
def sv : Value → List Nat
  | .str x _ => x.cps.toList
  | _ => []
def svS : Value → Str
  | .str x _ => x
  | _ => ⟨#[]⟩
def ltSv (v u : Value) : Bool := decide (sv v < sv u)
theorem swo_str : Swo ltSv := by
  refine ⟨fun x y h => ?_, fun x y z h1 h2 => ?_⟩
  · exact decide_eq_false (List.lt_asymm (of_decide_eq_true h))
  · have a := of_decide_eq_false h1
    have b := of_decide_eq_false h2
    exact decide_eq_false (List.not_lt.mpr (List.le_trans (List.not_lt.mp a) (List.not_lt.mp b)))
theorem str_cmp {vs : List Value} {ns : List Str} (hI : StrsAre vs ns) : Cmp prog w A s oneType' (fun p => p.1 ∈ vs) (lt2 ltSv) := by
  intro p q hm hm'
  obtain ⟨a, t, e⟩ := hI.all _ hm
  obtain ⟨b, u, e'⟩ := hI.all _ hm'
  show wpAny (model prog w) A (keyLt' oneType' p.1 q.1) (fun r s' => s' = s ∧ r = ltSv p.1 q.1) (fun _ _ => False) s
  rw [e, e', keyLt'_oneType]
  exact oneLt_str ⟨rfl, rfl⟩
theorem strs_sortable {a : Addr} {vs : List Value} {ns : List Str} (hI : StrsAre vs ns) (h2 : 2 ≤ vs.length) : SortableO prog w A s a vs ltSv := by
  intro h' _
  refine ⟨oneType', fun Q E hq => ?_, str_cmp hI⟩
  match vs, hI, h2 with
  | v1 :: v2 :: rest, hI, _ =>
    rw [keyKind_strs hI]
    exact wpAny_pure hq
  | [], _, h => exact absurd h (by decide)
  | [v], _, h => exact absurd h (by simp)
theorem strs_ss : ∀ {vs : List Value}, (∀ v ∈ vs, ∃ i t, v = Value.str i t) → StrsAre vs (vs.map svS)
  | [], _ => .nil
  | v :: vs, h => by
    obtain ⟨i, t, e⟩ := h v List.mem_cons_self
    subst e
    exact .cons i t (strs_ss fun u hu => h u (List.mem_cons_of_mem _ hu))
theorem ss_strs : ∀ {vs : List Value} {ns : List Str}, StrsAre vs ns → vs.map svS = ns
  | _, _, .nil => rfl
  | _, _, .cons n t r => congrArg (n :: ·) (ss_strs r)
theorem strs_out {vs out : List Value} {ns : List Str} (hI : StrsAre vs ns) (hs : Srtd ltSv out) (hb : Stb ltSv out vs) : StrsAre out (out.map svS) ∧ (out.map svS).Perm ns ∧ (out.map svS).Pairwise (fun x y => ¬ y.cps.toList < x.cps.toList) := by
  have hall : ∀ v ∈ out, ∃ i t, v = Value.str i t := fun v hv => hI.all v (hb.perm.mem_iff.mp hv)
  refine ⟨strs_ss hall, ?_, ?_⟩
  · have q := hb.perm.map svS
    rw [ss_strs hI] at q
    exact q
  · refine List.pairwise_map.mpr (List.Pairwise.imp_of_mem (fun {x y} hx hy h => ?_) hs)
    obtain ⟨i, t, rfl⟩ := hall x hx
    obtain ⟨j, u, rfl⟩ := hall y hy
    exact of_decide_eq_false h
end
end ZS
namespace Z
noncomputable section
open PySem PySem.Spec PySem.P PyProof.Rows L2
section
variable {X : Cx} {C : CT} {W : WX}
def rSortedT (K : PySem.W.Frag) : List V → Hp → VK → Prop := fun vs H Q => ∃ (a : Addr) (xs : List Str), vs = [V.ref a] ∧ SqL K H a (xs.map V.str) ∧
  ∀ (ys : List Str) (p : Addr), ys.Perm xs → ys.Pairwise (fun x y => ¬ y.cps.toList < x.cps.toList) → H p = none → Q (.ref p) (upd H p (.lst (ys.map V.str)))
theorem cr_sortedT : CallR X (.builtin "sorted") (rSortedT X.K) := by
  intro pins s σ H vs us Q I r h
  obtain ⟨a, ns, rfl, hs, q⟩ := h
  obtain ⟨its, rv, hl, hz⟩ := I.list hs
  rw [Vals.ref1 r]
  have hi := rv.strs
  refine SrtO.sorted_ord ZS.swo_str hl.isList (by rw [← rv.length]; exact hz) (fun h2 h₁ a' _ _ => ZS.strs_sortable hi h2) fun out h1 h2 => ?_
  obtain ⟨k1, k2, k3⟩ := ZS.strs_out hi h1 h2
  obtain ⟨ep, he'⟩ := PyProof.Rows.sortedAll_at s.heap its out.toArray
  have hlen : ((out.map ZS.svS).map V.str).length ≤ sizeLine := by
    rw [List.length_map, k2.length_eq]
    rw [List.length_map] at hz
    exact hz
  exact ⟨.ref _, upd H (s.heap.objs.size + 1) (.lst ((out.map ZS.svS).map V.str)), I.laid (t' := s.toks) (fun _ _ => PyProof.Rows.sortedAll_old) (Nat.le_succ _) ⟨hlen, out, ep, vals_of_strs k1, he'⟩, rfl, q _ _ k2 k3 (I.hok.fresh (Nat.le_succ _))⟩
/-- in order -/
def sortT (xs : List (List Nat)) : List (List Nat) := xs.mergeSort fun a b => !ltS b a
def sortI (xs : List Int) : List Int := xs.mergeSort fun a b => decide (a ≤ b)
theorem sortT_perm (xs : List (List Nat)) : (sortT xs).Perm xs := List.mergeSort_perm _ _
theorem sortI_perm (xs : List Int) : (sortI xs).Perm xs := List.mergeSort_perm _ _
theorem sortT_sorted (xs : List (List Nat)) : (sortT xs).Pairwise fun x y => ¬ y < x := by
  have := List.pairwise_mergeSort (le := fun a b : List Nat => !ltS b a) (fun a b c h1 h2 => by
    simp [ltS] at h1 h2 ⊢
    exact List.le_trans h1 h2) (fun a b => by
    simp [ltS]
    exact List.le_total a b) xs
  exact this.imp fun h => by simpa [ltS] using h
theorem sortI_sorted (xs : List Int) : (sortI xs).Pairwise (· ≤ ·) := by
  have := List.pairwise_mergeSort (le := fun a b : Int => decide (a ≤ b)) (fun a b c h1 h2 => by
    simp at h1 h2 ⊢
    omega) (fun a b => by
    simp
    omega) xs
  exact this.imp fun h => by simpa using h
theorem sortT_uniq {xs ys : List (List Nat)} (hp : ys.Perm xs) (hs : ys.Pairwise fun x y => ¬ y < x) : ys = sortT xs :=
  List.Perm.eq_of_pairwise (le := fun x y => ¬ y < x) (fun a b _ _ h1 h2 => List.le_antisymm (List.not_lt.mp h1) (List.not_lt.mp h2)) hs (sortT_sorted xs) (hp.trans (sortT_perm xs).symm)
theorem sortI_uniq {xs ys : List Int} (hp : ys.Perm xs) (hs : ys.Pairwise (· ≤ ·)) : ys = sortI xs :=
  List.Perm.eq_of_pairwise (le := (· ≤ ·)) (fun a b _ _ h1 h2 => by omega) hs (sortI_sorted xs) (hp.trans (sortI_perm xs).symm)
def sortD : List D → R D
  | [.lst x] => match strsD x with
    | some ys => .ok (.lst ((sortT ys).map .str))
    | none => match intsD x with
      | some ns => .ok (.lst ((sortI ns).map .int))
      | none => .bad
  | _ => .bad
theorem sortD_ne : NoExL sortD := fun x c vs h => by
  unfold sortD at h
  split at h
  · split at h
    · cases h
    · split at h <;> cases h
  · cases h
theorem repL_ints {G : GE} {F : Hp} : ∀ (ns : List Int), RepL G F (ns.map .int) (ns.map V.int)
  | [] => RepL.nil
  | _ :: ns => RepL.cons (rep_int.mpr rfl) (repL_ints ns)
theorem repL_strs {G : GE} {F : Hp} : ∀ (ns : List (List Nat)), (∀ x ∈ ns, okS x = true) → RepL G F (ns.map .str) ((ns.map toS).map V.str)
  | [], _ => RepL.nil
  | x :: ns, h => RepL.cons (rep_str.mpr ⟨rfl, h x List.mem_cons_self⟩) (repL_strs ns fun y hy => h y (List.mem_cons_of_mem _ hy))
theorem call_sortD (v : Pl X C W) : CallR X (.builtin "sorted") (rCF C.G sortD) := by
  intro pins s σ H xs us Q I r h
  obtain ⟨F, ds, S, r2, p⟩ := h
  unfold sortD at p
  split at p
  · obtain ⟨u, rfl, b⟩ := pair1 r2
    obtain ⟨a, ys, rfl, q, rr⟩ := bor_lst S b
    rw [← v.K] at q
    split at p
    · rename_i ns hn
      obtain ⟨e, hok⟩ := strs_rep hn rr
      rw [e] at q
      refine cr_sortedT pins s σ H _ us Q I r ⟨a, ns.map toS, rfl, q, fun zs p' hp hs hf => ?_⟩
      have h1 : zs = (zs.map fun z => z.cps.toList).map toS := by
        rw [List.map_map]
        conv => lhs; rw [← List.map_id zs]
        refine List.map_congr_left fun z _ => ?_
        show z = ⟨z.cps.toList.toArray⟩
        rw [Array.toArray_toList]
      have h2 : zs.map (fun z => z.cps.toList) = sortT ns := by
        apply sortT_uniq
        · have := hp.map fun z : Str => z.cps.toList
          rw [List.map_map] at this
          have e2 : ns.map ((fun z : Str => z.cps.toList) ∘ toS) = ns := by
            conv => rhs; rw [← List.map_id ns]
            exact List.map_congr_left fun z _ => rfl
          rwa [e2] at this
        · exact List.pairwise_map.mpr hs
      rw [h1, h2]
      exact p.lst S (repL_strs _ fun x hx => hok x ((sortT_perm ns).mem_iff.mp hx)) p' hf
    · split at p
      · rename_i ns hn
        rw [ints_rep hn rr] at q
        refine cr_sortedI pins s σ H _ us Q I r ⟨a, ns, rfl, q, fun zs p' hp hs hf => ?_⟩
        rw [sortI_uniq hp hs]
        exact p.lst S (repL_ints _) p' hf
      · exact p.elim
  · exact p.elim
/-! min(xs), max(xs) of texts and of ints -/
theorem strs_cmp {prog : Program} {w : World} {A : Around} {P : Nat → Value → Prop} (val : Nat → List Nat) (hval : ∀ i v, P i v → ∃ x t, v = .str x t ∧ x.cps.toList = val i) :
    CmpOf prog w A .Lt P (fun i j => decide (val i < val j)) := fun i j vi vj s Q E hi hj h => by
  obtain ⟨x, t, rfl, e1⟩ := hval i vi hi
  obtain ⟨y, u, rfl, e2⟩ := hval j vj hj
  dsimp only at h
  rw [← e1, ← e2] at h
  exact richCompare_gives (op := .Lt) (typeIs_str s _ t) (typeIs_str s _ u) PySem.F.slot_str_lt PySem.F.entry_str_lt (PySem.F.args_str_lt_2 _ _) (gives_str_lt _ _ t u) (fun x => nomatch x) h
theorem strs_cmpG {prog : Program} {w : World} {A : Around} {P : Nat → Value → Prop} (val : Nat → List Nat) (hval : ∀ i v, P i v → ∃ x t, v = .str x t ∧ x.cps.toList = val i) :
    CmpOf prog w A .Gt P (fun i j => decide (val i > val j)) := fun i j vi vj s Q E hi hj h => by
  obtain ⟨x, t, rfl, e1⟩ := hval i vi hi
  obtain ⟨y, u, rfl, e2⟩ := hval j vj hj
  dsimp only at h
  rw [← e1, ← e2] at h
  exact richCompare_gives (op := .Gt) (typeIs_str s _ t) (typeIs_str s _ u) PySem.F.slot_str_gt PySem.F.entry_str_gt (PySem.F.args_str_gt_2 _ _) (gives_str_gt _ _ t u) (fun x => nomatch x) h
theorem argBest_lex (val : Nat → List Nat) : ∀ k, argBest (fun i j => decide (val i < val j)) k ≤ k ∧ ∀ j, j ≤ k → ¬ val j < val (argBest (fun i j => decide (val i < val j)) k)
  | 0 => ⟨Nat.le_refl _, fun j hj => by
    have : j = 0 := by omega
    subst this
    exact List.lt_irrefl _⟩
  | k + 1 => by
    obtain ⟨h1, h2⟩ := argBest_lex val k
    simp only [argBest]
    by_cases hc : val (k + 1) < val (argBest (fun i j => decide (val i < val j)) k)
    · rw [if_pos (by simpa using hc)]
      refine ⟨Nat.le_refl _, fun j hj => ?_⟩
      rcases Nat.lt_or_ge j (k + 1) with hlt | hge
      · exact fun z => h2 j (by omega) (List.lt_trans z hc)
      · have : j = k + 1 := by omega
        subst this; exact List.lt_irrefl _
    · rw [if_neg (by simpa using hc)]
      refine ⟨by omega, fun j hj => ?_⟩
      rcases Nat.lt_or_ge j (k + 1) with hlt | hge
      · exact h2 j (by omega)
      · have : j = k + 1 := by omega
        subst this; exact hc
def rMinT (K : PySem.W.Frag) : List V → Hp → VK → Prop := fun vs H Q => ∃ (a : Addr) (ns : List Str), vs = [V.ref a] ∧ SqL K H a (ns.map V.str) ∧ 0 < ns.length ∧ ∀ m, m ∈ ns → (∀ y, y ∈ ns → ¬ y.cps.toList < m.cps.toList) → Q (.str m) H
theorem min_rawT {prog : Program} {w : World} {A : Around} {E : Value → Shared → Prop} {s : Shared} {l : Addr} {its : List Value} {ns : List Str} {Q : Value → Shared → Prop} (hh : A.handled = none) (hl : s.heap.IsList l its.toArray) (hi : StrsAre its ns) (hne : 0 < ns.length)
    (h : ∀ h' tk m t', (∀ b o, s.heap.get? b = some o → h'.get? b = some o) → m ∈ ns → (∀ y, y ∈ ns → ¬ y.cps.toList < m.cps.toList) → Q (.str m t') { s with heap := h', toks := tk }) : wpAny (model prog w) A (call (.builtin "min") [.ref l]) Q E s := by
  have hlt : l < s.heap.objs.size := by obtain ⟨_, e, _⟩ := hl; exact Heap.lt_size e
  have hlen : its.length = ns.length := hi.length
  have hval : ∀ (i : Nat) (v : Value), its.toArray[i]? = some v → ∃ (x : Str) (t : Tok), v = .str x t ∧ x.cps.toList = ((ns[i]?).getD (⟨#[]⟩ : Str)).cps.toList := fun i v hv => by
    have hss := ZS.ss_strs hi
    rw [List.getElem?_toArray] at hv
    obtain ⟨x, t, rfl⟩ := hi.all v (List.mem_of_getElem? hv)
    refine ⟨x, t, rfl, ?_⟩
    rw [← hss, List.getElem?_map, hv]
    rfl
  refine call_min_walk (wpAny_pyIter_list hl ?_)
  refine ⟨_, _, _, _, _, _, _, rfl, Walks.list (A := A.in1) hh _ l (Nat.ne_of_lt hlt) its.toArray, ⟨⟨_, Heap.get?_push_size _ rfl, rfl, rfl⟩, hl.push _⟩, fun b hb => ?_, by simpa [hlen] using hne, strs_cmp (fun i => ((ns[i]?).getD (⟨#[]⟩ : Str)).cps.toList) hval, fun v h' tk hP hk => ?_⟩
  · show b < (s.heap.push _).objs.size
    rw [Heap.size_push]
    rcases List.mem_cons.mp hb with rfl | hb
    · exact Nat.lt_succ_self _
    · rcases List.mem_cons.mp hb with rfl | hb
      · exact Nat.lt_succ_of_lt hlt
      · cases hb
  · obtain ⟨b1, b2⟩ := argBest_lex (fun i => ((ns[i]?).getD (⟨#[]⟩ : Str)).cps.toList) (its.toArray.size - 1)
    generalize argBest (fun i j => decide (((ns[i]?).getD (⟨#[]⟩ : Str)).cps.toList < ((ns[j]?).getD (⟨#[]⟩ : Str)).cps.toList)) (its.toArray.size - 1) = at' at hP b1 b2
    obtain ⟨x, t, rfl, e⟩ := hval _ _ hP
    have hat : at' < ns.length := by simp at b1; omega
    have hx : ns[at']? = some x := by
      have hss := ZS.ss_strs hi
      rw [← hss, List.getElem?_map]
      rw [List.getElem?_toArray] at hP
      rw [hP]
      rfl
    refine h h' tk x t (old_kept hk) (List.mem_of_getElem? hx) fun y hy => ?_
    obtain ⟨j, hj, rfl⟩ := List.mem_iff_getElem.mp hy
    have := b2 j (by simp; omega)
    simpa [hx, hj] using this
theorem cr_minT (hc : X.calm = true) : CallR X (.builtin "min") (rMinT X.K) := by
  intro pins s σ H vs us Q I r h
  obtain ⟨a, ns, rfl, hs, hne, q⟩ := h
  obtain ⟨its, rv, hl, _⟩ := I.list hs
  rw [Vals.ref1 r]
  exact min_rawT (I.ok.hd hc) hl.isList rv.strs hne fun h' tk m t' hk h1 h2 => ⟨.str _, H, I.kept hk, ⟨_, rfl⟩, q m h1 h2⟩
def minT (y : List Nat) (ys : List (List Nat)) : List Nat := ys.foldl (fun m x => if x < m then x else m) y
def minI (y : Int) (ys : List Int) : Int := ys.foldl (fun m x => if x < m then x else m) y
def maxI (y : Int) (ys : List Int) : Int := ys.foldl (fun m x => if m < x then x else m) y
theorem minT_spec : ∀ (ys : List (List Nat)) (y : List Nat), minT y ys ∈ y :: ys ∧ ∀ x ∈ y :: ys, ¬ x < minT y ys
  | [], y => ⟨List.mem_cons_self, fun x hx => by
    rcases List.mem_cons.mp hx with rfl | hx
    · exact List.lt_irrefl _
    · cases hx⟩
  | z :: ys, y => by
    obtain ⟨h1, h2⟩ := minT_spec ys (if z < y then z else y)
    have e : minT y (z :: ys) = minT (if z < y then z else y) ys := rfl
    rw [e]
    have h3 := h2 _ List.mem_cons_self
    refine ⟨?_, fun x hx => ?_⟩
    · rcases List.mem_cons.mp h1 with e | h
      · rw [e]
        split
        · exact List.mem_cons_of_mem _ List.mem_cons_self
        · exact List.mem_cons_self
      · exact List.mem_cons_of_mem _ (List.mem_cons_of_mem _ h)
    · by_cases q : z < y
      · simp only [if_pos q] at *
        rcases List.mem_cons.mp hx with rfl | hx
        · grind
        · rcases List.mem_cons.mp hx with rfl | hx
          · exact h3
          · exact h2 _ (List.mem_cons_of_mem _ hx)
      · simp only [if_neg q] at *
        rcases List.mem_cons.mp hx with rfl | hx
        · exact h3
        · rcases List.mem_cons.mp hx with rfl | hx
          · grind
          · exact h2 _ (List.mem_cons_of_mem _ hx)
theorem minI_spec : ∀ (ys : List Int) (y : Int), minI y ys ∈ y :: ys ∧ ∀ x ∈ y :: ys, minI y ys ≤ x
  | [], y => by simp [minI]
  | z :: ys, y => by
    obtain ⟨h1, h2⟩ := minI_spec ys (if z < y then z else y)
    have e : minI y (z :: ys) = minI (if z < y then z else y) ys := rfl
    rw [e]
    have h3 := h2 _ List.mem_cons_self
    by_cases q : z < y
    · simp only [if_pos q] at *
      simp only [List.mem_cons] at *
      refine ⟨by rcases h1 with h | h <;> simp [h], fun x hx => ?_⟩
      rcases hx with rfl | rfl | hx
      · omega
      · omega
      · exact h2 x (.inr hx)
    · simp only [if_neg q] at *
      simp only [List.mem_cons] at *
      refine ⟨by rcases h1 with h | h <;> simp [h], fun x hx => ?_⟩
      rcases hx with rfl | rfl | hx
      · omega
      · omega
      · exact h2 x (.inr hx)
theorem maxI_spec : ∀ (ys : List Int) (y : Int), maxI y ys ∈ y :: ys ∧ ∀ x ∈ y :: ys, x ≤ maxI y ys
  | [], y => by simp [maxI]
  | z :: ys, y => by
    obtain ⟨h1, h2⟩ := maxI_spec ys (if y < z then z else y)
    have e : maxI y (z :: ys) = maxI (if y < z then z else y) ys := rfl
    rw [e]
    have h3 := h2 _ List.mem_cons_self
    by_cases q : y < z
    · simp only [if_pos q] at *
      simp only [List.mem_cons] at *
      refine ⟨by rcases h1 with h | h <;> simp [h], fun x hx => ?_⟩
      rcases hx with rfl | rfl | hx
      · omega
      · omega
      · exact h2 x (.inr hx)
    · simp only [if_neg q] at *
      simp only [List.mem_cons] at *
      refine ⟨by rcases h1 with h | h <;> simp [h], fun x hx => ?_⟩
      rcases hx with rfl | rfl | hx
      · omega
      · omega
      · exact h2 x (.inr hx)
theorem minT_uniq {y : List Nat} {ys : List (List Nat)} {m : List Nat} (h1 : m ∈ y :: ys) (h2 : ∀ x ∈ y :: ys, ¬ x < m) : m = minT y ys := by
  obtain ⟨a, b⟩ := minT_spec ys y
  have := h2 _ a
  have := b _ h1
  exact List.le_antisymm (List.not_lt.mp ‹¬ minT y ys < m›) (List.not_lt.mp ‹¬ m < minT y ys›)
/-- min(xs) -/
def min1D : List D → R D
  | [.lst x] => match strsD x with
    | some (y :: ys) => .ok (.str (minT y ys))
    | some [] => .bad
    | none => match intsD x with
      | some (n :: ns) => .ok (.int (minI n ns))
      | _ => .bad
  | _ => .bad
def max1D : List D → R D
  | [.lst x] => match intsD x with
    | some (n :: ns) => .ok (.int (maxI n ns))
    | _ => .bad
  | _ => .bad
theorem min1D_ne : NoExL min1D := fun x c vs h => by
  unfold min1D at h
  split at h
  · split at h
    · cases h
    · cases h
    · split at h <;> cases h
  · cases h
theorem max1D_ne : NoExL max1D := fun x c vs h => by
  unfold max1D at h
  split at h
  · split at h <;> cases h
  · cases h
theorem call_min1D (v : Pl X C W) : CallR X (.builtin "min") (rC C.G min1D) := by
  intro pins s σ H xs us Q I r h
  obtain ⟨F, ds, S, r2, p⟩ := h
  unfold min1D at p
  split at p
  · obtain ⟨u, rfl, b⟩ := pair1 r2
    obtain ⟨a, ys, rfl, q, rr⟩ := bor_lst S b
    rw [← v.K] at q
    split at p
    · rename_i y0 ns hn
      obtain ⟨e, hok⟩ := strs_rep hn rr
      rw [e] at q
      refine cr_minT v.calm pins s σ H _ us Q I r ⟨a, (y0 :: ns).map toS, rfl, q, by simp, fun m hm hall => ?_⟩
      obtain ⟨m', hm', rfl⟩ := List.mem_map.mp hm
      have e2 : m' = minT y0 ns := minT_uniq hm' fun x hx => hall (toS x) (List.mem_map_of_mem hx)
      have := p (.str (toS m')) F H (Ext.refl S) (by rw [← e2]; exact rep_str.mpr ⟨rfl, hok _ hm'⟩)
      exact this
    · exact p.elim
    · split at p
      · rename_i n0 ns hn
        rw [ints_rep hn rr] at q
        refine cr_min v.calm pins s σ H _ us Q I r ⟨a, n0 :: ns, rfl, q, by simp, fun m hm hall => ?_⟩
        obtain ⟨b1, b2⟩ := minI_spec ns n0
        have e2 : m = minI n0 ns := by
          have := hall _ b1
          have := b2 _ hm
          omega
        rw [e2]
        exact p.int S
      · exact p.elim
  · exact p.elim
theorem call_max1D (v : Pl X C W) : CallR X (.builtin "max") (rC C.G max1D) := by
  intro pins s σ H xs us Q I r h
  obtain ⟨F, ds, S, r2, p⟩ := h
  unfold max1D at p
  split at p
  · obtain ⟨u, rfl, b⟩ := pair1 r2
    obtain ⟨a, ys, rfl, q, rr⟩ := bor_lst S b
    rw [← v.K] at q
    split at p
    · rename_i n0 ns hn
      rw [ints_rep hn rr] at q
      refine cr_max v.calm pins s σ H _ us Q I r ⟨a, n0 :: ns, rfl, q, by simp, fun m hm hall => ?_⟩
      obtain ⟨b1, b2⟩ := maxI_spec ns n0
      have e2 : m = maxI n0 ns := by
        have := hall _ b1
        have := b2 _ hm
        omega
      rw [e2]
      exact p.int S
    · exact p.elim
  · exact p.elim
end
end
end Z
namespace Z
noncomputable section
open PySem PySem.Spec PySem.P PyProof.Rows L2
@[simp] theorem min1D_s (y : List Nat) (ys : List (List Nat)) : min1D [.lst (.str y :: ys.map .str)] = .ok (.str (minT y ys)) := by
  have : strsD (D.str y :: ys.map .str) = some (y :: ys) := strsD_map (y :: ys)
  unfold min1D
  dsimp only
  rw [this]
@[simp] theorem sortD_s (ys : List (List Nat)) : sortD [.lst (ys.map .str)] = .ok (.lst ((sortT ys).map .str)) := by
  unfold sortD
  dsimp only
  rw [strsD_map]
/-- where a thing stands first -/
theorem eqvL_map (xs : List (List Nat)) : ∀ ys : List (List Nat), eqvL (xs.map .str) (ys.map .str) = decide (xs = ys) := by
  induction xs with
  | nil => intro ys; cases ys <;> simp [eqvL]
  | cons x xs ih => intro ys; cases ys with
    | nil => simp [eqvL]
    | cons y ys => simp only [List.map_cons, eqvL, eqv, ih]; simp [Bool.beq_eq_decide_eq]
/-! ### words and their turns -/
def rot (w : List Nat) (k : Nat) : List Nat := w.drop k ++ w.take k
def rots (w : List Nat) : List (List Nat) := (List.range w.length).map (rot w)
def lrot (w : List Nat) : List Nat := match rots w with
  | [] => []
  | y :: ys => minT y ys
theorem rot_len (w : List Nat) (k : Nat) : (rot w k).length = w.length := by simp [rot]; omega
theorem rot_zero (w : List Nat) : rot w 0 = w := by simp [rot]
theorem rot_get (w : List Nat) (k i : Nat) (hk : k ≤ w.length) (hi : i < w.length) : (rot w k)[i]? = w[(i + k) % w.length]? := by
  unfold rot
  by_cases h : i < w.length - k
  · rw [List.getElem?_append_left (by simpa using h), List.getElem?_drop, Nat.mod_eq_of_lt (by omega), Nat.add_comm]
  · rw [List.getElem?_append_right (by simpa using h), List.getElem?_take, List.length_drop, if_pos (by omega)]
    congr 1
    have e : i + k = (i - (w.length - k)) + w.length := by omega
    rw [e, Nat.add_mod_right, Nat.mod_eq_of_lt (by omega)]
theorem rot_rot (w : List Nat) (i j : Nat) (hi : i ≤ w.length) (hj : j ≤ w.length) (hw : 0 < w.length) : rot (rot w i) j = rot w ((i + j) % w.length) := by
  apply List.ext_getElem?
  intro m
  by_cases hm : m < w.length
  · rw [rot_get _ _ _ (by rw [rot_len]; exact hj) (by rw [rot_len]; exact hm), rot_len, rot_get _ _ _ hi (Nat.mod_lt _ hw), rot_get _ _ _ (Nat.le_of_lt (Nat.mod_lt _ hw)) hm]
    rw [Nat.mod_add_mod, Nat.add_mod_mod, Nat.add_assoc, Nat.add_comm j i]
  · rw [List.getElem?_eq_none (by rw [rot_len, rot_len]; omega), List.getElem?_eq_none (by rw [rot_len]; omega)]
theorem rot_full (w : List Nat) : rot w w.length = w := by simp [rot]
theorem mem_rots {w x : List Nat} : x ∈ rots w ↔ ∃ k, k < w.length ∧ x = rot w k := by
  unfold rots
  rw [List.mem_map]
  constructor
  · rintro ⟨k, hk, rfl⟩; exact ⟨k, by simpa using hk, rfl⟩
  · rintro ⟨k, hk, rfl⟩; exact ⟨k, by simpa using hk, rfl⟩
theorem rots_len (w : List Nat) : (rots w).length = w.length := by simp [rots]
theorem rots_rot {w : List Nat} {i : Nat} (hi : i < w.length) {x : List Nat} : x ∈ rots (rot w i) ↔ x ∈ rots w := by
  have hw : 0 < w.length := by omega
  rw [mem_rots, mem_rots, rot_len]
  constructor
  · rintro ⟨k, hk, rfl⟩
    exact ⟨(i + k) % w.length, Nat.mod_lt _ hw, rot_rot w i k (by omega) (by omega) hw⟩
  · rintro ⟨k, hk, rfl⟩
    refine ⟨(k + (w.length - i)) % w.length, Nat.mod_lt _ hw, ?_⟩
    rw [rot_rot w i _ (by omega) (Nat.le_of_lt (Nat.mod_lt _ hw)) hw, Nat.add_mod_mod]
    have : i + (k + (w.length - i)) = k + w.length := by omega
    rw [this, Nat.add_mod_right, Nat.mod_eq_of_lt hk]
theorem self_rots {w : List Nat} (hw : w ≠ []) : w ∈ rots w := mem_rots.mpr ⟨0, List.length_pos_iff.mpr hw, (rot_zero w).symm⟩
theorem rots_cons {w : List Nat} (hw : w ≠ []) : ∃ ys, rots w = w :: ys := by
  have h := List.length_pos_iff.mpr hw
  unfold rots
  obtain ⟨n, hn⟩ : ∃ n, w.length = n + 1 := ⟨w.length - 1, by omega⟩
  rw [hn, List.range_succ_eq_map, List.map_cons, rot_zero]
  exact ⟨_, rfl⟩
theorem lrot_spec {w : List Nat} (hw : w ≠ []) : lrot w ∈ rots w ∧ ∀ x ∈ rots w, ¬ x < lrot w := by
  obtain ⟨ys, e⟩ := rots_cons hw
  unfold lrot
  rw [e]
  exact minT_spec ys w
theorem lrot_uniq {w m : List Nat} (hw : w ≠ []) (h1 : m ∈ rots w) (h2 : ∀ x ∈ rots w, ¬ x < m) : m = lrot w := by
  obtain ⟨a, b⟩ := lrot_spec hw
  have h3 := h2 _ a
  have h4 := b _ h1
  exact List.le_antisymm (List.not_lt.mp h3) (List.not_lt.mp h4)
theorem lrot_nil {w : List Nat} (hw : w ≠ []) : lrot w ≠ [] := by
  obtain ⟨k, h, e⟩ := mem_rots.mp (lrot_spec hw).1
  intro z
  have := congrArg List.length e
  rw [z, rot_len] at this
  simp at this
  omega
theorem lrot_len {w : List Nat} (hw : w ≠ []) : (lrot w).length = w.length := by
  obtain ⟨k, h, e⟩ := mem_rots.mp (lrot_spec hw).1
  rw [e, rot_len]
theorem lrot_rot {w : List Nat} {i : Nat} (hi : i < w.length) : lrot (rot w i) = lrot w := by
  have hw : w ≠ [] := by intro z; subst z; simp at hi
  have hw2 : rot w i ≠ [] := by intro z; have := rot_len w i; rw [z] at this; simp at this; omega
  obtain ⟨a, b⟩ := lrot_spec hw
  exact (lrot_uniq hw2 ((rots_rot hi).mpr a) fun x hx => b x ((rots_rot hi).mp hx)).symm
/-! ### small things of the laws -/
@[simp] theorem eqD_b (a b : Bool) : eqD (.bl a) (.bl b) = .ok (.bl (a == b)) := rfl
@[simp] theorem neD_b (a b : Bool) : neD (.bl a) (.bl b) = .ok (.bl (!(a == b))) := rfl
@[simp] theorem isi_str (x : List Nat) : isiD "str" (.str x) = .ok (.bl true) := rfl
@[simp] theorem isi_int (x : Int) : isiD "int" (.int x) = .ok (.bl true) := rfl
@[simp] theorem isi_ib (x : Int) : isiD "bool" (.int x) = .ok (.bl false) := rfl
@[simp] theorem isi_bb (x : Bool) : isiD "bool" (.bl x) = .ok (.bl true) := rfl
@[simp] theorem isi_lst (x : List D) : isiD "list" (.lst x) = .ok (.bl true) := rfl
@[simp] theorem isi_tup (x : List D) : isiD "tuple" (.tup x) = .ok (.bl true) := rfl
theorem letter_ok (i : Int) (h : 0 ≤ i) (h2 : i < 6) : ixD (.str [97, 98, 99, 100, 101, 102]) (.int i) = .ok (.str [97 + i.toNat]) := by
  have hz : ([97, 98, 99, 100, 101, 102] : List Nat).length ≤ SZ := le_sz (by decide)
  apply ixD_s _ _ h _ hz
  have : i = 0 ∨ i = 1 ∨ i = 2 ∨ i = 3 ∨ i = 4 ∨ i = 5 := by omega
  rcases this with rfl | rfl | rfl | rfl | rfl | rfl <;> rfl
/-- the laws' other mixing -/
def mixedI (c k : Int) : Int := ((c * 48271 + (k + 1) * (k + 1) * 69621) % 2147483647) * ((c * 48271 + (k + 1) * (k + 1) * 69621) % 2147483647) % 2147483629 / 8
theorem mixedI_nn (c k : Int) : 0 ≤ mixedI c k := Int.ediv_nonneg (Int.emod_nonneg _ (by decide)) (by decide)
/-- drawn letters -/
def Lets (kd : Int) (w : List Nat) : Prop := ∀ x ∈ w, 97 ≤ x ∧ (x : Int) < 97 + kd
theorem Lets.nil {kd : Int} : Lets kd [] := fun _ h => by cases h
theorem Lets.app {kd : Int} {a b : List Nat} (h1 : Lets kd a) (h2 : Lets kd b) : Lets kd (a ++ b) := fun x h => by
  rcases List.mem_append.mp h with h | h
  · exact h1 x h
  · exact h2 x h
theorem Lets.take {kd : Int} {a : List Nat} (h : Lets kd a) (n : Nat) : Lets kd (a.take n) := fun x hx => h x (List.mem_of_mem_take hx)
theorem Lets.drop {kd : Int} {a : List Nat} (h : Lets kd a) (n : Nat) : Lets kd (a.drop n) := fun x hx => h x (List.mem_of_mem_drop hx)
theorem Lets.one {kd i : Int} (h : 0 ≤ i) (h2 : i < kd) : Lets kd [97 + i.toNat] := fun x hx => by
  rw [List.mem_singleton] at hx
  subst hx
  omega
theorem Lets.as {kd : Int} (h : 1 ≤ kd) (n : Nat) : Lets kd (List.replicate n 97) := fun x hx => by
  have := List.eq_of_mem_replicate hx
  subst this
  omega
theorem repS_a (n : Nat) : repS [97] n = List.replicate n 97 := by
  unfold repS
  induction n with
  | zero => rfl
  | succ n ih => rw [List.replicate_succ, List.flatten_cons, ih]; rfl
theorem depL_strs (xs : List (List Nat)) : depL (xs.map .str) = 0 := by
  induction xs with
  | nil => simp [depL]
  | cons x xs ih => simp only [List.map_cons, depL, ih, dep]; rfl
theorem idxL_str {xs : List (List Nat)} {y : List Nat} (h : y ∈ xs) : idxL (.lst (xs.map .str)) [.str y] = .ok (.int (xs.findIdx (· == y) : Nat)) := by
  have e : (fun z => eqv z (D.str y)) ∘ D.str = fun x => x == y := by
    funext x
    rfl
  unfold idxL
  dsimp only
  rw [depL_strs, if_pos ⟨by omega, by simp [dep]⟩, List.any_map, e, List.findIdx_map, e, if_pos]
  simpa using h
/-! letters -/
def abc (k : Int) : List Nat := [97, 98, 99, 100, 101, 102].take k.toNat
theorem mem_abc {k : Int} (h1 : 1 ≤ k) (h2 : k ≤ 6) {c : Nat} : c ∈ abc k ↔ 97 ≤ c ∧ (c : Int) < 97 + k := by
  have : k = 1 ∨ k = 2 ∨ k = 3 ∨ k = 4 ∨ k = 5 ∨ k = 6 := by omega
  rcases this with rfl | rfl | rfl | rfl | rfl | rfl <;> simp [abc] <;> omega
def goodW (w : List Nat) (k : Int) : Bool := decide (1 ≤ w.length) && decide (w.length ≤ 24) && w.all fun c => decide (97 ≤ c) && decide ((c : Int) < 97 + k)
theorem goodW_iff {w : List Nat} {k : Int} : goodW w k = true ↔ 1 ≤ w.length ∧ w.length ≤ 24 ∧ Lets k w := by
  unfold goodW Lets
  simp [and_assoc]
@[simp] theorem itD_s (x : List Nat) : itD (.str x) = .ok (x.map fun c => .str [c]) := rfl
theorem inS_one (c : Nat) (y : List Nat) : inS [c] y = decide (c ∈ y) := by
  unfold inS
  rw [Bool.eq_iff_iff]
  simp only [List.any_eq_true, List.mem_range, beq_iff_eq, decide_eq_true_eq]
  constructor
  · rintro ⟨i, hi, h⟩
    have : c ∈ (y.drop i).take 1 := by
      have h' : (y.drop i).take 1 = [c] := h
      rw [h']; simp
    exact List.mem_of_mem_drop (List.mem_of_mem_take this)
  · intro h
    obtain ⟨i, hi, rfl⟩ := List.mem_iff_getElem.mp h
    refine ⟨i, by omega, ?_⟩
    show (y.drop i).take 1 = [y[i]]
    rw [List.drop_eq_getElem_cons hi]
    rfl
@[simp] theorem inD_sf (x y : List Nat) : inD false (.str x) (.str y) = .ok (.bl (inS x y)) := by
  show R.ok (D.bl (xor false (inS x y))) = _
  rw [Bool.false_xor]
@[simp] theorem inD_st (x y : List Nat) : inD true (.str x) (.str y) = .ok (.bl (!inS x y)) := by
  show R.ok (D.bl (xor true (inS x y))) = _
  rw [Bool.true_xor]
theorem letters_idx (c : Nat) (h : 97 ≤ c) (h2 : c < 103) : idxS (.str [97, 98, 99, 100, 101, 102]) [.str [c]] = .ok (.int ((c : Int) - 97)) := by
  have : c = 97 ∨ c = 98 ∨ c = 99 ∨ c = 100 ∨ c = 101 ∨ c = 102 := by omega
  rcases this with rfl | rfl | rfl | rfl | rfl | rfl <;> rfl
/-- a word's number -/
def numW (k : Int) (w : List Nat) : Int := w.foldl (fun (n : Int) (c : Nat) => n * k + ((c : Int) - 97)) 0
theorem numW_app (k : Int) (w : List Nat) (c : Nat) : numW k (w ++ [c]) = numW k w * k + ((c : Int) - 97) := by simp [numW]
@[simp] theorem numW_nil (k : Int) : numW k [] = 0 := rfl
/-- the word of a number -/
def wordN (k : Int) : Nat → Int → List Nat
  | 0, _ => []
  | n + 1, i => wordN k n (i / k) ++ [97 + (i % k).toNat]
theorem wordN_len (k : Int) : ∀ (n : Nat) (i : Int), (wordN k n i).length = n
  | 0, _ => rfl
  | n + 1, i => by simp [wordN, wordN_len k n]
theorem wordN_lets {k : Int} (hk : 1 ≤ k) : ∀ (n : Nat) (i : Int), Lets k (wordN k n i)
  | 0, _ => Lets.nil
  | n + 1, i => (wordN_lets hk n _).app (Lets.one (Int.emod_nonneg _ (by omega)) (Int.emod_lt_of_pos _ (by omega)))
theorem numW_wordN {k : Int} (hk : 1 ≤ k) : ∀ (n : Nat) (i : Int), 0 ≤ i → i < k ^ n → numW k (wordN k n i) = i
  | 0, i, h, h2 => by simp at h2; simp [wordN]; omega
  | n + 1, i, h, h2 => by
    have h3 : i / k < k ^ n := by
      apply Int.ediv_lt_of_lt_mul (by omega)
      rwa [← Int.pow_succ]
    have e1 := Int.emod_nonneg i (show k ≠ 0 by omega)
    rw [wordN, numW_app, numW_wordN hk n _ (Int.ediv_nonneg h (by omega)) h3]
    have := Int.mul_ediv_add_emod i k
    have e2 : ((97 + (i % k).toNat : Nat) : Int) - 97 = i % k := by omega
    rw [e2, Int.mul_comm]
    omega
/-! own lists -/
section
variable {s : SS} {fe : SS → R D}
def getOw : Option Sl → Option (List D)
  | some (.ow (.lst xs)) => some xs
  | _ => none
@[simp] theorem getOw_l (xs : List D) : getOw (some (.ow (.lst xs))) = some xs := rfl
theorem owL_s (i : Nat) : owL s i = getOw s[i]? := by
  unfold owL
  generalize s[i]? = o
  cases o with
  | none => rfl
  | some x => cases x with
    | ow d => cases d <;> rfl
    | _ => rfl
def rMut (s : SS) (i : Nat) (o : Option (List D)) (r : R D) (g : List D → D → R (List D)) : RS := match o with
  | some xs => rE s r fun d s => match g xs d with
    | .ok ys => if ys.length ≤ SZ then .nx (s.set i (.ow (.lst ys))) else .bad
    | _ => .bad
  | none => .bad
theorem sMut_s (i : Nat) (g : List D → D → R (List D)) : sMut i fe g s = rMut s i (getOw s[i]?) (fe s) g := by
  unfold sMut
  rw [owL_s]
  cases getOw s[i]? with
  | none => rfl
  | some xs => rfl
@[simp] theorem sApp_s (i : Nat) : sApp i fe s = rMut s i (getOw s[i]?) (fe s) gApp := sMut_s i gApp
@[simp] theorem sExt_s (i : Nat) : sExt i fe s = rMut s i (getOw s[i]?) (fe s) gExt := sMut_s i gExt
@[simp] theorem rMut_app (i : Nat) (xs : List D) (d : D) : rMut s i (some xs) (.ok d) gApp = if xs.length + 1 ≤ SZ then .nx (s.set i (.ow (.lst (xs ++ [d])))) else .bad := by
  show (if (xs ++ [d]).length ≤ SZ then _ else _) = _
  rw [List.length_append]
  rfl
@[simp] theorem rMut_ext (i : Nat) (xs ys : List D) : rMut s i (some xs) (.ok (.lst ys)) gExt = if xs.length + ys.length ≤ SZ then .nx (s.set i (.ow (.lst (xs ++ ys)))) else .bad := by
  show (if (xs ++ ys).length ≤ SZ then _ else _) = _
  rw [List.length_append]
@[simp] theorem rMut_ex (i : Nat) (xs : List D) (c : Nat) (vs : List D) (g : List D → D → R (List D)) : rMut s i (some xs) (.ex c vs) g = .ex c vs s := rfl
/-- an own thing becomes a shared one -/
def frzS : Option Sl → Option D
  | some (.ow d) => some d
  | _ => none
@[simp] theorem sFrz_s (i : Nat) (f : SS → RS) : sFrz i f s = f (frz i s) := rfl
def frzG (s : SS) (i : Nat) : Option Sl → SS
  | some (.ow d) => s.set i (.sh d)
  | _ => s
@[simp] theorem frz_g (i : Nat) : frz i s = frzG s i s[i]? := rfl
@[simp] theorem frzG_ow (i : Nat) (d : D) : frzG s i (some (.ow d)) = s.set i (.sh d) := rfl
@[simp] theorem frzG_sh (i : Nat) (d : D) : frzG s i (some (.sh d)) = s := rfl
theorem frz_s (i : Nat) (d : D) (h : s[i]? = some (.ow d)) : frz i s = s.set i (.sh d) := by
  unfold frz
  rw [h]
@[simp] theorem sRetO_s (i : Nat) : sRetO i s = match s[i]? with | some (.ow d) => .rt true d | _ => .bad := rfl
end
theorem numW_cons (k : Int) (c : Nat) (w : List Nat) : numW k (c :: w) = ((c : Int) - 97) * k ^ w.length + numW k w := by
  have : ∀ (w : List Nat) (a : Int), w.foldl (fun (n : Int) (c : Nat) => n * k + ((c : Int) - 97)) a = a * k ^ w.length + numW k w := by
    intro w
    induction w with
    | nil => intro a; simp [numW]
    | cons b r ih =>
      intro a
      have h2 : numW k (b :: r) = (0 * k + ((b : Int) - 97)) * k ^ r.length + numW k r := by
        show r.foldl _ _ = _
        rw [ih]
      show r.foldl _ (a * k + ((b : Int) - 97)) = _
      rw [ih, h2, List.length_cons, Int.pow_succ]
      rw [Int.add_mul, Int.add_mul]
      rw [show a * (k ^ r.length * k) = a * k * k ^ r.length by rw [Int.mul_assoc, Int.mul_comm (k ^ r.length)]]
      omega
  show w.foldl _ (0 * k + ((c : Int) - 97)) = _
  rw [this]
  simp
theorem numW_word {k : Int} (hk : 1 ≤ k) : ∀ (n : Nat) (w : List Nat), w.length = n → Lets k w → 0 ≤ numW k w ∧ numW k w < k ^ n ∧ wordN k n (numW k w) = w
  | 0, w, h, _ => by
    have : w = [] := List.length_eq_zero_iff.mp h
    subst this
    simp [wordN]
  | n + 1, w, h, hl => by
    have hne : w ≠ [] := by intro z; subst z; simp at h
    have e := List.dropLast_concat_getLast hne
    have h1 : w.dropLast.length = n := by rw [List.length_dropLast, h]; rfl
    have h2 : Lets k w.dropLast := fun x hx => hl x (List.dropLast_subset w hx)
    have h3 := hl _ (List.getLast_mem hne)
    generalize w.getLast hne = c at e h3
    generalize w.dropLast = v at e h1 h2
    subst e
    obtain ⟨a1, a2, a3⟩ := numW_word hk n v h1 h2
    rw [numW_app]
    have e1 : (numW k v * k + ((c : Int) - 97)) / k = numW k v := by
      rw [Int.add_comm, Int.add_mul_ediv_right _ _ (by omega), Int.ediv_eq_zero_of_lt (by omega) (by omega)]
      omega
    have e2 : (numW k v * k + ((c : Int) - 97)) % k = (c : Int) - 97 := by
      rw [Int.add_comm, Int.add_mul_emod_self_right, Int.emod_eq_of_lt (by omega) (by omega)]
    refine ⟨?_, ?_, ?_⟩
    · have := Int.mul_nonneg a1 (show 0 ≤ k by omega)
      omega
    · rw [Int.pow_succ]
      have : numW k v * k ≤ (k ^ n - 1) * k := Int.mul_le_mul_of_nonneg_right (by omega) (by omega)
      rw [Int.sub_mul] at this
      omega
    · rw [wordN, e1, e2, a3]
      congr 2
      omega
@[simp] theorem rng3_i (i j : Int) (h : fit62 i) (h2 : fit62 j) : rng3 [.int i, .int j, .int (-1)] = .ok (downD i j) := by unfold rng3; simp [h, h2]
theorem eqD_ok (d e : D) : eqD d e = if dep d ≤ 64 ∧ dep e ≤ 64 then .ok (.bl (eqv d e)) else .bad := rfl
theorem neD_ok (d e : D) : neD d e = if dep d ≤ 64 ∧ dep e ≤ 64 then .ok (.bl (!eqv d e)) else .bad := rfl
end
end Z
namespace Z
noncomputable section
open PySem PySem.Spec PySem.P PyProof.Rows L2
/-! ### raise -/
def sRaise (c : Nat) : SS → RS := fun s => .ex c [] s
theorem s_raise {X : Cx} {C : CT} {W : WX} {x m : Str} {j c : Nat} {B newId initId : String} {bmB : List Value} {D : Addr} {p p2 pos pos' : Pos} (v : Pl X C W) (F : ExcBaseFacts B newId initId bmB) (q : PySem.W.excIn X.K D bmB newId = true) (gC : X.mg x = some (.ref D))
    (kC : PySem.W.keepIn X.K (.ref D) = true) (r : Raises X (.ref D)) (hx : C.G.xcl c = some (D, [])) (hg : Gl X x) (hdb : (x == ("__debug__" : Str)) = false := by decide) :
    PS X (.Raise (some (.Call (.Name x p) [.Constant (.str m) j p2] [] pos)) none pos') (tS C W (sRaise c)) :=
  ps_imp (ps_raise v.calm v.tk (pmk_own F q gC kC r hg hdb)) fun En σ H ⟨F, sd, S, h⟩ => h (.ref D) none F H σ S (Same.refl F) Lk.refl ⟨D, [], hx, rfl, .inl ⟨rfl, rfl, rfl⟩⟩
/-! ### try: body, except x as n: suite; the exception is kept -/
section
variable {X : Cx} {pins : List (Addr × Obj)} {σ : L2.St} {H : Hp} {s : Shared}
/-- the place of an except suite -/
abbrev suit (X : Cx) (a : Addr) (pn : List (Addr × Obj)) : Cx := { X with A := X.A.mark (some (.ref a)), calm := false, pn := pn, xe := fun _ _ => False }
theorem suit_ok (ok : X.Ok) (a : Addr) (pn : List (Addr × Obj)) : (suit X a pn).Ok :=
  ⟨ok.mod, ok.kind, ok.glob, ok.blt, ok.above, ok.inj, ok.has, ok.cab, (fun z => absurd (show false = true from z) Bool.false_ne_true), ok.frames, ok.stk, ok.exf, ok.bs, ok.bsz, ok.noex, ok.exfs, ok.funs, ok.frf⟩
/-- the caught object becomes a known thing -/
theorem inv_suit (I : Inv X pins σ H s) {a : Addr} {oe : Obj} {vs : Array Value} {cls : Value} {dx : Option Addr} (ha : s.heap.get? a = some oe) (hd : oe.data = .fields vs) (hz : Zc cls dx oe) (na : H a = none) (nL : a ≠ X.env.locals)
    (nP : ∀ p ∈ X.pn ++ pins, p.1 ≠ a) (n0 : X.s_0.heap.get? a = none) : Inv (suit X a (X.pn ++ pins)) [] σ (upd H a (exo a cls dx)) s := by
  have ne : ∀ {b : Addr} {u : HO}, H b = some u → b ≠ a := fun h => ne_of_none h na
  refine ⟨suit_ok I.ok _ _, I.os, I.bare, ⟨I.base.keep, I.base.slot, fun b o e n hx => ?_, I.base.there, fun b xs e => ?_, fun b o u e => ?_, fun b ps e => ?_⟩, I.loc, I.cell, ?_, fun x c e => ?_, fun p hp => ?_, fun b u e => ?_, I.len⟩
  · have hb : b ≠ a := fun z => by subst z; rw [n0] at e; cases e
    rw [upd_ne hb]
    exact I.base.free b o e n hx
  · have q := I.base.tups b xs e
    rw [upd_ne (ne q)]
    exact q
  · have q := I.base.frzs b o u e
    rw [upd_ne (ne q)]
    exact q
  · obtain ⟨more, q⟩ := I.base.tbls b ps e
    exact ⟨more, by rw [upd_ne (ne q)]; exact q⟩
  · show upd H a (exo a cls dx) X.env.locals = none
    rw [upd_ne (Ne.symm nL)]
    exact I.free
  · have hc : c ≠ a := fun z => by
      subst z
      obtain ⟨v, o, q1, q2⟩ := I.cell x c e
      rw [ha] at q1
      cases q1
      rw [hd] at q2
      cases q2
    show upd H a (exo a cls dx) c = none
    rw [upd_ne hc]
    exact I.freeC x c e
  · have hp' : p ∈ X.pn ++ pins := by rw [List.append_nil] at hp; exact hp
    obtain ⟨q1, q2, q3, q4, q5⟩ := I.pin p hp'
    exact ⟨q1, by rw [upd_ne (nP p hp')]; exact q2, q3, q4, q5⟩
  · by_cases hb : b = a
    · subst hb
      rw [upd_same] at e
      cases e
      exact ⟨⟨oe, vs, ha, hz, hd⟩, ⟨oe, ha⟩, fun h1 h2 ⟨o1, v1, q1, q2, q3⟩ k => ⟨o1, v1, k _ q1, q2, q3⟩⟩
    · rw [upd_ne hb] at e
      exact (I.hok b u e).stay (fun c w' hc q => q) (fun c q => by rw [upd_ne (ne q)]; exact q) fun c xs q => by rw [upd_ne (ne q)]; exact q
theorem inv_unsuit {a : Addr} {pn' : List (Addr × Obj)} (I : Inv (suit X a (X.pn ++ pins)) pn' σ H s) (ok : X.Ok) : Inv X pins σ H s :=
  ⟨ok, I.os, I.bare, I.base, I.loc, I.cell, I.free, I.freeC, fun p hp => I.pin p (List.mem_append_left _ hp), I.hok, I.len⟩
/-- what the clause wishes -/
def wEx (K : PySem.W.Frag) (c : Value) (i : Nat) (ts : TS) (Wout : WX) (D : Ends) : WX := fun cls d σ H =>
  ∃ b, PySem.W.exmOne K cls c = some b ∧ (b = true → ∀ a, H a = none → ts { nx := fun σ' H' => D.nx (σ'.set i none) H', rt := D.rt, bk := fun σ' H' => D.bk (σ'.set i none) H', ct := fun σ' H' => D.ct (σ'.set i none) H' } (σ.set i (some (.ref a))) (upd H a (exo a cls d))) ∧
    (b = false → Wout cls d σ H)
end
section
variable {X : Cx} {x n : Str} {c : Value} {i : Nat} {body suite : List Stmt} {b₀ : Stmt} {np pos pos' : Pos} {tb : WX → TS} {ts : TS} {Wout : WX}
theorem ps_try_exo (hs : X.stack = X.env :: X.outer) (hf : X.env.frame = some X.env.locals) (hex : X.ex = []) (hN : X.N.Nodup) (hi : X.N[i]? = some n) (hln : X.env.kindOf n = some .local) (hc : Names X x c) (tk : Takes X Wout)
    (hb : ∀ (W : WX) (pn : List (Addr × Obj)) (xe : Value → Shared → Prop), Takes (X.tr pn xe) W → PassesOwn (model X.prog X.w) X.A X.env xe → PSs (X.tr pn xe) body (tb W))
    (hsu : ∀ (a : Addr) (pn : List (Addr × Obj)), PSs (suit X a pn) (b₀ :: suite) ts) :
    PS X (.Try body [.ExceptHandler (some (.Name x np)) (some n) (b₀ :: suite) pos'] [] [] pos) (fun D σ H => tb (wEx X.K c i ts Wout D) D σ H) := by
  refine ⟨fun pins s σ H D I h => ?_⟩
  have ok := I.ok
  have hfr : X.A.frames = some (X.env :: X.outer) := by rw [ok.frames, hs]
  have hloc : Loc X.env.scope n := .inl hln
  refine wpAny_Try_except ?_
  refine wpAny_mono ((hb (wEx X.K c i ts Wout D) (X.pn ++ pins) (fun e s₁ => wpAny (model X.prog X.w) X.A (noteFrame e X.env) (fun _ s₂ => wpAny (model X.prog X.w) X.A (setFlight e none) (fun _ s₃ =>
    wpAny (model X.prog X.w) X.A (handleBy e X.env [.ExceptHandler (some (.Name x np)) (some n) (b₀ :: suite) pos']) (SP X pins D) X.xe s₃) X.xe s₂) X.xe s₁) (fun u s' xx => ?_) PassesOwn.looking).run [] s σ H D (I.toTry _) h) (fun f s1 hsp => ?_) (fun e s1 he => he)
  · obtain ⟨a, B, sI, pins', σ', H', cls, d, rfl, J', nb, up, sky, na, os, ag, b, hb1, hyes, hno⟩ := xx
    have J : Inv X pins σ' H' sI := J'.ofTry ok
    have sky' : Sky B (X.env :: X.outer) a (Zc cls d) X.env.locals s'.heap := by rw [← hs]; exact sky
    show wpAny (model X.prog X.w) X.A (noteFrame (.ref a) X.env) _ _ _
    refine Sky.land Zc.steady hfr hf sky' fun h3 fl3 up3 => ?_
    have J3 : Inv X pins σ' H' { s' with heap := h3 } := J.landed nb fl3.1 (up.trans up3) os ag
    obtain ⟨oe3, vs3, he3, hz3, hd3⟩ := fl3.there
    have notFr : ∀ {h : Heap} {o : Obj} {vs : Array Value}, h.FunFrames B (X.env :: X.outer) → h.get? a = some o → o.data = .fields vs → a ∉ frs (X.env :: X.outer) := fun {h o vs} ff e dd hm => by
      obtain ⟨_, o', e', hnf⟩ := ff.mem hm
      rw [e] at e'; cases e'
      exact hnf _ dd
    have nfr := notFr fl3.2.2.1 he3 hd3
    have nL : a ≠ X.env.locals := fun z => nfr (List.mem_filterMap.mpr ⟨X.env, List.mem_cons_self, by rw [hf, z]⟩)
    have nI : sI.heap.get? a = none := by
      cases q : sI.heap.get? a with
      | none => rfl
      | some o =>
        have := nb a o q (by rw [hs]; exact nfr)
        rw [fl3.2.1] at this
        cases this
    have n0 : X.s_0.heap.get? a = none := by
      cases q : X.s_0.heap.get? a with
      | none => rfl
      | some o =>
        obtain ⟨o', q'⟩ := J.base.there a o q (by rw [hex]; intro z; cases z)
        rw [nI] at q'
        cases q'
    have nP : ∀ p ∈ X.pn ++ pins, p.1 ≠ a := fun p hp z => by
      obtain ⟨q1, _⟩ := J.pin p hp
      rw [z, nI] at q1
      cases q1
    have S3 := inv_suit J3 he3 hd3 hz3 na nL nP n0
    refine wpAny_handleBy_cons (codeAny_handlers_test ?_) (by intro q; cases q)
    have LT : PySem.W.Looks (model X.prog X.w) h3 (typeOf (.ref a)) cls := fun A Q E s k q => wpAny_typeOf_ref (k _ _ he3) (by rw [hz3.1]; exact q)
    have LM := PySem.W.exm_one (M := model X.prog X.w) (J3.kIn) LT hb1
    have test : ∀ {Q : Value → Shared → Prop} {E : Value → Shared → Prop}, Q c { s' with heap := h3 } → wpAny (model X.prog X.w) (X.A.mark (some (.ref a))) (eval (.Name x np) X.env) Q E { s' with heap := h3 } := fun {Q E} q => by
      obtain ⟨hg, hdbg, hm | ⟨hm, hv, hnn⟩⟩ := hc
      · exact ld_glob (X := suit X a (X.pn ++ pins)) S3 hg hm q hdbg
      · exact ld_blt (X := suit X a (X.pn ++ pins)) S3 hg hm hv q hnn hdbg
    refine test (LM.here ?_)
    cases b with
    | true =>
      refine codeAny_handlers_suite_as ?_
      refine HandSPX.lands_againZ fl3 fun h4 fl4 up4 => ?_
      have J4 : Inv X pins σ' H' { s' with heap := h4 } := J.landed nb fl4.1 ((up.trans up3).trans up4) os ag
      obtain ⟨oe4, vs4, he4, hz4, hd4⟩ := fl4.there
      have S4 := inv_suit J4 he4 hd4 hz4 na nL nP n0
      refine store_ok (X := suit X a (X.pn ++ pins)) (v := .ref a) S4 hN hi hloc rfl (fun s5 S5 => ?_) (.inr hln)
      refine wpAny_mono ((hsu a (X.pn ++ pins)).run [] s5 _ _ _ S5 (hyes rfl a na)) (fun f s6 hsp => ?_) (fun _ _ z => False.elim z)
      have end_ : ∀ {σ6 : L2.St} {H6 : Hp} {Q : Shared → Prop}, Inv (suit X a (X.pn ++ pins)) [] σ6 H6 s6 → (∀ s7, Inv X pins (σ6.set i none) H6 s7 → Q s7) →
          wpAny (model X.prog X.w) X.A (do bindName X.env n .none; unbindBehindTheSuite X.env n pos') (fun _ s7 => Q s7) X.xe s6 := fun {σ6 H6 Q} S6 hq => gone_ok (inv_unsuit S6 ok) hN hi hln hq
      cases f with
      | next =>
        obtain ⟨σ6, H6, S6, q6⟩ := hsp
        exact end_ S6 fun s7 J7 => ⟨_, _, J7, q6⟩
      | brk =>
        obtain ⟨σ6, H6, S6, q6⟩ := hsp
        exact end_ S6 fun s7 J7 => ⟨_, _, J7, q6⟩
      | cont =>
        obtain ⟨σ6, H6, S6, q6⟩ := hsp
        exact end_ S6 fun s7 J7 => ⟨_, _, J7, q6⟩
      | ret u =>
        obtain ⟨v6, σ6, H6, S6, r6, q6⟩ := hsp
        exact end_ S6 fun s7 J7 => ⟨_, _, _, J7, r6, q6⟩
    | false =>
      show wpAny _ X.A (handleBy (.ref a) X.env []) _ _ _
      refine wpAny_handleBy_nil ?_
      obtain ⟨k1, k2, k3, oe, vs, T, oT, ts', he, hz, hd, h1, hr⟩ := id fl3
      unfold PySem.passOn
      refine wpAny_bind (wpAny_field he hd h1 ?_)
      rw [if_neg (show ¬ ((Value.ref T == Value.none) = true) from by simp)]
      have fin : wpAny (model X.prog X.w) X.A (setFlight (.ref a) X.env.frame) (fun _ s4 => wpAny (model X.prog X.w) X.A (throw (.ref a) : Sem Flow) (SP X pins D) X.xe s4) X.xe { s' with heap := h3 } := by
        rw [hf]
        refine HandSPX.setFlight_upZ fl3 fun h4 hh4 up4 => wpAny_throw (tk _ _ ?_)
        exact ⟨a, B, sI, pins, σ', H', cls, d, rfl, J, nb, (up.trans up3).trans up4, .inr (.inr (by rw [hs]; exact hh4)), na, os, ag, hno rfl⟩
      first
        | exact wpAny_bind (wpAny_pure (wpAny_bind fin))
        | exact wpAny_bind fin
  · cases f with
    | next =>
      obtain ⟨σ', H', J', q⟩ := hsp
      exact wpAny_execs_nil ⟨σ', H', J'.ofTry ok, q⟩
    | brk =>
      obtain ⟨σ', H', J', q⟩ := hsp
      exact ⟨σ', H', J'.ofTry ok, q⟩
    | cont =>
      obtain ⟨σ', H', J', q⟩ := hsp
      exact ⟨σ', H', J'.ofTry ok, q⟩
    | ret u =>
      obtain ⟨v, σ', H', J', r, q⟩ := hsp
      exact ⟨v, σ', H', J'.ofTry ok, r, q⟩
end
/-! ### classes of exceptions: number 0 is the one over all -/
def isX (c k : Nat) : Bool := c == k || k == 0
def wipeR (i : Nat) : RS → RS
  | .nx s => .nx (s.set i .no)
  | .bk s => .bk (s.set i .no)
  | .ct s => .ct (s.set i .no)
  | .rt b d => .rt b d
  | .ex _ _ _ => .bad
  | .bad => .bad
def catchR (i k : Nat) (fsu : SS → RS) : RS → RS
  | .ex c vs s => if isX c k = true then (match setS s i (.sh (.exc c vs)) with
    | some s2 => wipeR i (fsu s2)
    | none => .bad) else .ex c vs s
  | r => r
def sTry (i k : Nat) (fb fsu : SS → RS) : SS → RS := fun s => catchR i k fsu (fb s)
theorem StR.wipe1 {C : CT} {F H : Hp} {s : SS} {σ : L2.St} {i : Nat} (S : StR C F H s σ) : StR C F H (s.set i .no) (σ.set i none) := by
  have ne : ∀ {j : Nat} {x : Sl}, x ≠ .no → (s.set i .no)[j]? = some x → i ≠ j ∧ s[j]? = some x := fun {j x} hx h => by
    by_cases hij : i = j
    · subst hij
      by_cases hl : i < s.length
      · rw [List.getElem?_set_self hl] at h; cases h; exact (hx rfl).elim
      · rw [List.getElem?_eq_none (by simpa using hl)] at h; cases h
    · rw [List.getElem?_set_ne hij] at h
      exact ⟨hij, h⟩
  have ne2 : ∀ {j : Nat} {d : D}, (s.set i .no)[j]? = some (.ow d) ∨ (s.set i .no)[j]? = some (.lk d) → i ≠ j ∧ (s[j]? = some (.ow d) ∨ s[j]? = some (.lk d)) := fun {j d} h => by
    rcases h with h | h
    · exact ⟨(ne (by intro z; cases z) h).1, .inl (ne (by intro z; cases z) h).2⟩
    · exact ⟨(ne (by intro z; cases z) h).1, .inr (ne (by intro z; cases z) h).2⟩
  refine ⟨S.ext, by rw [List.length_set, List.length_set]; exact S.len, fun j d q => ?_, fun j d q => ?_, fun j k d e a q1 q2 q3 q4 => ?_⟩
  · obtain ⟨h1, h2⟩ := ne (by intro z; cases z) q
    rw [List.getElem?_set_ne h1]
    exact S.sh j d h2
  · obtain ⟨h1, h2⟩ := ne2 q
    rw [List.getElem?_set_ne h1]
    exact S.ow j d h2
  · obtain ⟨h1, h2⟩ := ne2 q1
    obtain ⟨h3, h4⟩ := ne2 q2
    rw [List.getElem?_set_ne h1] at q3
    rw [List.getElem?_set_ne h3] at q4
    exact S.dis j k d e a h2 h4 q3 q4
theorem s_try {X : Cx} {C : CT} {W : WX} {x n : Str} {D : Addr} {body suite : List Stmt} {b₀ : Stmt} {np pos pos' : Pos} {fb fsu : SS → RS} (v : Pl X C W) (i k : Nat) (hN : X.N.Nodup) (hc : Names X x (.ref D))
    (he : ∀ c A ns, C.G.xcl c = some (A, ns) → PySem.W.exmOne X.K (.ref A) (.ref D) = some (isX c k))
    (hb : ∀ (W' : WX) (pn : List (Addr × Obj)) (xe : Value → Shared → Prop), Pl (X.tr pn xe) C W' → PSs (X.tr pn xe) body (tS C W' fb))
    (hsu : ∀ (a : Addr) (pn : List (Addr × Obj)), PSs (suit X a pn) (b₀ :: suite) (tS C WNo fsu))
    (hs : X.stack = X.env :: X.outer := by rfl) (hf : X.env.frame = some X.env.locals := by rfl) (hex : X.ex = [] := by rfl) (hi : X.N[i]? = some n := by rfl) (hln : X.env.kindOf n = some .local := by rfl) :
    PS X (.Try body [.ExceptHandler (some (.Name x np)) (some n) (b₀ :: suite) pos'] [] [] pos) (tS C W (sTry i k fb fsu)) := by
  refine ps_imp (ps_try_exo (i := i) (tb := fun W' => tS C W' fb) hs hf hex hN hi hln hc v.tk (fun W' pn xe tk ps => hb W' pn xe ⟨⟨v.K, v.hu, tk, ps⟩, v.calm⟩) hsu) fun En σ H ⟨F, sd, S, h⟩ => ?_
  refine ⟨F, sd, S, ?_⟩
  unfold sTry at h
  cases q : fb sd with
  | nx s' => rw [q] at h; exact h
  | bk s' => rw [q] at h; exact h
  | ct s' => rw [q] at h; exact h
  | rt b d => rw [q] at h; cases b <;> exact h
  | bad => rw [q] at h; exact h.elim
  | ex c vs s' =>
    rw [q] at h
    intro cls dx F' H' σ' S' f' l' xr
    obtain ⟨A, ns, hx, rfl, hxd⟩ := xr
    refine ⟨isX c k, he c A ns hx, fun hyes a na => ?_, fun hno => ?_⟩
    · have h : PostS C W F sd σ En (if isX c k = true then (match setS s' i (.sh (.exc c vs)) with | some s2 => wipeR i (fsu s2) | none => .bad) else .ex c vs s') := h
      rw [if_pos hyes] at h
      cases q2 : setS s' i (.sh (.exc c vs)) with
      | none => rw [q2] at h; exact h.elim
      | some s2 =>
        rw [q2] at h
        dsimp only at h
        have e1 : Ext F' H' (upd F' a (exo a (.ref A) dx)) (upd H' a (exo a (.ref A) dx)) := Ext.new S'.fh na
        have fa : F' a = none := S'.fh.free na
        have rr : Rep C.G (upd F' a (exo a (.ref A) dx)) (.exc c vs) (.ref a) := by
          unfold Rep
          refine ⟨a, A, ns, dx, rfl, hx, upd_same, ?_⟩
          rcases hxd with ⟨h1, h2, h3⟩ | ⟨d, fs, h1, h2, h3, h4⟩
          · exact .inl ⟨h1, h2, h3⟩
          · exact .inr ⟨d, fs, h1, e1.ff _ _ h2, h3, RepL.mono e1.ff h4⟩
        have S2 := (S'.mono e1).setSh q2 rr
        have l2 : Lk sd σ s2 (σ'.set i (some (.ref a))) := l'.trans (lk_set q2)
        obtain ⟨es2, hil, hnl⟩ := setS_some q2
        have lw : ∀ {s3 : SS} {σ3 : L2.St}, Lk s2 (σ'.set i (some (.ref a))) s3 σ3 → Lk sd σ (s3.set i .no) (σ3.set i none) := fun {s3 σ3} l3 j d e => by
          obtain ⟨⟨d1, g1, gl1⟩, g2⟩ := l' j d e
          have hij : i ≠ j := fun z => by subst z; exact hnl d1 g1
          obtain ⟨⟨d2, g3, gl2⟩, g4⟩ := l3 j d1 (by rw [es2, List.getElem?_set_ne hij]; exact g1)
          rw [List.getElem?_set_ne hij, List.getElem?_set_ne hij]
          exact ⟨⟨d2, g3, gl1.trans gl2⟩, by rw [g4, List.getElem?_set_ne hij]; exact g2⟩
        refine ⟨_, s2, S2, ?_⟩
        cases q3 : fsu s2 with
        | nx s3 =>
          rw [q3] at h
          exact fun F3 H3 σ3 S3 f3 l3 => h F3 H3 _ S3.wipe1 (f'.trans (e1.ff.trans f3)) (lw l3)
        | bk s3 =>
          rw [q3] at h
          exact fun F3 H3 σ3 S3 f3 l3 => h F3 H3 _ S3.wipe1 (f'.trans (e1.ff.trans f3)) (lw l3)
        | ct s3 =>
          rw [q3] at h
          exact fun F3 H3 σ3 S3 f3 l3 => h F3 H3 _ S3.wipe1 (f'.trans (e1.ff.trans f3)) (lw l3)
        | rt b d =>
          rw [q3] at h
          cases b with
          | false => exact fun v F3 H3 x3 f3 => h v F3 H3 x3 (f'.trans (e1.ff.trans f3))
          | true => exact fun v F3 H3 x3 f3 => h v F3 H3 x3 (f'.trans (e1.ff.trans f3))
        | ex c2 vs2 s3 => rw [q3] at h; exact h.elim
        | bad => rw [q3] at h; exact h.elim
    · have h : PostS C W F sd σ En (if isX c k = true then (match setS s' i (.sh (.exc c vs)) with | some s2 => wipeR i (fsu s2) | none => .bad) else .ex c vs s') := h
      rw [if_neg (by rw [hno]; exact Bool.false_ne_true)] at h
      exact h _ _ _ _ _ S' f' l' ⟨A, ns, hx, rfl, hxd⟩
/-! ### isinstance of a kept exception -/
structure XCl (K : PySem.W.Frag) (D : Addr) : Prop where
  cl : PySem.W.isClsIn K D = true
  hg : PySem.W.findIn K (.ref D) "__getattribute__" = some (some (.builtin "BaseException.__getattribute__"))
  hk : PySem.W.findIn K (.ref D) "__getattr__" = some none
  hs : PySem.W.subIn K (.ref D) (.type "BaseException") = some true
  ha : PySem.W.findIn K (.ref D) "__class__" = some (some (.builtin "object.__class__"))
  hn : PySem.W.specialIn K (.builtin "object.__class__") "__get__" = some (some (.builtin "getset_descriptor.__get__"))
  ht : PySem.W.takesIn K (.builtin "object.__class__") = some true
  hm : PySem.W.mroIn K D (.type "object") = some true
section
variable {X : Cx} {C : CT} {W : WX}
/-- the thing that is asked about: an exception, or None -/
def Asked (K : PySem.W.Frag) (H : Hp) (x : V) (t : Value) : Prop := (x = .non ∧ t = .type "NoneType") ∨ ∃ a A dx, x = .ref a ∧ t = .ref A ∧ H a = some (exo a (.ref A) dx) ∧ XCl K A ∧ (dx = none ∨ ∃ d fs, dx = some d ∧ H d = some (.xd fs))
theorem asked_kit {pins : List (Addr × Obj)} {s : Shared} {σ : L2.St} {H : Hp} {x : V} {u t : Value} (I : Inv X pins σ H s) (rx : RelV x u) (h : Asked X.K H x t) : ∃ P : Heap → Prop, PySem.W.KitX X.K u t P ∧ P s.heap ∧ u ≠ .builtin "__main__.__loader__#opaque" := by
  rcases h with ⟨rfl, rfl⟩ | ⟨a, A, dx, rfl, rfl, ha, Z, hd⟩
  · cases (show u = Value.none from rx)
    exact ⟨_, PySem.W.kitx_none, True.intro, fun z => nomatch z⟩
  · cases (show u = Value.ref a from rx)
    obtain ⟨⟨oe, vs, h1, ⟨h2, h3⟩, h4⟩, _, _⟩ := (show ObjOk X.prog X.w H s.heap a (exo a (.ref A) dx) from I.hok a _ ha)
    have hcl : (PySem.W.clsIn X.K A).isSome = true := Z.cl
    rcases hd with rfl | ⟨d, fs, rfl, hd⟩
    · refine ⟨_, PySem.W.kitx_exc (ox := oe) (od := none) hcl Z.hg Z.hk Z.hs Z.ha Z.hn Z.ht Z.hm, ?_, fun z => nomatch z⟩
      refine ⟨h1, h2, ?_, ?_⟩
      · unfold PySem.W.notCls; rw [h4]
      · rw [h3]; trivial
    · obtain ⟨mA, ⟨od, _, _, h5, _⟩, _⟩ := (show ObjOk X.prog X.w H s.heap d (.xd fs) from I.hok d _ hd)
      refine ⟨_, PySem.W.kitx_exc (ox := oe) (od := some od) hcl Z.hg Z.hk Z.hs Z.ha Z.hn Z.ht Z.hm, ?_, fun z => nomatch z⟩
      refine ⟨h1, h2, ?_, ?_⟩
      · unfold PySem.W.notCls; rw [h4]
      · rw [h3]; exact h5
def rIsX (K : PySem.W.Frag) : List V → Hp → VK → Prop := fun xs H Q => ∃ (x c : V) (t u : Value) (b : Bool), xs = [x, c] ∧ ClsV c u ∧ Asked K H x t ∧ PySem.W.kitOne K t u = some b ∧ Q (.bl b) H
def rIsXT (K : PySem.W.Frag) : List V → Hp → VK → Prop := fun xs H Q => ∃ (x : V) (tp : Addr) (cs : List V) (t : Value) (us : List Value) (b : Bool), xs = [x, .ref tp] ∧ H tp = some (.tup cs) ∧ Paired ClsV cs us ∧ Asked K H x t ∧ PySem.W.kitAny K t us = some b ∧ Q (.bl b) H
theorem call_isX : CallR X (.builtin "isinstance") (rIsX X.K) := by
  intro pins s σ H xs us Q I r h
  obtain ⟨x, c, t, u, b, rfl, k, ty, e, q⟩ := h
  obtain ⟨u1, u2, rfl, r1, r2⟩ := vals2 r
  have e2 := k.eq r2
  subst e2
  obtain ⟨P, Z, p, hx⟩ := asked_kit I r1 ty
  exact PySem.W.kia_one Z I.kIn p e hx fun tk => ⟨.bl b, H, I.tok tk, rfl, q⟩
theorem call_isXT : CallR X (.builtin "isinstance") (rIsXT X.K) := by
  intro pins s σ H xs us Q I r h
  obtain ⟨x, tp, cs, t, ws, b, rfl, hT, k, ty, e, q⟩ := h
  obtain ⟨u1, u2, rfl, r1, r2⟩ := vals2 r
  cases (show u2 = Value.ref tp from r2)
  obtain ⟨P, Z, p, hx⟩ := asked_kit I r1 ty
  obtain ⟨_, its, rv, o, h1, h2, n, h3⟩ := (show ObjOk X.prog X.w H s.heap tp (.tup cs) from I.hok tp _ hT)
  have e3 := ClsV.all k rv
  subst e3
  obtain ⟨oc, od, dt, sl⟩ := o
  simp only at h2 h3
  subst h2 h3
  exact PySem.W.kia_tup Z I.kIn p h1 e hx fun tk => ⟨.bl b, H, I.tok tk, rfl, q⟩
def isxD (k : Nat) : D → R D
  | .exc c _ => .ok (.bl (isX c k))
  | .non => .ok (.bl false)
  | _ => .bad
def isvD : D → R D
  | .exc _ _ => .ok (.bl true)
  | .non => .ok (.bl false)
  | _ => .bad
def isxsD (ks : List Nat) : D → R D
  | .exc c _ => .ok (.bl (ks.any (isX c)))
  | .non => .ok (.bl false)
  | _ => .bad
/-- what is known of the class that x names, number k, as one that is asked for -/
structure AskC (K : PySem.W.Frag) (mg : Str → Option Value) (G : GE) (x : Str) (k : Nat) : Prop where
  ex : ∃ D, mg x = some (.ref D) ∧ PySem.W.kitOne K (.type "NoneType") (.ref D) = some false ∧ ∀ c A ns, G.xcl c = some (A, ns) → PySem.W.kitOne K (.ref A) (.ref D) = some (isX c k)
/-- .. of ValueError -/
structure AskV (K : PySem.W.Frag) (mg : Str → Option Value) (G : GE) : Prop where
  nm : mg "ValueError" = none
  no : PySem.W.kitOne K (.type "NoneType") (.type "ValueError") = some false
  yes : ∀ c A ns, G.xcl c = some (A, ns) → PySem.W.kitOne K (.ref A) (.type "ValueError") = some true
/-- .. as one that is named in an except clause -/
structure CatC (K : PySem.W.Frag) (mg : Str → Option Value) (G : GE) (x : Str) (k : Nat) : Prop where
  ex : ∃ D, mg x = some (.ref D) ∧ ∀ c A ns, G.xcl c = some (A, ns) → PySem.W.exmOne K (.ref A) (.ref D) = some (isX c k)
/-- .. as one that is raised -/
structure RsC (K : PySem.W.Frag) (mg : Str → Option Value) (G : GE) (x : Str) (c : Nat) : Prop where
  ex : ∃ D, mg x = some (.ref D) ∧ PySem.W.excIn K D [.type "ValueError", .type "Exception", .type "BaseException", .type "object"] "ValueError.__new__" = true ∧ PySem.W.keepIn K (.ref D) = true ∧ PySem.W.subIn K (.ref D) (.type "BaseException") = some true ∧
    PySem.W.typeIn K (.ref D) = some (.type "type") ∧ G.xcl c = some (D, [])
section
variable {X : Cx} {C : CT} {W : WX}
theorem asked_of {F H : Hp} {v : V} {c : Nat} {ds : List D} (S : Same F H) (XB : ∀ c A ns, C.G.xcl c = some (A, ns) → XCl X.K A) (b : Bor C.G F H (.exc c ds) v) : ∃ A ns, C.G.xcl c = some (A, ns) ∧ Asked X.K H v (.ref A) := by
  rcases b with b | ⟨_, _, _, b⟩
  · unfold Rep at b
    obtain ⟨a, A, ns, dx, rfl, h1, h2, h3⟩ := b
    refine ⟨A, ns, h1, .inr ⟨a, A, dx, rfl, rfl, S _ _ h2, XB c A ns h1, ?_⟩⟩
    rcases h3 with ⟨_, h, _⟩ | ⟨d, fs, e1, e2, _⟩
    · exact .inl h
    · exact .inr ⟨d, fs, e1, S _ _ e2⟩
  · exact b.elim
variable {a : Expr} {es : List Expr} {fa : SS → R D} {pos p p2 : Pos} {y : Str} {k : Nat}
theorem s_isx (v : Pq X C W) (XB : ∀ c A ns, C.G.xcl c = some (A, ns) → XCl X.K A) (T : AskC X.K X.mg C.G y k) (hg : Gl X "isinstance") (hm : X.mg "isinstance" = none) (hgT : Gl X y) (ha : PE X a (tB C W fa)) (hdb : (y == ("__debug__" : Str)) = false := by decide)
    (he : starEach [a, .Name y p2] X.env = (false, eval a X.env) :: starEach [.Name y p2] X.env := by rfl) (he2 : starEach [.Name y p2] X.env = (false, eval (.Name y p2) X.env) :: starEach [] X.env := by rfl)
    (hpl : (backTo pos (starEach [.Name y p2] X.env)).any (·.1) = false := by rfl) : PE X (.Call (.Name "isinstance" p) [a, .Name y p2] [] pos) (tD C W (eUn (isxD k) fa)) := by
  obtain ⟨D, hD, hno, hyes⟩ := T.ex
  refine pe_imp (pe_callB call_isX hg hm (by decide +kernel) (pa_cons ha (pa_cons (pe_glob (v := .ref D) hgT hD rfl hdb) pa_nil he2) he) (by decide) (by decide) he hpl) fun σ H Q ⟨F, sd, S, h⟩ => ?_
  refine ⟨F, sd, S, PostE.bind h fun d u F1 H1 e1 b1 h1 => ?_⟩
  unfold isxD at h1
  split at h1
  · obtain ⟨A, ns, hx, q⟩ := asked_of e1.fh XB b1
    exact ⟨u, .ref D, _, .ref D, _, rfl, .own D, q, hyes _ A ns hx, h1 _ F1 H1 (Ext.refl e1.fh) (rep_bl.mpr rfl)⟩
  · exact ⟨u, .ref D, _, .ref D, _, rfl, .own D, .inl ⟨bor_non b1, rfl⟩, hno, h1 _ F1 H1 (Ext.refl e1.fh) (rep_bl.mpr rfl)⟩
  · exact h1.elim
theorem s_isv (v : Pq X C W) (XB : ∀ c A ns, C.G.xcl c = some (A, ns) → XCl X.K A) (T : AskV X.K X.mg C.G) (hg : Gl X "isinstance") (hm : X.mg "isinstance" = none) (hgT : Gl X "ValueError") (ha : PE X a (tB C W fa))
    (he : starEach [a, .Name "ValueError" p2] X.env = (false, eval a X.env) :: starEach [.Name "ValueError" p2] X.env := by rfl) (he2 : starEach [.Name "ValueError" p2] X.env = (false, eval (.Name "ValueError" p2) X.env) :: starEach [] X.env := by rfl)
    (hpl : (backTo pos (starEach [.Name "ValueError" p2] X.env)).any (·.1) = false := by rfl) : PE X (.Call (.Name "isinstance" p) [a, .Name "ValueError" p2] [] pos) (tD C W (eUn isvD fa)) := by
  refine pe_imp (pe_callB call_isX hg hm (by decide +kernel) (pa_cons ha (pa_cons (pe_bltn (v := .ty "ValueError") hgT T.nm (by decide +kernel) rfl (by decide) (by decide)) pa_nil he2) he) (by decide) (by decide) he hpl) fun σ H Q ⟨F, sd, S, h⟩ => ?_
  refine ⟨F, sd, S, PostE.bind h fun d u F1 H1 e1 b1 h1 => ?_⟩
  unfold isvD at h1
  split at h1
  · obtain ⟨A, ns, hx, q⟩ := asked_of e1.fh XB b1
    exact ⟨u, .ty "ValueError", _, _, _, rfl, .ty _, q, T.yes _ A ns hx, h1 _ F1 H1 (Ext.refl e1.fh) (rep_bl.mpr rfl)⟩
  · exact ⟨u, .ty "ValueError", _, _, _, rfl, .ty _, .inl ⟨bor_non b1, rfl⟩, T.no, h1 _ F1 H1 (Ext.refl e1.fh) (rep_bl.mpr rfl)⟩
  · exact h1.elim
/-- a tuple of classes -/
structure ClsL (X : Cx) (C : CT) (es : List Expr) (ks : List Nat) : Prop where
  ex : ∃ Ds : List Addr, PA X es (fun _ H Q => Q (Ds.map V.ref) H) ∧ PySem.W.kitAny X.K (.type "NoneType") (Ds.map Value.ref) = some false ∧ Ds.length = ks.length ∧ ∀ c A ns, C.G.xcl c = some (A, ns) → PySem.W.kitAny X.K (.ref A) (Ds.map Value.ref) = some (ks.any (isX c))
theorem cl_nil : ClsL X C [] [] := ⟨[], pa_nil, rfl, rfl, fun _ _ _ _ => rfl⟩
theorem cl_cons {ks : List Nat} (T : AskC X.K X.mg C.G y k) (hgT : Gl X y) (r : ClsL X C es ks) (hdb : (y == ("__debug__" : Str)) = false := by decide)
    (he : starEach (.Name y p2 :: es) X.env = (false, eval (.Name y p2) X.env) :: starEach es X.env := by rfl) : ClsL X C (.Name y p2 :: es) (k :: ks) := by
  obtain ⟨D, hD, hno, hyes⟩ := T.ex
  obtain ⟨Ds, h1, h2, h3, h4⟩ := r.ex
  refine ⟨D :: Ds, pa_cons (pe_glob (v := .ref D) hgT hD rfl hdb) h1 he, ?_, by simp [h3], fun c A ns hx => ?_⟩
  · show PySem.W.kitAny X.K (.type "NoneType") (.ref D :: Ds.map Value.ref) = _
    unfold PySem.W.kitAny
    rw [hno]
    exact h2
  · show PySem.W.kitAny X.K (.ref A) (.ref D :: Ds.map Value.ref) = _
    unfold PySem.W.kitAny
    rw [hyes c A ns hx, List.any_cons]
    cases isX c k with
    | true => rfl
    | false => exact h4 c A ns hx
theorem s_isxs {ks : List Nat} {tk : Nat} {tpos : Pos} (v : Pq X C W) (XB : ∀ c A ns, C.G.xcl c = some (A, ns) → XCl X.K A) (T : ClsL X C es ks) (hg : Gl X "isinstance") (hm : X.mg "isinstance" = none) (ha : PE X a (tB C W fa)) (hk : ks.length ≤ 100 := by decide)
    (he : starEach [a, .Tuple es tk tpos] X.env = (false, eval a X.env) :: starEach [.Tuple es tk tpos] X.env := by rfl) (he2 : starEach [.Tuple es tk tpos] X.env = (false, eval (.Tuple es tk tpos) X.env) :: starEach [] X.env := by rfl)
    (hpl : (backTo pos (starEach [.Tuple es tk tpos] X.env)).any (·.1) = false := by rfl) : PE X (.Call (.Name "isinstance" p) [a, .Tuple es tk tpos] [] pos) (tD C W (eUn (isxsD ks) fa)) := by
  obtain ⟨Ds, h1, h2, h3, h4⟩ := T.ex
  have pr : ∀ l : List Addr, Paired ClsV (l.map V.ref) (l.map Value.ref) := fun l => by
    induction l with
    | nil => exact .nil
    | cons a l ih => exact .cons (.own a) ih
  refine pe_imp (pe_callB call_isXT hg hm (by decide +kernel) (pa_cons ha (pa_cons (pe_tup h1) pa_nil he2) he) (by decide) (by decide) he hpl) fun σ H Q ⟨F, sd, S, h⟩ => ?_
  refine ⟨F, sd, S, PostE.bind h fun d u F1 H1 e1 b1 h1 => ?_⟩
  show (Ds.map V.ref).length ≤ sizeLine ∧ ∀ p, H1 p = none → _
  refine ⟨by rw [List.length_map, h3, sizeLine_eq]; omega, fun tp htp => ?_⟩
  have e2 := Ext.new (o := .tup (Ds.map V.ref)) e1.fh htp
  have b2 := b1.mono e2
  unfold isxsD at h1
  split at h1
  · obtain ⟨A, ns, hx, q⟩ := asked_of e2.fh XB b2
    exact ⟨u, tp, _, _, _, _, rfl, upd_same, pr Ds, q, h4 _ A ns hx, h1 _ _ _ e2 (rep_bl.mpr rfl)⟩
  · exact ⟨u, tp, _, _, _, _, rfl, upd_same, pr Ds, .inl ⟨bor_non b2, rfl⟩, h2, h1 _ _ _ e2 (rep_bl.mpr rfl)⟩
  · exact h1.elim
end
/-! ### where the classes stand -/
def xclOf (K : PySem.W.Frag) (tbl : List (Option (Str × List Str))) (c : Nat) : Option (Addr × List Str) := match tbl[c]? with
  | some (some (n, ns)) => (match PySem.W.nsIn K mainGlobals n with
    | some (some (.ref a)) => some (a, ns)
    | _ => none)
  | _ => none
theorem xcl_get {K : PySem.W.Frag} {tbl : List (Option (Str × List Str))} {c : Nat} {n : Str} {ns : List Str} {g : Addr} (h : tbl[c]? = some (some (n, ns))) (e : PySem.W.nsIn K mainGlobals n = some (some (.ref g))) : xclOf K tbl c = some (g, ns) := by
  unfold xclOf
  rw [h]
  dsimp only
  rw [e]
def xAll (K : PySem.W.Frag) (P : Nat → Addr → Prop) : Nat → List (Option (Str × List Str)) → Prop
  | _, [] => True
  | i, none :: r => xAll K P (i + 1) r
  | i, some (n, _) :: r => (∃ g, PySem.W.nsIn K mainGlobals n = some (some (.ref g)) ∧ P i g) ∧ xAll K P (i + 1) r
theorem xAll_get {K : PySem.W.Frag} {P : Nat → Addr → Prop} : ∀ {tbl : List (Option (Str × List Str))} {i c : Nat} {n : Str} {ns : List Str}, xAll K P i tbl → tbl[c]? = some (some (n, ns)) → ∃ g, PySem.W.nsIn K mainGlobals n = some (some (.ref g)) ∧ P (i + c) g
  | [], i, c, n, ns, _, h => by simp at h
  | none :: r, i, c, n, ns, x, h => by
    cases c with
    | zero => simp at h
    | succ c =>
      have := xAll_get (i := i + 1) (c := c) x (by simpa using h)
      rwa [show i + 1 + c = i + (c + 1) by omega] at this
  | some (m, ms) :: r, i, c, n, ns, x, h => by
    cases c with
    | zero =>
      simp at h
      obtain ⟨rfl, rfl⟩ := h
      exact x.1
    | succ c =>
      have := xAll_get (i := i + 1) (c := c) x.2 (by simpa using h)
      rwa [show i + 1 + c = i + (c + 1) by omega] at this
theorem xcl_all {K : PySem.W.Frag} {tbl : List (Option (Str × List Str))} {P : Nat → Addr → Prop} (x : xAll K P 0 tbl) : ∀ c A ns, xclOf K tbl c = some (A, ns) → P c A := fun c A ns h => by
  unfold xclOf at h
  split at h
  · rename_i n ms hn
    obtain ⟨g, e, p⟩ := xAll_get x hn
    rw [e] at h
    cases h
    rwa [Nat.zero_add] at p
  · cases h
end
end
end Z
namespace Z
noncomputable section
open PySem PySem.Spec PySem.P PyProof.Rows L2
section
variable {X : Cx} {C : CT} {W : WX} {a b c e : Expr} {fa fb fc fe : SS → R D} {g g' : D → D → R D} {pos p p2 : Pos} {fs : SS → R (List D)}
theorem s_tryC {x n : Str} {body suite : List Stmt} {b₀ : Stmt} {np pos pos' : Pos} {fb fsu : SS → RS} {k : Nat} (v : Pl X C W) (i : Nat) (T : CatC X.K X.mg C.G x k) (hN : X.N.Nodup) (hg : Gl X x)
    (hb : ∀ (W' : WX) (pn : List (Addr × Obj)) (xe : Value → Shared → Prop), Pl (X.tr pn xe) C W' → PSs (X.tr pn xe) body (tS C W' fb))
    (hsu : ∀ (a : Addr) (pn : List (Addr × Obj)), Pq (suit X a pn) C WNo → PSs (suit X a pn) (b₀ :: suite) (tS C WNo fsu)) (hdb : (x == ("__debug__" : Str)) = false := by decide)
    (hs : X.stack = X.env :: X.outer := by rfl) (hf : X.env.frame = some X.env.locals := by rfl) (hex : X.ex = [] := by rfl) (hi : X.N[i]? = some n := by rfl) (hln : X.env.kindOf n = some .local := by rfl) :
    PS X (.Try body [.ExceptHandler (some (.Name x np)) (some n) (b₀ :: suite) pos'] [] [] pos) (tS C W (sTry i k fb fsu)) := by
  obtain ⟨D, hD, he⟩ := T.ex
  exact s_try v i k hN ⟨hg, hdb, .inl hD⟩ he hb (fun a pn => hsu a pn ⟨v.K, v.hu, takes0, PassesOwn.never⟩) hs hf hex hi hln
theorem s_raiseC {x m : Str} {j c : Nat} {p p2 pos pos' : Pos} (v : Pl X C W) (T : RsC X.K X.mg C.G x c) (hg : Gl X x) (hdb : (x == ("__debug__" : Str)) = false := by decide) :
    PS X (.Raise (some (.Call (.Name x p) [.Constant (.str m) j p2] [] pos)) none pos') (tS C W (sRaise c)) := by
  obtain ⟨D, hD, h1, h2, h3, h4, h5⟩ := T.ex
  exact s_raise v PySem.F.excBase_ValueError h1 hD h2 (raises_own h3 h4) h5 hg hdb
/-- a < b < c -/
def chn (x : D) (fc : R D) (k : D → R D) : R D := match x with
  | .bl true => fc.bind k
  | .bl false => .ok (.bl false)
  | _ => .bad
def eChain (g g' : D → D → R D) (fa fb fc : SS → R D) : SS → R D := fun s => (fa s).bind fun x => (fb s).bind fun y => (g x y).bind fun d => chn d (fc s) fun z => g' y z
theorem chain_read (hg : NoEx2 g) (hg' : NoEx2 g') {σ : L2.St} {H : Hp} {Q : VK} (h : tD C W (eChain g g' fa fb fc) σ H Q) : tChain (r2 C.G g) (r2 C.G g') (tB C W fa) (tB C W fb) (tB C W fc) σ H Q := by
  obtain ⟨F, sd, S, h⟩ := h
  refine ⟨F, sd, S, PostE.bind h fun d v F1 H1 e1 b1 h1 => ?_⟩
  refine ⟨F1, sd, S.mono e1, PostE.bind h1 fun d2 v2 F2 H2 e2 b2 h2 => ?_⟩
  refine ⟨F2, d, d2, e2.fh, Bor.mono e2 b1, b2, ?_⟩
  cases q : g d d2 with
  | ex c vs => exact (hg _ _ _ _ q).elim
  | bad => rw [q] at h2; exact h2.elim
  | ok z =>
    rw [q] at h2
    intro v3 F3 H3 e3 r3
    have h2 : PostE C W F2 H2 σ (pD C) Q (chn z (fc sd) fun z => g' d2 z) := h2
    cases z with
    | bl k =>
      refine ⟨k, rep_bl.mp r3, ?_⟩
      cases k with
      | false => exact PostE.ext e3 h2 _ F3 H3 (Ext.refl e3.fh) (rep_bl.mpr rfl)
      | true =>
        have h2 : PostE C W F2 H2 σ (pD C) Q ((fc sd).bind fun z => g' d2 z) := h2
        refine ⟨F3, sd, ((S.mono e1).mono e2).mono e3, PostE.bind (PostE.ext e3 h2) fun d4 v4 F4 H4 e4 b4 h4 => ?_⟩
        exact ⟨F4, d2, d4, e4.fh, (b2.mono e3).mono e4, b4, h4.toV (hg' _ _)⟩
    | _ => exact h2.elim
theorem s_chain {op op' : CmpOp} (hg : NoEx2 g) (ho : OpR X (compareOp op) (r2 C.G g)) (hg' : NoEx2 g') (ho' : OpR X (compareOp op') (r2 C.G g')) (ha : PE X a (tB C W fa)) (hb : PE X b (tB C W fb)) (hc : PE X c (tB C W fc))
    (hm : lastMarks [op, op'] [b, c] = false := by with_unfolding_all rfl) : PE X (.Compare a [op, op'] [b, c] pos) (tD C W (eChain g g' fa fb fc)) :=
  pe_imp (pe_chain ho ho' ha hb hc hm) fun _ _ _ h => chain_read hg hg' h
theorem t_chain {op op' : CmpOp} (hg : NoEx2 g) (ho : OpR X (compareOp op) (r2 C.G g)) (hg' : NoEx2 g') (ho' : OpR X (compareOp op') (r2 C.G g')) (ha : PE X a (tB C W fa)) (hb : PE X b (tB C W fb)) (hc : PE X c (tB C W fc))
    (hm : lastMarks [op, op'] [b, c] = false := by with_unfolding_all rfl) : PT X (.Compare a [op, op'] [b, c] pos) (tT C W (eChain g g' fa fb fc)) :=
  pt_imp (pt_chain ho ho' ha hb hc hm) fun _ _ _ h => chain_read hg hg' (t_of h)
/-- list(range(..)) -/
def fit24 (i : Int) : Prop := -4611686018427387904 ≤ i ∧ i ≤ 16777216
instance (i : Int) : Decidable (fit24 i) := Classical.propDecidable _
def lrg1 : D → R D
  | .int j => if fit24 j then .ok (.lst (rangeD 0 j)) else .bad
  | _ => .bad
def lrg2 : D → D → R D
  | .int i, .int j => if fit62 i ∧ fit62 j ∧ j - i ≤ 16777216 then .ok (.lst (rangeD i j)) else .bad
  | _, _ => .bad
theorem rg_rep {G : GE} {F : Hp} (i j : Int) : RepL G F (rangeD i j) (rgV i j) := by
  have : ∀ l : List Nat, RepL G F (l.map fun k : Nat => D.int (i + (k : Nat))) (l.map fun k : Nat => V.int (i + (k : Nat))) := fun l => by
    induction l with
    | nil => exact RepL.nil
    | cons a l ih => exact RepL.cons (rep_int.mpr rfl) ih
  exact this _
theorem s_listRange1 (v : Pl X C W) (hg : Gl X "list") (hm : X.mg "list" = none) (hg2 : Gl X "range") (hm2 : X.mg "range" = none) (ha : PE X a (tB C W fa)) (na : starEach [a] X.env = (false, eval a X.env) :: starEach [] X.env := by rfl)
    (na2 : starEach [.Call (.Name "range" p2) [a] [] pos] X.env = (false, eval (.Call (.Name "range" p2) [a] [] pos) X.env) :: starEach [] X.env := by rfl) {pos2 : Pos} :
    PE X (.Call (.Name "list" p) [.Call (.Name "range" p2) [a] [] pos] [] pos2) (tF C W (eUn lrg1 fa)) := by
  refine pe_imp (pe_listRg v.calm hg hm (prg_1 hg2 hm2 ha na) na2) fun σ H Q ⟨F, sd, S, h⟩ => ?_
  refine ⟨F, sd, S, PostE.bind h fun d u F1 H1 e1 b1 h1 => ?_⟩
  unfold lrg1 at h1
  split at h1
  · rename_i j
    split at h1
    · rename_i hz
      have hz : -4611686018427387904 ≤ j ∧ j ≤ 16777216 := hz
      refine ⟨j, bor_int b1, ⟨by omega, by omega, by omega, by omega, by omega⟩, fun q hq => ?_⟩
      exact h1 _ F1 (upd H1 q (.lst (rgV 0 j))) (Ext.newOwn e1.fh hq) ⟨q, rfl, e1.hh.free hq, e1.fh.free hq, _, upd_same, rg_rep 0 j⟩
    · exact h1.elim
  · exact h1.elim
theorem s_listRange2 (v : Pl X C W) (hg : Gl X "list") (hm : X.mg "list" = none) (hg2 : Gl X "range") (hm2 : X.mg "range" = none) (ha : PE X a (tB C W fa)) (hb : PE X b (tB C W fb)) (na : starEach [a, b] X.env = (false, eval a X.env) :: starEach [b] X.env := by rfl)
    (nb : starEach [b] X.env = (false, eval b X.env) :: starEach [] X.env := by rfl) (hp : (backTo pos (starEach [b] X.env)).any (·.1) = false := by rfl)
    (na2 : starEach [.Call (.Name "range" p2) [a, b] [] pos] X.env = (false, eval (.Call (.Name "range" p2) [a, b] [] pos) X.env) :: starEach [] X.env := by rfl) {pos2 : Pos} :
    PE X (.Call (.Name "list" p) [.Call (.Name "range" p2) [a, b] [] pos] [] pos2) (tF C W (eBin lrg2 fa fb)) := by
  refine pe_imp (pe_listRg v.calm hg hm (prg_2 hg2 hm2 ha hb na nb hp) na2) fun σ H Q ⟨F, sd, S, h⟩ => ?_
  refine ⟨F, sd, S, PostE.bind h fun d u F1 H1 e1 b1 h1 => ?_⟩
  refine ⟨F1, sd, S.mono e1, PostE.bind h1 fun d2 u2 F2 H2 e2 b2 h2 => ?_⟩
  replace b1 := b1.mono e2
  unfold lrg2 at h2
  split at h2
  · rename_i i j
    split at h2
    · rename_i hz
      have hz : (-4611686018427387904 ≤ i ∧ i < 4611686018427387904) ∧ (-4611686018427387904 ≤ j ∧ j < 4611686018427387904) ∧ j - i ≤ 16777216 := hz
      refine ⟨i, j, bor_int b1, bor_int b2, ⟨by omega, by omega, by omega, by omega, by omega⟩, fun q hq => ?_⟩
      exact h2 _ F2 (upd H2 q (.lst (rgV i j))) (Ext.newOwn e2.fh hq) ⟨q, rfl, e1.hh.free (e2.hh.free hq), e2.fh.free hq, _, upd_same, rg_rep i j⟩
    · exact h2.elim
  · exact h2.elim
end
/-! the plain side of these -/
section
variable {s : SS} {fa fb fc : SS → R D}
@[simp] theorem eChain_s (g g' : D → D → R D) : eChain g g' fa fb fc s = (fa s).bind fun x => (fb s).bind fun y => (g x y).bind fun d => chn d (fc s) fun z => g' y z := rfl
@[simp] theorem chn_ok (b c : Bool) (x : D) (k : D → R D) (h : k x = .ok (.bl c)) : chn (.bl b) (.ok x) k = .ok (.bl (b && c)) := by
  cases b with
  | true => exact h
  | false => rfl
@[simp] theorem chn_tt (r : R D) (k : D → R D) : chn (.bl true) r k = r.bind k := rfl
@[simp] theorem chn_ff (r : R D) (k : D → R D) : chn (.bl false) r k = .ok (.bl false) := rfl
theorem chn_if (b : Bool) (r : R D) (k : D → R D) : chn (.bl b) r k = if b = true then r.bind k else .ok (.bl false) := by cases b <;> rfl
@[simp] theorem sTry_s (i k : Nat) (fb fsu : SS → RS) : sTry i k fb fsu s = catchR i k fsu (fb s) := rfl
@[simp] theorem catchR_nx (i k : Nat) (fsu : SS → RS) : catchR i k fsu (.nx s) = .nx s := rfl
@[simp] theorem catchR_rt (i k : Nat) (fsu : SS → RS) (b : Bool) (d : D) : catchR i k fsu (.rt b d) = .rt b d := rfl
@[simp] theorem catchR_ex (i k : Nat) (fsu : SS → RS) (c : Nat) (vs : List D) : catchR i k fsu (.ex c vs s) = if isX c k = true then wipeR i (match (if canS s[i]? = true then some (s.set i (.sh (.exc c vs))) else none) with | some s2 => fsu s2 | none => .bad) else .ex c vs s := by
  unfold catchR
  dsimp only
  rw [setS_s]
  split
  · generalize (if canS s[i]? = true then some (List.set s i (Sl.sh (D.exc c vs))) else none) = o
    cases o <;> rfl
  · rfl
@[simp] theorem wipeR_nx (i : Nat) : wipeR i (.nx s) = .nx (s.set i .no) := rfl
@[simp] theorem wipeR_rt (i : Nat) (b : Bool) (d : D) : wipeR i (.rt b d) = .rt b d := rfl
@[simp] theorem sRaise_s (c : Nat) : sRaise c s = .ex c [] s := rfl
@[simp] theorem isX_self (c : Nat) : isX c c = true := by simp [isX]
@[simp] theorem isX_zero (c : Nat) : isX c 0 = true := by simp [isX]
@[simp] theorem isxD_e (k c : Nat) (vs : List D) : isxD k (.exc c vs) = .ok (.bl (isX c k)) := rfl
@[simp] theorem isvD_e (c : Nat) (vs : List D) : isvD (.exc c vs) = .ok (.bl true) := rfl
@[simp] theorem isxsD_e (ks : List Nat) (c : Nat) (vs : List D) : isxsD ks (.exc c vs) = .ok (.bl (ks.any (isX c))) := rfl
theorem lrg1_i (j : Int) (h : fit24 j) : lrg1 (.int j) = .ok (.lst (rangeD 0 j)) := by unfold lrg1; simp [h]
end
end
end Z
namespace ZR
open PySem PySem.Spec PyProof.Rows L2 RT
open Builtin Builtin.Str Builtin.Int
section
variable {prog : Program} {w : World} {A : Around} {E : Value → Shared → Prop} {s : Shared} {x : Str} {t : Tok} {Q : Value → Shared → Prop}
theorem join_rev {it l : Addr} {items : Array Value} {ys : List Str} (hh : A.handled = none) (hit : s.heap.IsRevIter it l ((items.size : Int) - 1)) (hl : s.heap.IsList l items) (hne : l ≠ it) (hn : items.size ≤ sizeLine)
    (hP : ∀ acc : Array Value, ItemsOf (fun i v => items[items.size - 1 - i]? = some v) acc items.size → StrsAre acc.toList ys) (hok : (ys.map (·.length)).sum + ys.length * x.length ≤ 16777216)
    (hq : ∀ h' t' k, (∀ b o, b ≠ it → s.heap.get? b = some o → h'.get? b = some o) → Q (.str (Txt.join x ys) t') { s with heap := h', toks := k }) :
    wpAny (model prog w) A (call (.builtin "str.join") [.str x t, .ref it]) Q E s := by
  refine wpAny_call (codeAny_call_builtin F.slot_str_join.plain F.entry_str_join (F.slot_str_join.check _ _ _ _ _ _ _ _ (typeIs_str _ _ _) (F.args_str_join_2 _ _) ?_))
  rw [join_tree_other]
  refine wpAny_bind (wpAny_typeOf hit.typeIs ?_)
  show wpAny _ A.in1 ((pyIter (.ref it)).tryCatch _ >>= fun it => collect it >>= fun items => joinTail x items) _ _ s
  refine wpAny_bind (wpAny_tryCatch (wpAny_pyIter_revIter hit ?_))
  refine wpAny_bind (collect_rev (A := A.in1) hh hit hl hne hn fun h' tk acc hk hacc => ?_)
  obtain ⟨l2, hl2, ht⟩ := strsAre_values (hP acc hacc)
  subst ht
  rw [hl2]
  have hok' := joinOk_of hok
  unfold JoinOk at hok'
  rw [Bool.not_eq_true'] at hok'
  have g : Gives (joinTail x (strValues l2)) (joinMade x l2) := by
    have g0 := gives_joinTail x l2 hok'
    cases l2 with
    | nil => exact g0
    | cons p r => cases r with
      | nil => exact g0
      | cons q r' => exact g0
  exact g prog w A (wants Q E) _ (post_join l2 ⟨joinFit_length hok', fun t' k => hq h' t' k hk⟩)
end
end ZR
namespace Z
noncomputable section
open PySem PySem.Spec PySem.P PyProof.Rows L2
/-- sep.join(reversed(xs)) -/
def joinRevM (x : D) : List D → R D
  | [.lst xs] => match x with
    | .str a => (match strsD xs with
      | some ys => if (ys.map (·.length)).sum + ys.length * a.length ≤ SZ then .ok (.str (TL.joinL a ys.reverse)) else .bad
      | none => .bad)
    | _ => .bad
  | _ => .bad
theorem joinRevM_ne : NoExM joinRevM := fun x xs c vs h => by
  unfold joinRevM at h
  split at h
  · split at h
    · split at h
      · split at h <;> cases h
      · cases h
    · cases h
  · cases h
theorem joinRevM_m (a : List Nat) (ys : List (List Nat)) (h : (ys.map (·.length)).sum + ys.length * a.length ≤ 16777216) : joinRevM (.str a) [.lst (ys.map .str)] = .ok (.str (TL.joinL a ys.reverse)) := by
  unfold joinRevM
  dsimp only
  rw [strsD_map]
  exact if_pos (le_sz h)
section
variable {X : Cx} {C : CT} {W : WX} {o e : Expr} {fa fb : SS → R D} {pos pos2 p2 apos p : Pos}
theorem s_joinRev (v : Pl X C W) (hg : Gl X "reversed") (hm : X.mg "reversed" = none) (ho : PE X o (tB C W fa)) (he : PE X e (tB C W fb))
    (hs1 : starEach [.Call (.Name "reversed" p2) [e] [] pos2] X.env = [(false, eval (.Call (.Name "reversed" p2) [e] [] pos2) X.env)] := by rfl)
    (hs : starEach [e] X.env = (false, eval e X.env) :: starEach [] X.env := by rfl)
    (hbase : attributeBase o "join" X.env (eval o X.env) = eval o X.env := by rfl) (hline : (apos.endLine == pos.line) = true := by rfl) :
    PE X (.Call (.Attribute o "join" apos) [.Call (.Name "reversed" p2) [e] [] pos2] [] pos) (tD C W (eM "str" joinRevM fa (aCons fb aNil))) := by
  refine ⟨fun pins s σ H Q I h => ?_⟩
  obtain ⟨F, sd, S, h⟩ := h
  refine PySem.Call_method1 hbase hs1 hline (thn (ho.run pins s σ H (fun u H1 => ∃ F1 d, Ext F H F1 H1 ∧ Bor C.G F1 H1 d u ∧ PostE C W F1 H1 σ (pD C) Q (if tyN d = some "str" then (aCons fb aNil sd).bind (joinRevM d) else .bad)) I ⟨F, sd, S, PostE.bind h fun d u F1 H1 e1 b1 h1 => ⟨F1, d, e1, b1, h1⟩⟩) fun v' s1 ⟨x, H1, I1, r1, q1⟩ => ?_)
  obtain ⟨F1, d, e1, b1, h1⟩ := q1
  by_cases ht : tyN d = some "str"
  · rw [if_pos ht] at h1
    cases d with
    | str a =>
      obtain ⟨rfl, oka⟩ := bor_str b1
      obtain ⟨t, rfl⟩ := _root_.id r1
      refine ⟨"str", _, PySem.F.plainAttrs_str, PySem.F.slot_str_join, PySem.F.type_str_join, typeIs_str _ _ _, (fun _ e => nomatch e), Calls.callWith_builtin rfl (Calls.evalArgs_plain (Calls.spliced_cons ?_))⟩
      have h1 : PostE C W F1 H1 σ (pD C) Q ((fb sd).bind fun y => joinRevM (.str a) [y]) := by
        unfold aCons aNil at h1
        cases q : fb sd with
        | ok y => rw [q] at h1; exact h1
        | ex c vs => rw [q] at h1; exact h1
        | bad => rw [q] at h1; exact h1
      refine Call_ (ld_blt I1 hg hm PyProof.Rows.boot_reversed (PyProof.Rows.callWith_type1 (args_cons (thn (he.run pins s1 σ H1 (fun u H2 => ∃ F2 d2, Ext F1 H1 F2 H2 ∧ Bor C.G F2 H2 d2 u ∧ PostE C W F2 H2 σ (pD C) Q (joinRevM (.str a) [d2])) I1 ⟨F1, sd, S.mono e1, PostE.bind h1 fun d2 u F2 H2 e2 b2 h2 => ⟨F2, d2, e2, b2, h2⟩⟩) fun u s2 ⟨v2, H2, I2, r2, q2⟩ => args_nil ?_) hs) hs rfl))
      obtain ⟨F2, d2, e2, b2, h2⟩ := q2
      cases d2 with
      | lst xs =>
        unfold joinRevM at h2
        dsimp only at h2
        split at h2
        · rename_i ys hys
          split at h2
          · rename_i hz
            obtain ⟨l, us, rfl, q, rr⟩ := bor_lst e2.fh b2
            obtain rfl : u = Value.ref l := r2
            obtain ⟨eu, hok⟩ := strs_rep hys rr
            rw [← v.K] at q
            obtain ⟨its, rv, p', hz2⟩ := I2.list q
            refine call_reversed_list p'.isList (Calls.spliced_nil ?_)
            have k0 : ∀ b o, s2.heap.get? b = some o → (s2.heap.push (revObj l ((its.toArray.size : Int) - 1))).get? b = some o := fun b o e => Heap.get?_push_of_some _ e
            have I3 : Inv X pins σ H2 { s2 with heap := s2.heap.push (revObj l ((its.toArray.size : Int) - 1)) } := I2.kept (t' := s2.toks) k0
            obtain ⟨f0, f1, f2, f3, f4, f5⟩ := I2.fpOk (H' := H2) (b := s2.heap.objs.size) (Nat.le_refl _) (I2.hok.fresh (Nat.le_refl _))
            have hl := p'.isList
            obtain ⟨ol, hol, _⟩ := id hl
            have hne : l ≠ s2.heap.objs.size := Nat.ne_of_lt (Heap.lt_size hol)
            have hn : its.toArray.size ≤ sizeLine := by rw [List.size_toArray, ← rv.length]; exact hz2
            have e3 : us.reverse = ((ys.reverse).map toS).map V.str := by rw [eu, ← List.map_reverse, ← List.map_reverse]
            refine ZR.join_rev (s := { s2 with heap := s2.heap.push (revObj l ((its.toArray.size : Int) - 1)) }) (ys := (ys.reverse).map toS) (I1.ok.hd v.calm) ⟨_, Heap.get?_push_size _ rfl, rfl, rfl⟩ (hl.push _) hne hn (fun acc hacc => ?_) ?_ fun h' t' k hk => ?_
            · have := RT.vals_rev rv hacc
              rw [e3] at this
              exact this.strs
            · have e4 : ((ys.reverse).map toS).map (·.length) = (ys.reverse).map (·.length) := SX.lens _
              rw [e4, List.map_reverse, List.sum_reverse, List.length_map, List.length_reverse]
              exact sz_is ▸ hz
            · have I4 : Inv X pins σ H2 { s2 with heap := h', toks := k } := I3.turned (t' := k) (fun b o hb e => hk b o hb e) f0 f1 f3 f4 f5
              refine ⟨V.str (Txt.join (⟨a.toArray⟩ : Str) (ys.reverse.map toS)), H2, I4, ⟨t', rfl⟩, ?_⟩
              have : Txt.join (⟨a.toArray⟩ : Str) (ys.reverse.map toS) = ⟨(TL.joinL a ys.reverse).toArray⟩ := SX.join_S a ys.reverse
              rw [this]
              exact h2 _ F2 H2 (Ext.refl e2.fh) (rep_str.mpr ⟨rfl, okS_join oka fun y hy => hok y (List.mem_reverse.mp hy)⟩)
          · exact h2.elim
        · exact h2.elim
      | _ => exact h2.elim
    | _ => simp [tyN] at ht
  · rw [if_neg ht] at h1
    exact h1.elim
end
end
end Z
namespace Z
noncomputable section
open PySem PySem.Spec PySem.P PyProof.Rows L2
section
variable {X : Cx} {C : CT} {W : WX} {a b c e : Expr} {fa fb fc fe fi f : SS → R D} {pos pos' p p2 apos : Pos} {x y : Str} {o : Expr}
/-! ### x[k] = e, x an own list -/
def putL (s : SS) (i : Nat) (xs : List D) (d k : D) : RS := match k with
  | .int n => (match ixN xs.length n with
    | some j => .nx (s.set i (.ow (.lst (xs.set j d))))
    | none => .bad)
  | _ => .bad
def sSetI (i : Nat) (fi fe : SS → R D) : SS → RS := fun s => match owL s i with
  | some xs => sE fe (fun d s => sE fi (fun k s => putL s i xs d k) s) s
  | none => .bad
theorem RepL.setI {G : GE} {F : Hp} : ∀ {ds : List D} {vs : List V} {j : Nat} {d : D} {v : V}, RepL G F ds vs → Rep G F d v → RepL G F (ds.set j d) (vs.set j v)
  | [], vs, j, d, v, r, h => by unfold RepL at r; subst r; exact RepL.nil
  | e :: ds, vs, j, d, v, r, h => by
    unfold RepL at r
    obtain ⟨u, t, rfl, h1, h2⟩ := r
    cases j with
    | zero => exact RepL.cons h h2
    | succ j => exact RepL.cons h1 (RepL.setI h2 h)
theorem s_seti (i : Nat) (hi : PE X b (tB C W fi)) (he : PE X e (tD C W fe)) (hN : X.N[i]? = some x := by rfl) (hv : Vis X.env.scope x := by first | exact Or.inl rfl | exact Or.inr (Or.inl rfl) | exact Or.inr (Or.inr rfl)) (hd : (x == ("__debug__" : Str)) = false := by decide)
    (hcd : (x == ("__classdict__" : Str)) = false := by decide)
    (ha : ∀ v, assign (.Subscript (.Name x p) b pos) X.env v = (do
      let ov ← holding [v] (eval (.Name x p) X.env)
      let iv ← holding [v, ov] (eval b X.env)
      standAt pos
      holding [v, ov, iv] (setItem ov iv v)
      release [v, ov, iv] []) := by intro _; rfl)
    (hs : swapsWithSole [.Subscript (.Name x p) b pos] e pos'.line X.env = pure false := by rfl) (hw : swappedStores [.Subscript (.Name x p) b pos] e X.env = pure none := by rfl)
    (h1 : (assignEach [.Subscript (.Name x p) b pos] X.env).map (·.2) = [assign (.Subscript (.Name x p) b pos) X.env] := by rfl) :
    PS X (.Assign [.Subscript (.Name x p) b pos] e pos') (tS C W (sSetI i fi fe)) := by
  refine ps_imp (ps_asg he (pg_sub (pe_var (i := i) hN hv hd hcd) hi set_list ha) hs hw h1) fun En σ H ⟨F, sd, S, h⟩ => ?_
  unfold sSetI at h
  split at h
  · rename_i xs hx
    have ho := owL_some hx
    refine ⟨F, sd, S, postS_E S h fun d v F1 H1 e1 p1 h1 => ?_⟩
    have S1 := S.mono e1
    obtain ⟨l, q2, q3, q4, vs, q5, q6⟩ := S1.ow i _ (.inl ho)
    refine ⟨_, q2, F1, sd, S1, postS_E S1 (PostS.mono e1.ff Lk.refl h1) fun k u F2 H2 e2 b2 h2 => ?_⟩
    have S2 := S1.mono e2
    obtain ⟨l2, r2, r3, r4, vs2, r5, r6⟩ := S2.ow i _ (.inl ho)
    rw [q2] at r2
    cases r2
    unfold putL at h2
    split at h2
    · rename_i n
      split at h2
      · rename_i j hj
        refine ⟨l, vs2, n, j, rfl, bor_int b2, r5, by rw [r6.length]; exact hj, ?_⟩
        refine h2 F2 _ σ (S2.upOw ho q2 ⟨_, upd_same, RepL.setI r6 (Rep.mono e2.ff p1)⟩) e2.ff (lk_ow ho)
      · exact h2.elim
    · exact h2.elim
  · exact h.elim
/-! ### x[k] = e, x an own dict -/
def owD (s : SS) (i : Nat) : Option (List Key × List D) := match s[i]? with
  | some (.ow (.dic ks vs)) => some (ks, vs)
  | _ => none
theorem owD_some {s : SS} {i : Nat} {ks : List Key} {vs : List D} (h : owD s i = some (ks, vs)) : s[i]? = some (.ow (.dic ks vs)) := by
  unfold owD at h
  split at h
  · rename_i e
    cases h
    exact e
  · cases h
def putDS (s : SS) (i : Nat) (ks : List Key) (vs : List D) (d k : D) : RS := match keyD k with
  | some j => if ks.length + 1 ≤ SZ then .nx (s.set i (.ow (.dic (putKs ks j) (putV ks vs j d)))) else .bad
  | none => .bad
def sPutD (i : Nat) (fi fe : SS → R D) : SS → RS := fun s => match owD s i with
  | some (ks, vs) => sE fe (fun d s => sE fi (fun k s => putDS s i ks vs d k) s) s
  | none => .bad
theorem put_keys {kvs : List (Key × V)} {k : Key} {v : V} : (putK kvs k v).map (·.1) = putKs (kvs.map (·.1)) k := by
  have e : has (kvs.map (·.1)) k = kvs.any fun kv => decide (kv.1 = k) := by
    unfold has
    rw [List.any_map]
    rfl
  unfold putK putKs
  rw [e]
  split
  · rw [List.map_map]
    refine List.map_congr_left fun kv _ => ?_
    show (if kv.1 = k then (kv.1, v) else kv).1 = kv.1
    split <;> rfl
  · simp
theorem put_nd {ks : List Key} {k : Key} (h : ks.Nodup) : (putKs ks k).Nodup := by
  unfold putKs
  split
  · exact h
  · rename_i q
    refine List.nodup_append.mpr ⟨h, by simp, fun a ha b hb => ?_⟩
    simp at hb
    subst hb
    intro z
    subst z
    exact q (List.any_eq_true.mpr ⟨_, ha, by simp⟩)
theorem put_same {kvs : List (Key × V)} {k : Key} {v : V} (h : k ∉ kvs.map (·.1)) : kvs.map (fun kv => if kv.1 = k then (kv.1, v) else kv) = kvs := by
  conv => rhs; rw [← List.map_id kvs]
  refine List.map_congr_left fun kv hkv => ?_
  rw [if_neg]
  · rfl
  · intro z
    exact h (by rw [← z]; exact List.mem_map_of_mem hkv)
theorem put_rep {G : GE} {F : Hp} {k : Key} {d : D} {v : V} (h : Rep G F d v) : ∀ {kvs : List (Key × V)} {ds : List D}, (kvs.map (·.1)).Nodup → RepL G F ds (kvs.map (·.2)) → RepL G F (putV (kvs.map (·.1)) ds k d) ((putK kvs k v).map (·.2))
  | [], ds, nd, r => by
    unfold RepL at r
    have : ds = [] := by
      cases ds with
      | nil => rfl
      | cons a l => obtain ⟨_, _, e, _⟩ := r; simp at e
    subst this
    exact RepL.cons h RepL.nil
  | p :: kvs, [], nd, r => by
    have := r.length
    simp at this
  | p :: kvs, e :: ds, nd, r => by
    simp only [List.map_cons] at r nd ⊢
    unfold RepL at r
    obtain ⟨u, t, eq, h1, h2⟩ := r
    injection eq with e1 e2
    subst e1 e2
    have nd2 := (List.nodup_cons.mp nd).2
    have ni := (List.nodup_cons.mp nd).1
    have ih := put_rep (k := k) h nd2 h2
    unfold putV
    by_cases hk : p.1 = k
    · rw [if_pos hk]
      unfold putK
      rw [List.any_cons, decide_eq_true hk, Bool.true_or, if_pos rfl, List.map_cons, if_pos hk, List.map_cons]
      rw [put_same (by rw [← hk]; exact ni)]
      exact RepL.cons h h2
    · rw [if_neg hk]
      have : putK (p :: kvs) k v = p :: putK kvs k v := by
        unfold putK
        rw [List.any_cons, decide_eq_false hk, Bool.false_or]
        split
        · rw [List.map_cons, if_neg hk]
        · rfl
      rw [this, List.map_cons]
      exact RepL.cons h1 ih
theorem s_putd (v : Pq X C W) (i : Nat) (hi : PE X b (tB C W fi)) (he : PE X e (tD C W fe)) (hN : X.N[i]? = some x := by rfl) (hv : Vis X.env.scope x := by first | exact Or.inl rfl | exact Or.inr (Or.inl rfl) | exact Or.inr (Or.inr rfl)) (hd : (x == ("__debug__" : Str)) = false := by decide)
    (hcd : (x == ("__classdict__" : Str)) = false := by decide) (hs : swapsWith e (some (.Subscript (.Name x p) b pos)) pos'.line X.env = pure false := by rfl) :
    PS X (.Assign [.Subscript (.Name x p) b pos] e pos') (tS C W (sPutD i fi fe)) := by
  refine ps_imp (ps_dput (by have := v.hu; omega) (pe_var (i := i) hN hv hd hcd) hi he hs) fun En σ H ⟨F, sd, S, h⟩ => ?_
  unfold sPutD at h
  split at h
  · rename_i ks ds hx
    have ho := owD_some hx
    refine ⟨F, sd, S, postS_E S h fun d v F1 H1 e1 p1 h1 => ?_⟩
    have S1 := S.mono e1
    obtain ⟨l, q2, q3, q4, kvs, q5, q6, q7, q8⟩ := S1.ow i _ (.inl ho)
    refine ⟨_, q2, F1, sd, S1, postS_E S1 (PostS.mono e1.ff Lk.refl h1) fun k u F2 H2 e2 b2 h2 => ?_⟩
    have S2 := S1.mono e2
    obtain ⟨l2, r2, r3, r4, kvs2, r5, r6, r7, r8⟩ := S2.ow i _ (.inl ho)
    rw [q2] at r2
    cases r2
    unfold putDS at h2
    split at h2
    · rename_i j hj
      split at h2
      · rename_i hz
        have hz : ks.length + 1 ≤ 16777216 := (sz_is ▸ hz)
        have hkl : kvs2.length < sizeLine := by
          rw [sizeLine_eq, ← List.length_map (f := (·.1)), r6]
          omega
        refine ⟨l, _, rfl, by rw [keyD_rep hj b2]; exact DPut.k r5 hkl, ?_⟩
        subst r6
        exact h2 F2 _ σ (S2.upOw ho q2 ⟨_, upd_same, put_keys, put_nd r7, put_rep (Rep.mono e2.ff p1) r7 r8⟩) e2.ff (lk_ow ho)
      · exact h2.elim
    · exact h2.elim
  · exact h.elim
end
/-! plain side -/
section
variable {s : SS} {fi fe : SS → R D}
def rSetI (s : SS) (i : Nat) (o : Option (List D)) (r ri : R D) : RS := match o with
  | some xs => rE s r fun d s => rE s ri fun k s => putL s i xs d k
  | none => .bad
@[simp] theorem sSetI_s (i : Nat) : sSetI i fi fe s = rSetI s i (getOw s[i]?) (fe s) (fi s) := by
  unfold sSetI
  rw [owL_s]
  cases getOw s[i]? with
  | none => rfl
  | some xs =>
    unfold rSetI
    dsimp only
    rw [sE_s]
    cases fe s <;> rfl
@[simp] theorem rSetI_ok (i : Nat) (xs : List D) (d k : D) : rSetI s i (some xs) (.ok d) (.ok k) = putL s i xs d k := rfl
theorem putL_i (i : Nat) (xs : List D) (d : D) (n : Int) (h : 0 ≤ n) (h2 : n < xs.length) : putL s i xs d (.int n) = .nx (s.set i (.ow (.lst (xs.set n.toNat d)))) := by
  unfold putL ixN
  simp [h, h2]
def getOd : Option Sl → Option (List Key × List D)
  | some (.ow (.dic ks vs)) => some (ks, vs)
  | _ => none
@[simp] theorem getOd_d (ks : List Key) (vs : List D) : getOd (some (.ow (.dic ks vs))) = some (ks, vs) := rfl
theorem owD_s (i : Nat) : owD s i = getOd s[i]? := by
  unfold owD
  generalize s[i]? = o
  cases o with
  | none => rfl
  | some x => cases x with
    | ow d => cases d <;> rfl
    | _ => rfl
def rPutD (s : SS) (i : Nat) (o : Option (List Key × List D)) (r ri : R D) : RS := match o with
  | some (ks, vs) => rE s r fun d s => rE s ri fun k s => putDS s i ks vs d k
  | none => .bad
@[simp] theorem sPutD_s (i : Nat) : sPutD i fi fe s = rPutD s i (getOd s[i]?) (fe s) (fi s) := by
  unfold sPutD
  rw [owD_s]
  cases getOd s[i]? with
  | none => rfl
  | some xs =>
    unfold rPutD
    dsimp only
    rw [sE_s]
    cases fe s <;> rfl
@[simp] theorem rPutD_ok (i : Nat) (ks : List Key) (vs : List D) (d k : D) : rPutD s i (some (ks, vs)) (.ok d) (.ok k) = putDS s i ks vs d k := rfl
end
end
end Z
namespace Z
open PySem PySem.Spec PySem.P PyProof.Rows L2
/-! ### words in order -/
theorem lex_iff {a b : List Nat} : a < b ↔ (∃ z, z ≠ [] ∧ b = a ++ z) ∨ (∃ p c d x y, a = p ++ c :: x ∧ b = p ++ d :: y ∧ c < d) := by
  induction a generalizing b with
  | nil =>
    cases b with
    | nil => simp
    | cons d b => simp
  | cons c a ih =>
    cases b with
    | nil => simp
    | cons d b =>
      rw [List.cons_lt_cons_iff]
      constructor
      · rintro (h | ⟨rfl, h⟩)
        · exact .inr ⟨[], c, d, a, b, rfl, rfl, h⟩
        · rcases ih.mp h with ⟨z, hz, rfl⟩ | ⟨p, e, f, x, y, rfl, rfl, hef⟩
          · exact .inl ⟨z, hz, rfl⟩
          · exact .inr ⟨c :: p, e, f, x, y, rfl, rfl, hef⟩
      · rintro (⟨z, hz, h⟩ | ⟨p, e, f, x, y, h1, h2, hef⟩)
        · injection h with h1 h2
          exact .inr ⟨h1.symm, ih.mpr (.inl ⟨z, hz, h2⟩)⟩
        · cases p with
          | nil =>
            injection h1 with h1 h1'
            injection h2 with h2 h2'
            subst h1 h2
            exact .inl hef
          | cons g p =>
            injection h1 with h1 h1'
            injection h2 with h2 h2'
            subst h1 h2
            exact .inr ⟨rfl, ih.mpr (.inr ⟨p, e, f, x, y, h1', h2', hef⟩)⟩
theorem lex_pre {a b : List Nat} (p : List Nat) : p ++ a < p ++ b ↔ a < b := by
  induction p with
  | nil => rfl
  | cons c p ih =>
    rw [List.cons_append, List.cons_append, List.cons_lt_cons_iff]
    constructor
    · rintro (h | ⟨-, h⟩)
      · exact absurd h (Nat.lt_irrefl _)
      · exact ih.mp h
    · exact fun h => .inr ⟨rfl, ih.mpr h⟩
theorem lex_tri (a b : List Nat) : a < b ∨ a = b ∨ b < a := by
  by_cases h1 : a < b
  · exact .inl h1
  · by_cases h2 : b < a
    · exact .inr (.inr h2)
    · exact .inr (.inl (List.le_antisymm (List.not_lt.mp h2) (List.not_lt.mp h1)))
/-- less, and not longer on the right: so a sign differs -/
theorem lex_app {a b : List Nat} (h : a < b) (hl : b.length ≤ a.length) (x y : List Nat) : a ++ x < b ++ y := by
  rcases lex_iff.mp h with ⟨z, hz, rfl⟩ | ⟨p, c, d, u, v, rfl, rfl, hcd⟩
  · have := List.length_pos_iff.mpr hz
    rw [List.length_append] at hl
    omega
  · exact lex_iff.mpr (.inr ⟨p, c, d, u ++ x, v ++ y, by simp, by simp, hcd⟩)
theorem lex_same {a b x y : List Nat} (hl : a.length = b.length) (h : a ++ x < b ++ y) : a < b ∨ (a = b ∧ x < y) := by
  by_cases e : a = b
  · subst e
    exact .inr ⟨rfl, (lex_pre a).mp h⟩
  · rcases lex_tri a b with h1 | h1 | h1
    · exact .inl h1
    · exact absurd h1 e
    · exact absurd h (List.lt_asymm (lex_app h1 (by omega) y x))
theorem lex_nlt {a b : List Nat} (h : ¬ a < b) (e : a ≠ b) : b < a := by
  rcases lex_tri a b with h1 | h1 | h1
  · exact absurd h1 h
  · exact absurd h1 e
  · exact h1
/-! ### primes -/
/-- less than each other turn of itself -/
def Pr (w : List Nat) : Prop := w ≠ [] ∧ ∀ k, 0 < k → k < w.length → w < rot w k
theorem rot_split (x v : List Nat) : rot (x ++ v) x.length = v ++ x := by simp [rot]
/-- less than each ending -/
theorem pr_suf {x v : List Nat} (h : Pr (x ++ v)) (hx : x ≠ []) (hv : v ≠ []) : x ++ v < v := by
  have px := List.length_pos_iff.mpr hx
  have pv := List.length_pos_iff.mpr hv
  have h1 := h.2 x.length px (by simp; omega)
  rw [rot_split] at h1
  by_cases hlt : x ++ v < v
  · exact hlt
  · exfalso
    have hne : x ++ v ≠ v := fun e => by
      have := congrArg List.length e
      rw [List.length_append] at this
      omega
    have h2 := lex_nlt hlt hne
    rcases lex_iff.mp h2 with ⟨y, hy, e⟩ | ⟨p, c, d, u, t, e1, e2, hcd⟩
    · have hyl : y.length = x.length := by
        have := congrArg List.length e
        rw [List.length_append, List.length_append] at this
        omega
      rw [e] at h1
      have h3 : y < x := (lex_pre v).mp h1
      have h4 := h.2 v.length pv (by simp; omega)
      rw [e, rot_split, ← e] at h4
      rcases lex_same hyl.symm h4 with h5 | ⟨_, h5⟩
      · exact List.lt_asymm h3 h5
      · exact List.lt_irrefl _ h5
    · have h3 : v ++ x < x ++ v := by
        rw [e2]
        conv => lhs; rw [e1]
        exact lex_iff.mpr (.inr ⟨p, c, d, u ++ x, t, by simp, rfl, hcd⟩)
      exact List.lt_asymm h1 h3
theorem pr_of_suf {w : List Nat} (hw : w ≠ []) (h : ∀ x v, w = x ++ v → x ≠ [] → v ≠ [] → w < v) : Pr w := by
  refine ⟨hw, fun k h0 hk => ?_⟩
  have e : w = w.take k ++ w.drop k := (List.take_append_drop k w).symm
  have h1 := h (w.take k) (w.drop k) e (by intro z; have := congrArg List.length z; rw [List.length_take, List.length_nil] at this; omega) (by intro z; have := congrArg List.length z; rw [List.length_drop, List.length_nil] at this; omega)
  have := lex_app h1 (by simp) [] (w.take k)
  simpa [rot] using this
/-- two primes, the lesser first: a prime -/
theorem pr_app {u v : List Nat} (hu : Pr u) (hv : Pr v) (h : u < v) : Pr (u ++ v) := by
  have huv : u ++ v < v := by
    rcases lex_iff.mp h with ⟨z, hz, e⟩ | ⟨p, c, d, x, y, e1, e2, hcd⟩
    · have h1 : v < z := by
        rw [e] at hv ⊢
        exact pr_suf hv hu.1 hz
      conv => rhs; rw [e]
      exact (lex_pre u).mpr h1
    · rw [e2]
      conv => lhs; lhs; rw [e1]
      exact lex_iff.mpr (.inr ⟨p, c, d, x ++ (p ++ d :: y), y, by simp, rfl, hcd⟩)
  refine pr_of_suf (by simp [hu.1]) fun x s e hx hs => ?_
  rcases List.append_eq_append_iff.mp e with ⟨m, e1, e2⟩ | ⟨m, e1, e2⟩
  · by_cases hm : m = []
    · subst hm
      simp at e2
      subst e2
      exact huv
    · rw [e2] at hv
      have h3 := pr_suf hv hm hs
      rw [← e2] at h3
      exact List.lt_trans huv h3
  · by_cases hm : m = []
    · subst hm
      simp at e1 e2
      subst e2
      exact huv
    · rw [e1] at hu
      have h3 := pr_suf hu hx hm
      rw [← e1] at h3
      rw [e2]
      exact lex_app h3 (by rw [e1]; simp) _ _
theorem pr_one (c : Nat) : Pr [c] := ⟨by simp, fun k h0 hk => by simp at hk; omega⟩
end Z
namespace Z
noncomputable section
open PySem PySem.Spec PySem.P PyProof.Rows L2
theorem repS_get (t : List Nat) (m i : Nat) (h : i < m * t.length) : (repS t m)[i]? = t[i % t.length]? := by
  unfold repS
  induction m generalizing i with
  | zero => omega
  | succ m ih =>
    rw [List.replicate_succ, List.flatten_cons]
    by_cases hi : i < t.length
    · rw [List.getElem?_append_left hi, Nat.mod_eq_of_lt hi]
    · rw [List.getElem?_append_right (by omega), ih _ (by rw [Nat.succ_mul] at h; omega)]
      congr 1
      conv => rhs; rw [show i = (i - t.length) + t.length by omega, Nat.add_mod_right]
theorem repS_len (t : List Nat) (m : Nat) : (repS t m).length = m * t.length := by simp [repS]
theorem least_nat {P : Nat → Bool} : ∀ (n : Nat), P n = true → ∃ m, m ≤ n ∧ P m = true ∧ ∀ t, t < m → P t = false
  | 0, h => ⟨0, Nat.le_refl _, h, fun t ht => absurd ht (Nat.not_lt_zero _)⟩
  | n + 1, h => by
    by_cases q : ∃ k, k ≤ n ∧ P k = true
    · obtain ⟨k, hk, hp⟩ := q
      have ⟨m, h1, h2, h3⟩ := least_nat (P := P) k hp
      exact ⟨m, by omega, h2, h3⟩
    · refine ⟨n + 1, Nat.le_refl _, h, fun t ht => ?_⟩
      cases e : P t with
      | false => rfl
      | true => exact absurd ⟨t, by omega, e⟩ q
termination_by n => n
def rtOk (w : List Nat) (s : Nat) : Bool := decide (0 < s) && (decide (w.length % s = 0) && (repS (w.take s) (w.length / s) == w))
theorem rtOk_full {w : List Nat} (hw : w ≠ []) : rtOk w w.length = true := by
  have := List.length_pos_iff.mpr hw
  simp [rtOk, this, Nat.div_self this, repS]
theorem rt_ex {w : List Nat} (hw : w ≠ []) : ∃ s, s ≤ w.length ∧ rtOk w s = true ∧ ∀ t, t < s → rtOk w t = false := least_nat _ (rtOk_full hw)
def rlen (w : List Nat) : Nat := if h : w ≠ [] then Classical.choose (rt_ex h) else 0
theorem rlen_spec {w : List Nat} (hw : w ≠ []) : rlen w ≤ w.length ∧ rtOk w (rlen w) = true ∧ ∀ t, t < rlen w → rtOk w t = false := by
  unfold rlen
  rw [dif_pos hw]
  exact Classical.choose_spec (rt_ex hw)
def rootW (w : List Nat) : List Nat := w.take (rlen w)
theorem rtOk_iff {w : List Nat} {s : Nat} : rtOk w s = true ↔ 0 < s ∧ w.length % s = 0 ∧ ∀ i, i < w.length → w[i]? = w[i % s]? := by
  unfold rtOk
  rw [Bool.and_eq_true, Bool.and_eq_true, decide_eq_true_eq, decide_eq_true_eq, beq_iff_eq]
  constructor
  · rintro ⟨h1, h2, h3⟩
    refine ⟨h1, h2, fun i hi => ?_⟩
    have hs : s ≤ w.length := Nat.le_of_dvd (by omega) (Nat.dvd_of_mod_eq_zero h2)
    have hl : (w.take s).length = s := by simp; omega
    have hm : w.length / s * s = w.length := Nat.div_mul_cancel (Nat.dvd_of_mod_eq_zero h2)
    conv => lhs; rw [← h3]
    rw [repS_get _ _ _ (by rw [hl, hm]; exact hi), hl, List.getElem?_take, if_pos (Nat.mod_lt _ h1)]
  · rintro ⟨h1, h2, h3⟩
    refine ⟨h1, h2, ?_⟩
    by_cases h0 : w.length = 0
    · have : w = [] := List.length_eq_zero_iff.mp h0
      subst this
      simp [repS]
    · have hs : s ≤ w.length := Nat.le_of_dvd (by omega) (Nat.dvd_of_mod_eq_zero h2)
      have hl : (w.take s).length = s := by simp; omega
      have hm : w.length / s * s = w.length := Nat.div_mul_cancel (Nat.dvd_of_mod_eq_zero h2)
      apply List.ext_getElem?
      intro i
      by_cases hi : i < w.length
      · rw [repS_get _ _ _ (by rw [hl, hm]; exact hi), hl, List.getElem?_take, if_pos (Nat.mod_lt _ h1), h3 i hi]
      · rw [List.getElem?_eq_none (by rw [repS_len, hl, hm]; omega), List.getElem?_eq_none (by omega)]
theorem rlen_pos {w : List Nat} (hw : w ≠ []) : 0 < rlen w := (rtOk_iff.mp (rlen_spec hw).2.1).1
theorem rlen_dvd {w : List Nat} (hw : w ≠ []) : w.length % rlen w = 0 := (rtOk_iff.mp (rlen_spec hw).2.1).2.1
theorem root_len {w : List Nat} (hw : w ≠ []) : (rootW w).length = rlen w := by
  have := (rlen_spec hw).1
  simp [rootW]
  omega
theorem root_rep {w : List Nat} (hw : w ≠ []) : repS (rootW w) (w.length / rlen w) = w := by
  have h := (rlen_spec hw).2.1
  unfold rtOk at h
  rw [Bool.and_eq_true, Bool.and_eq_true, decide_eq_true_eq, decide_eq_true_eq, beq_iff_eq] at h
  exact h.2.2
theorem rot_of_rt {w : List Nat} {s : Nat} (h : rtOk w s = true) (hs : s < w.length) : rot w s = w := by
  obtain ⟨h1, h2, h3⟩ := rtOk_iff.mp h
  apply List.ext_getElem?
  intro i
  by_cases hi : i < w.length
  · rw [rot_get w s i (by omega) hi, h3 _ (Nat.mod_lt _ (by omega)), h3 i hi, Nat.mod_mod_of_dvd _ (Nat.dvd_of_mod_eq_zero h2), Nat.add_mod_right]
  · rw [List.getElem?_eq_none (by rw [rot_len]; omega), List.getElem?_eq_none (by omega)]
theorem rot_mul {w : List Nat} {k : Nat} (h : rot w k = w) (hk : k ≤ w.length) (hw : 0 < w.length) : ∀ j, j * k ≤ w.length → rot w (j * k) = w
  | 0, _ => by simp [rot_zero]
  | j + 1, hj => by
    rw [Nat.succ_mul] at hj ⊢
    have ih := rot_mul h hk hw j (by omega)
    have h1 := rot_rot w (j * k) k (by omega) hk hw
    rw [ih, h] at h1
    by_cases e : j * k + k = w.length
    · rw [e, rot_full]
    · rw [Nat.mod_eq_of_lt (by omega)] at h1
      exact h1.symm
/-- a turn of itself: it has a shorter root -/
theorem rt_of_rot {w : List Nat} {k : Nat} (h : rot w k = w) (h0 : 0 < k) (hk : k < w.length) : rlen w ≤ k := by
  have hw0 : 0 < w.length := by omega
  have hw : w ≠ [] := List.length_pos_iff.mp hw0
  obtain ⟨m, m1, m2, m3⟩ := least_nat (P := fun j => decide (0 < j) && (rot w j == w)) k (by simp [h0, h])
  simp only [Bool.and_eq_true, decide_eq_true_eq, beq_iff_eq] at m2
  obtain ⟨m2, m4⟩ := m2
  have hd : w.length % m = 0 := by
    by_cases e : w.length % m = 0
    · exact e
    · exfalso
      have hr := Nat.mod_lt w.length m2
      have hq : w.length / m * m ≤ w.length := Nat.div_mul_le_self _ _
      have hq2 : w.length / m * m + w.length % m = w.length := by rw [Nat.mul_comm]; exact Nat.div_add_mod _ _
      have h1 := rot_mul m4 (by omega) hw0 _ hq
      have h2 := rot_rot w (w.length / m * m) (w.length % m) hq (by omega) hw0
      rw [hq2, Nat.mod_self, rot_zero, h1] at h2
      have h3 := m3 _ hr
      simp [h2] at h3
      omega
  have hok : rtOk w m = true := rtOk_iff.mpr ⟨m2, hd, fun i hi => by
    have hj : i / m * m ≤ w.length := Nat.le_trans (Nat.div_mul_le_self _ _) (by omega)
    have h1 := rot_mul m4 (by omega) hw0 _ hj
    have him := Nat.mod_lt i m2
    have hie : i % m + i / m * m = i := by rw [Nat.mul_comm, Nat.add_comm]; exact Nat.div_add_mod _ _
    have h2 := rot_get w (i / m * m) (i % m) hj (by omega)
    rw [h1, hie, Nat.mod_eq_of_lt hi] at h2
    exact h2.symm⟩
  apply Nat.le_of_not_lt
  intro hlt
  have := (rlen_spec hw).2.2 m (by omega)
  rw [hok] at this
  cases this
theorem pr_iff {w : List Nat} (hw : w ≠ []) : Pr w ↔ lrot w = w ∧ rootW w = w := by
  have hp := List.length_pos_iff.mpr hw
  constructor
  · intro h
    refine ⟨(lrot_uniq hw (self_rots hw) fun x hx => ?_).symm, ?_⟩
    · obtain ⟨k, hk, rfl⟩ := mem_rots.mp hx
      by_cases h0 : k = 0
      · subst h0
        rw [rot_zero]
        exact List.lt_irrefl _
      · exact List.lt_asymm (h.2 k (by omega) hk)
    · have h1 := rlen_spec hw
      by_cases e : rlen w < w.length
      · have h2 := rot_of_rt h1.2.1 e
        have h3 := h.2 (rlen w) (rlen_pos hw) e
        rw [h2] at h3
        exact absurd h3 (List.lt_irrefl _)
      · unfold rootW
        rw [List.take_of_length_le (by omega)]
  · rintro ⟨h1, h2⟩
    refine ⟨hw, fun k h0 hk => ?_⟩
    have h3 := (lrot_spec hw).2 _ (mem_rots.mpr ⟨k, hk, rfl⟩)
    rw [h1] at h3
    refine lex_nlt h3 fun e => ?_
    have h4 := rt_of_rot e h0 hk
    have h5 := root_len hw
    rw [h2] at h5
    omega
theorem root_ne {w : List Nat} (hw : w ≠ []) : rootW w ≠ [] := by
  intro z
  have := root_len hw
  rw [z] at this
  have := rlen_pos hw
  simp at *
  omega
/-- the root of a least turn is a prime -/
theorem root_prime {v : List Nat} (hv : v ≠ []) (hl : lrot v = v) : Pr (rootW v) := by
  have hp := List.length_pos_iff.mpr hv
  obtain ⟨r1, r2, r3⟩ := rlen_spec hv
  obtain ⟨p1, p2, p3⟩ := rtOk_iff.mp r2
  have hul := root_len hv
  have hune := root_ne hv
  have hget : ∀ i, i < v.length → v[i]? = (rootW v)[i % rlen v]? := fun i hi => by
    unfold rootW
    rw [List.getElem?_take, if_pos (Nat.mod_lt _ p1)]
    exact p3 i hi
  refine ⟨hune, fun k h0 hk => ?_⟩
  rw [hul] at hk
  have hle := (lrot_spec hv).2 _ (mem_rots.mpr ⟨k, by omega, rfl⟩)
  rw [hl] at hle
  have e1 : v = rootW v ++ v.drop (rlen v) := by unfold rootW; exact (List.take_append_drop _ _).symm
  have e2 : rot v k = rot (rootW v) k ++ (rot v k).drop (rlen v) := by
    conv => lhs; rw [← List.take_append_drop (rlen v) (rot v k)]
    congr 1
    apply List.ext_getElem?
    intro i
    by_cases hi : i < rlen v
    · rw [List.getElem?_take, if_pos hi, rot_get v k i (by omega) (by omega), rot_get _ k i (by omega) (by omega), hul, hget _ (Nat.mod_lt _ hp), Nat.mod_mod_of_dvd _ (Nat.dvd_of_mod_eq_zero p2)]
    · rw [List.getElem?_eq_none (by simp; omega), List.getElem?_eq_none (by rw [rot_len]; omega)]
  have h1 : ¬ rot (rootW v) k < rootW v := fun z => by
    apply hle
    rw [e2]
    conv => rhs; rw [e1]
    exact lex_app z (by rw [rot_len]; omega) _ _
  refine lex_nlt h1 fun e => ?_
  have h2 := rt_of_rot e h0 (by omega)
  have h3 := rlen_pos hune
  obtain ⟨s1, s2, s3⟩ := rtOk_iff.mp (rlen_spec hune).2.1
  have hd : v.length % rlen (rootW v) = 0 := by
    apply Nat.mod_eq_zero_of_dvd
    rw [hul] at s2
    exact Nat.dvd_trans (Nat.dvd_of_mod_eq_zero s2) (Nat.dvd_of_mod_eq_zero p2)
  have hok : rtOk v (rlen (rootW v)) = true := rtOk_iff.mpr ⟨h3, hd, fun i hi => by
    have hdd : rlen (rootW v) ∣ rlen v := by rw [hul] at s2; exact Nat.dvd_of_mod_eq_zero s2
    have hm : i % rlen (rootW v) < v.length := Nat.lt_of_lt_of_le (Nat.mod_lt _ h3) (by omega)
    rw [hget i hi, hget _ hm, s3 _ (by rw [hul]; exact Nat.mod_lt _ p1), Nat.mod_mod_of_dvd _ hdd]
    congr 1
    rw [Nat.mod_eq_of_lt (a := i % rlen (rootW v)) (Nat.lt_of_lt_of_le (Nat.mod_lt _ h3) (by omega))]⟩
  have := r3 (rlen (rootW v)) (by omega)
  rw [hok] at this
  cases this
def prB (w : List Nat) : Bool := lrot w == w && rootW w == w
theorem prB_iff {w : List Nat} (hw : w ≠ []) : prB w = true ↔ Pr w := by
  unfold prB
  rw [Bool.and_eq_true, beq_iff_eq, beq_iff_eq]
  exact (pr_iff hw).symm
theorem joinL_flat (xs : List (List Nat)) : TL.joinL [] xs = xs.flatten := by
  induction xs with
  | nil => rfl
  | cons a r ih => cases r with
    | nil => simp [TL.joinL]
    | cons b r => simp only [TL.joinL, List.nil_append, ih, List.flatten_cons]
theorem flat_len (xs : List (List Nat)) : (xs.map (·.length)).sum = xs.flatten.length := by
  rw [List.length_flatten]
theorem joinM_flat (xs : List (List Nat)) (h : xs.flatten.length ≤ 16777216) : joinM (.str []) [.lst (xs.map .str)] = .ok (.str xs.flatten) := by
  unfold joinM joinD
  dsimp only
  rw [strsD_map]
  dsimp only
  rw [flat_len, joinL_flat, if_pos (le_sz (by simpa using h))]
/-- primes, none greater than the one ahead -/
def Parts (ps : List (List Nat)) : Prop := (∀ p ∈ ps, Pr p) ∧ ∀ (i : Nat) (a b : List Nat), ps[i]? = some a → ps[i + 1]? = some b → ¬ a < b
theorem Parts.tail {p : List Nat} {ps : List (List Nat)} (h : Parts (p :: ps)) : Parts ps :=
  ⟨fun q hq => h.1 q (List.mem_cons_of_mem _ hq), fun i a b h1 h2 => h.2 (i + 1) a b (by simpa using h1) (by simpa using h2)⟩
theorem Parts.le {p : List Nat} : ∀ {ps : List (List Nat)}, Parts (p :: ps) → ∀ q ∈ ps, ¬ p < q
  | [], _, q, hq => by cases hq
  | r :: ps, h, q, hq => by
    have h1 := h.2 0 p r rfl rfl
    rcases List.mem_cons.mp hq with rfl | hq
    · exact h1
    · have h2 := Parts.le h.tail q hq
      intro z
      rcases lex_tri r q with h3 | h3 | h3
      · exact h2 h3
      · subst h3; exact h1 z
      · exact h1 (List.lt_trans z h3)
theorem pre_le {a b : List Nat} : ¬ a ++ b < a := fun h => by
  rcases lex_iff.mp h with ⟨z, hz, e⟩ | ⟨p, c, d, x, y, e1, e2, hcd⟩
  · have := congrArg List.length e
    have hp := List.length_pos_iff.mpr hz
    simp only [List.length_append] at this
    omega
  · rw [e2] at e1
    simp at e1
    omega
/-- the first one is the longest prime at the begin -/
theorem parts_first {p : List Nat} {ps : List (List Nat)} (h : Parts (p :: ps)) {u : List Nat} (hu : Pr u) {y : List Nat} (e : p ++ ps.flatten = u ++ y) : u.length ≤ p.length := by
  apply Nat.le_of_not_lt
  intro hlt
  -- u = p ++ m, m a begin of the rest
  rcases List.append_eq_append_iff.mp e with ⟨m, e1, e2⟩ | ⟨m, e1, e2⟩
  · -- u = p ++ m
    have hm : m ≠ [] := by
      intro z
      subst z
      simp at e1
      subst e1
      omega
    have hpp := h.1 p List.mem_cons_self
    -- the last piece of u
    have key : ∀ (qs : List (List Nat)), (∀ q ∈ qs, ¬ p < q ∧ q ≠ []) → ∀ (m : List Nat), m ≠ [] → qs.flatten = m ++ y → ∃ x r, m = r ++ x ∧ x ≠ [] ∧ ∃ q ∈ qs, ∃ t, q = x ++ t := by
      intro qs
      induction qs with
      | nil =>
        intro _ m hm e
        simp at e
        exact absurd e.1 hm
      | cons q qs ih =>
        intro hq m hm e
        rw [List.flatten_cons] at e
        rcases List.append_eq_append_iff.mp e with ⟨m', e1, e2⟩ | ⟨m', e1, e2⟩
        · by_cases hm' : m' = []
          · subst hm'
            simp at e1
            exact ⟨m, [], by simp, hm, q, List.mem_cons_self, [], by simp [e1]⟩
          · obtain ⟨x, r, h1, h2, q', h3, t, h4⟩ := ih (fun q hq' => hq q (List.mem_cons_of_mem _ hq')) m' hm' e2
            exact ⟨x, q ++ r, by rw [e1, h1, List.append_assoc], h2, q', List.mem_cons_of_mem _ h3, t, h4⟩
        · exact ⟨m, [], by simp, hm, q, List.mem_cons_self, m', e1⟩
    obtain ⟨x, r, h1, h2, q, h3, t, h4⟩ := key ps (fun q hq => ⟨h.le q hq, (h.1 q (List.mem_cons_of_mem _ hq)).1⟩) m hm e2
    have e3 : u = (p ++ r) ++ x := by rw [e1, h1, List.append_assoc]
    have h5 : u < x := by
      rw [e3] at hu ⊢
      exact pr_suf hu (by simp [hpp.1]) h2
    have h6 : ¬ q < x := by rw [h4]; exact pre_le
    have h7 := h.le q h3
    have h8 : ¬ u < p := by rw [e1]; exact pre_le
    -- x ≤ q ≤ p ≤ u < x
    have g1 : u < q := by
      rcases lex_tri u q with z | z | z
      · exact z
      · subst z; exact absurd h5 h6
      · exact absurd (List.lt_trans z h5) h6
    have g2 : u < p := by
      rcases lex_tri u p with z | z | z
      · exact z
      · subst z; exact absurd g1 h7
      · exact absurd (List.lt_trans z g1) h7
    exact h8 g2
  · have := congrArg List.length e1
    simp at this
    omega
/-- one parting only -/
theorem parts_uniq : ∀ {ps qs : List (List Nat)}, Parts ps → Parts qs → ps.flatten = qs.flatten → ps = qs
  | [], [], _, _, _ => rfl
  | [], q :: qs, _, h, e => by
    have := (h.1 q List.mem_cons_self).1
    simp at e
    exact absurd e.1 this
  | p :: ps, [], h, _, e => by
    have := (h.1 p List.mem_cons_self).1
    simp at e
    exact absurd e.1 this
  | p :: ps, q :: qs, h1, h2, e => by
    rw [List.flatten_cons, List.flatten_cons] at e
    have l1 := parts_first h1 (h2.1 q List.mem_cons_self) e
    have l2 := parts_first h2 (h1.1 p List.mem_cons_self) e.symm
    have hl : p.length = q.length := by omega
    obtain ⟨e1, e2⟩ := List.append_inj e hl
    rw [e1, parts_uniq h1.tail h2.tail e2]
end
end Z
namespace ZR
open PySem PySem.Spec PyProof.Rows L2 RT
section
variable {prog : Program} {w : World} {A : Around} {E : Value → Shared → Prop} {s : Shared}
theorem call_list_rev {it l : Addr} {items : Array Value} {Q : Value → Shared → Prop} (hh : A.handled = none) (hit : s.heap.IsRevIter it l ((items.size : Int) - 1)) (hl : s.heap.IsList l items) (hne : l ≠ it) (hn : items.size ≤ sizeLine)
    (hQ : ∀ (h' : Heap) (tk : Nat) (acc : Array Value) (c' : Nat), (∀ b o, b ≠ it → s.heap.get? b = some o → h'.get? b = some o) → h'.get? s.heap.objs.size = some { cls := .type "list", dict := none, data := .seq acc c', slots := #[] } →
      ItemsOf (fun i v => items[items.size - 1 - i]? = some v) acc items.size → Q (.ref s.heap.objs.size) { s with heap := h', toks := tk }) :
    wpAny (model prog w) A (call (.type "list") [.ref it]) Q E s := by
  refine callType_codes (Q₁ := fun obj s₁ => obj = .ref s.heap.objs.size ∧ s₁ = { s with heap := s.heap.push { cls := .type "list", data := .seq #[] } }) F.called_list (F.typeCall_list_1 _) F.entry_list_init
    (code_list_new _ ⟨rfl, rfl⟩) fun obj s₁ h₁ => ?_
  obtain ⟨rfl, rfl⟩ := h₁
  have hS : (s.heap.push { cls := .type "list", data := .seq #[] }).get? s.heap.objs.size = some { cls := .type "list", data := .seq #[] } := Heap.get?_push_size _ rfl
  obtain ⟨oi, hoi, _⟩ := id hit
  obtain ⟨ol, hol, _⟩ := id hl
  have hSi : s.heap.objs.size ≠ it := Nat.ne_of_gt (Heap.lt_size hoi)
  have hSl : s.heap.objs.size ≠ l := Nat.ne_of_gt (Heap.lt_size hol)
  have hSf : s.heap.objs.size ∉ [it, l] := by simp only [List.mem_cons, List.not_mem_nil, or_false, not_or]; exact ⟨hSi, hSl⟩
  have W := (Walks.listRev (prog := prog) (w := w) (A := A.in1.in1) hh it l hne items).toS
  refine ⟨⟨_, hS, rfl⟩, F.args_list_init_2 _ _, ?_⟩
  show wpAny _ A.in1.in1 (do let old ← Builtin.List.listItems (.ref s.heap.objs.size); Builtin.List.listUpdate (.ref s.heap.objs.size) (fun _ => #[]); letGo old.toList.reverse; Builtin.List.listExtendWith (.ref s.heap.objs.size) (.ref it) .none) _ _ _
  refine wpAny_bind ?_
  unfold Builtin.List.listItems
  refine wpAny_bind (wpAny_seqItems hS rfl (wpAny_pure ?_))
  show wpAny _ A.in1.in1 (updateSeq s.heap.objs.size (fun _ => #[]) >>= fun _ => letGo (#[] : Array Value).toList.reverse >>= fun _ => Builtin.List.listExtendWith (.ref s.heap.objs.size) (.ref it) .none) _ _ _
  refine wpAny_bind (wpAny_updateSeq hS rfl ?_)
  have hS₂ := Heap.get?_update_self (Obj.mapSeq (fun _ => (#[] : Array Value))) hS rfl
  have oth : ∀ b o, b ≠ s.heap.objs.size → s.heap.get? b = some o → ((s.heap.push { cls := .type "list", data := .seq #[] }).update s.heap.objs.size (Obj.mapSeq (fun _ => (#[] : Array Value)))).get? b = some o :=
    fun b o hb e => (Heap.get?_update_other _ _ (Ne.symm hb)).trans (Heap.get?_push_of_some _ e)
  refine wpAny_bind (wpAny_letGo ?_)
  have hit1 := hit.at (h' := (s.heap.push { cls := .type "list", data := .seq #[] }).update s.heap.objs.size (Obj.mapSeq (fun _ => (#[] : Array Value)))) fun o e => oth it o (Ne.symm hSi) e
  have hl1 : ((s.heap.push { cls := .type "list", data := .seq #[] }).update s.heap.objs.size (Obj.mapSeq (fun _ => (#[] : Array Value)))).IsList l items := by
    obtain ⟨o, e, q⟩ := hl
    exact ⟨o, oth l o (Ne.symm hSl) e, q⟩
  have hT : ({ s with heap := (s.heap.push { cls := .type "list", data := .seq #[] }).update s.heap.objs.size (Obj.mapSeq (fun _ => (#[] : Array Value))) } : Shared).TypeIs (.ref it) "list_reverseiterator" := Heap.IsRevIter.typeIs (s := { s with heap := _ }) hit1
  have h1 : Builtin.List.listSameRef (.ref s.heap.objs.size) (.ref it) = false := by simp [Builtin.List.listSameRef, hSi]
  unfold Builtin.List.listExtendWith
  refine wpAny_bind (wpAny_typeOf hT ?_)
  rw [if_neg (by rw [h1]; decide)]
  refine wpAny_bind (wpAny_pyIter_revIter (s := { s with heap := _ }) hit1 ?_)
  refine wpAny_bind (wpAny_holding ?_)
  unfold Builtin.List.listLengthHint
  refine wpAny_bind (wpAny_specialOf hT nolen_lri ?_)
  show wpAny _ A.in1.in1 (specialOf (Value.ref it) (Str.ofString "__length_hint__") >>= _) _ _ _
  refine wpAny_bind (wpAny_specialOf hT hint_lri ?_)
  generalize hid : ("list_reverseiterator.__length_hint__" : String) = id0
  wp_delta
  rw [show splitId id0 = some ("list_reverseiterator", "__length_hint__") from by subst hid; decide +kernel]
  subst hid
  refine wpAny_bind (wpAny_isInstance (b := true) hT (by rw [isSubtype_type]; kernel_rfl) ?_)
  refine wpAny_pure ?_
  rw [if_neg (by decide)]
  have e0 : ((items.size : Nat) : Int) - 1 - ((0 : Nat) : Int) = (items.size : Int) - 1 := by omega
  refine wpAny_pure ⟨plainId_quiet F.plain_extend_loop _, codeAny_extend_loopS W hn _ hSf _ items.size 0 _ _ _ rfl (Nat.zero_le _) ⟨Nat.zero_le _, by rw [e0]; exact hit1, hl1⟩ hS₂ (ItemsOf.nil _) fun s' acc' c' hm hS' hacc => ?_⟩
  refine ⟨rfl, ?_⟩
  rw [Moved.eq_with hm]
  refine hQ s'.heap s'.toks acc' c' (fun b o hb e => ?_) hS' hacc
  have hbS : b ≠ s.heap.objs.size := Nat.ne_of_lt (Heap.lt_size e)
  refine hm.heap b o (fun hmem => ?_) (oth b o hbS e)
  rcases List.mem_cons.mp hmem with e' | hmem
  · exact hbS e'
  · exact hb (List.mem_singleton.mp hmem)
end
end ZR
namespace Z
noncomputable section
open PySem PySem.Spec PySem.P PyProof.Rows L2 RT
/-- list(reversed(xs)) -/
def revD : D → R D
  | .lst xs => .ok (.lst xs.reverse)
  | _ => .bad
@[simp] theorem revD_l (xs : List D) : revD (.lst xs) = .ok (.lst xs.reverse) := rfl
theorem RepL.reverse {G : GE} {F : Hp} : ∀ {ds : List D} {vs : List V}, RepL G F ds vs → RepL G F ds.reverse vs.reverse
  | [], vs, r => by unfold RepL at r; subst r; exact RepL.nil
  | d :: ds, vs, r => by
    unfold RepL at r
    obtain ⟨v, t, rfl, h1, h2⟩ := r
    rw [List.reverse_cons, List.reverse_cons]
    exact (RepL.reverse h2).append (RepL.cons h1 RepL.nil)
section
variable {X : Cx} {C : CT} {W : WX} {e : Expr} {fa : SS → R D} {pos pos2 p2 p : Pos}
theorem s_listRev (v : Pl X C W) (hg : Gl X "list") (hm : X.mg "list" = none) (hg2 : Gl X "reversed") (hm2 : X.mg "reversed" = none) (he : PE X e (tB C W fa))
    (hs : starEach [e] X.env = (false, eval e X.env) :: starEach [] X.env := by rfl)
    (hs2 : starEach [.Call (.Name "reversed" p2) [e] [] pos2] X.env = (false, eval (.Call (.Name "reversed" p2) [e] [] pos2) X.env) :: starEach [] X.env := by rfl) :
    PE X (.Call (.Name "list" p) [.Call (.Name "reversed" p2) [e] [] pos2] [] pos) (tF C W (eUn revD fa)) := by
  refine ⟨fun pins s σ H Q I h => ?_⟩
  obtain ⟨F, sd, S, h⟩ := h
  refine Call_ (ld_blt I hg hm boot_list (PyProof.Rows.callWith_type1 (args_cons (Call_ (ld_blt I hg2 hm2 PyProof.Rows.boot_reversed (PyProof.Rows.callWith_type1 (args_cons (thn (he.run pins s σ H (fun u H1 => ∃ F1 d, Ext F H F1 H1 ∧ Bor C.G F1 H1 d u ∧ PostE C W F1 H1 σ (pF C H) Q (revD d)) I
    ⟨F, sd, S, PostE.bind h fun d u F1 H1 e1 b1 h1 => ⟨F1, d, e1, b1, h1⟩⟩) fun u s1 ⟨w, H1, I1, r1, q1⟩ => args_nil ?_) hs) hs rfl))) hs2) hs2 rfl))
  obtain ⟨F1, d, e1, b1, h1⟩ := q1
  cases d with
  | lst xs =>
    obtain ⟨a, us, rfl, q, rr⟩ := bor_lst e1.fh b1
    obtain rfl : u = Value.ref a := r1
    rw [← v.K] at q
    obtain ⟨its, rv, p', hz⟩ := I1.list q
    refine call_reversed_list p'.isList (args_nil ?_)
    have hl := p'.isList
    obtain ⟨ol, hol, _⟩ := id hl
    have hne : a ≠ s1.heap.objs.size := Nat.ne_of_lt (Heap.lt_size hol)
    have hn : its.toArray.size ≤ sizeLine := by rw [List.size_toArray, ← rv.length]; exact hz
    refine ZR.call_list_rev (s := { s1 with heap := s1.heap.push (revObj a ((its.toArray.size : Int) - 1)) }) (I1.ok.hd v.calm) ⟨_, Heap.get?_push_size _ rfl, rfl, rfl⟩ (hl.push _) hne hn fun h' tk acc c' hk hS hi => ?_
    have k1 : ∀ b o, s1.heap.get? b = some o → h'.get? b = some o := fun b o e => hk b o (Nat.ne_of_lt (Heap.lt_size e)) (Heap.get?_push_of_some _ e)
    have hsz : s1.heap.objs.size ≤ (s1.heap.push (revObj a ((its.toArray.size : Int) - 1))).objs.size := by rw [Heap.size_push]; exact Nat.le_succ _
    have hfr : H1 (s1.heap.push (revObj a ((its.toArray.size : Int) - 1))).objs.size = none := I1.hok.fresh hsz
    have hrl : us.reverse.length ≤ sizeLine := by rw [List.length_reverse]; exact hz
    refine ⟨.ref _, upd H1 _ (.lst us.reverse), I1.laid (t' := tk) k1 hsz (show ObjOk X.prog X.w _ _ _ (.lst us.reverse) from ⟨hrl, acc.toList, c', vals_rev rv hi, ?_⟩), rfl, h1 _ F1 _ (Ext.newOwn e1.fh hfr) ⟨_, rfl, e1.hh.free hfr, e1.fh.free hfr, _, upd_same, RepL.reverse rr⟩⟩
    rw [Array.toArray_toList]
    exact hS
  | _ => exact h1.elim
end
end
end Z
namespace ZT
open PySem PySem.Spec PyProof.Rows L2
/-! ### sets of texts -/
def tkey (e : Int × Value) : Str := match e.2 with | .str k _ => k | _ => Str.empty
def GoodT (w : World) (e : Int × Value) : Prop := ∃ k tk, e.2 = Value.str k tk ∧ e.1 = hashStr w k

/-- the set of ints at a: S its members, n their number; its table rises and can be walked -/
def SetRT (w : World) (h : Heap) (a : Addr) (S : Str → Bool) (n : Nat) : Prop :=
  ∃ o es ep t, h.get? a = some o ∧ o.ExactSet ∧ o.data = .set es ep t ∧ (∀ e ∈ es.toList, GoodT w e) ∧ (es.toList.map tkey).Nodup ∧ (∀ k, S k = true ↔ k ∈ es.toList.map tkey) ∧
    es.size ≤ scanBound ∧ t.fits es.size = true ∧ es.size = n ∧ Ris t.place.toList ∧ (w.params.followText "set-order" = true ∨ t.led = true)

section
variable {P : Program} {w : World} {h h' : Heap} {a : Addr} {S : Str → Bool} {n : Nat}

theorem SetRT.at (R : SetRT w h a S n) (k : ∀ o, h.get? a = some o → h'.get? a = some o) : SetRT w h' a S n := by
  obtain ⟨o, es, ep, t, ho, r⟩ := R
  exact ⟨o, es, ep, t, k o ho, r⟩
theorem SetRT.lt (R : SetRT w h a S n) : a < h.objs.size := by
  obtain ⟨o, es, ep, t, ho, r⟩ := R
  exact Heap.lt_size ho
theorem SetRT.congr {S' : Str → Bool} (R : SetRT w h a S n) (e : ∀ k, S' k = S k) : SetRT w h a S' n := by
  have q : S' = S := funext e
  rw [q]; exact R
theorem goodt_elems {l : List (Int × Value)} (g : ∀ e ∈ l, GoodT w e) : ElemsOf (PySem.strKind P w) l := fun e he => by
  obtain ⟨k, tk, h1, h2⟩ := g e he
  exact ⟨⟨k, by rw [h1]; exact strKind_is P w k tk, h2⟩, by rw [h1] <;> rfl⟩
theorem goodt_is {e : Int × Value} (g : GoodT w e) (k : Str) : (PySem.strKind P w).is k e.2 = true ↔ tkey e = k := by
  obtain ⟨k0, tk, h1, _⟩ := g
  unfold tkey
  rw [h1]
  show ((k0 == k) = true) ↔ k0 = k
  exact beq_iff_eq
theorem goodt_mem {l : List (Int × Value)} (g : ∀ e ∈ l, GoodT w e) (k : Str) : k ∈ l.map tkey ↔ ∃ e ∈ l, (PySem.strKind P w).is k e.2 = true := by
  rw [List.mem_map]
  constructor
  · rintro ⟨e, he, q⟩
    exact ⟨e, he, (goodt_is (g e he) k).2 q⟩
  · rintro ⟨e, he, q⟩
    exact ⟨e, he, (goodt_is (g e he) k).1 q⟩
theorem SetRT.setOf (R : SetRT w h a S n) (hlt : n < scanBound) : h.SetOf (PySem.strKind P w) a S n := by
  obtain ⟨o, es, ep, t, ho, hx, hd, g, nd, hm, hb, hf, hn, _⟩ := R
  exact ⟨o, es, ep, t, ho, hx, hd, goodt_elems g, fun k => (hm k).trans (goodt_mem g k), by rw [hn]; exact hlt, hf, hn⟩
end

section
variable {P : Program} {w : World} {A : Around} {E : Value → Shared → Prop} {s : Shared} {a : Addr} {S : Str → Bool} {n : Nat}

/-! ### add -/
theorem store_atT {h : Heap} {a : Addr} {o : Obj} {es es' : Array (Int × Value)} {ep : Nat} {t t' : SetTable} (ho : h.get? a = some o) (hd : o.data = .set es ep t) :
    (h.update a (Obj.putSet es' t')).get? a = some { o with data := .set es' (ep + 1) t' } := by
  have q := Heap.get?_update_self (Obj.putSet es' t') ho (by rw [putSet_of es' t' hd]; rfl)
  rw [putSet_of es' t' hd] at q
  exact q

theorem scan_line {n : Nat} (h : n ≤ scanBound) : n ≤ sizeLine := by
  rw [sizeLine_eq]
  have : scanBound = 4096 := rfl
  omega
theorem setRT_add_tail {g : Bool → Sem Unit} (hg : ∀ (b : Bool) (s₁ : Shared) (Q' : Unit → Shared → Prop), Q' () s₁ → wpAny (model P w) A (g b) Q' E s₁)
    {o : Obj} {es : Array (Int × Value)} {ep : Nat} {t : SetTable} (ho : s.heap.get? a = some o) (hex : o.ExactSet) (hd : o.data = .set es ep t)
    {es1 : Array (Int × Value)} {t2 : SetTable} {S' : Str → Bool} (g1 : ∀ e ∈ es1.toList, GoodT w e) (nd1 : (es1.toList.map tkey).Nodup) (m1 : ∀ k, S' k = true ↔ k ∈ es1.toList.map tkey)
    (hb1 : es1.size ≤ scanBound) (hf2 : t2.fits es1.size = true) (hr : Ris t2.place.toList) (hl : w.params.followText "set-order" = true ∨ t2.led = true) {wasDummy : Bool} {R : Option Bool → Shared → Prop}
    (hR : ∀ h', Heap.SameBut a s.heap h' → SetRT w h' a S' es1.size → R (some true) { s with heap := h' }) :
    wpAny (model P w) A (do
        storeSet a es1 t2
        if (!wasDummy && t2.tooFull) = true then do
            g (relayAll t2 es1 (SetTable.grown es1.size)).2.2
            storeSet a (relayAll t2 es1 (SetTable.grown es1.size)).1 (relayAll t2 es1 (SetTable.grown es1.size)).2.1
            pure (some true)
          else pure (some true)) R E s := by
  refine wpAny_bind (wpAny_storeSet_of ho hd ?_ (scan_line hb1))
  have ho1 := store_atT (es' := es1) (t' := t2) ho hd
  have sb1 := Heap.SameBut.update s.heap a (Obj.putSet es1 t2)
  split
  · have pm := relayAll_perm t2 es1 (SetTable.grown es1.size)
    have hf3 := relayAll_fits t2 es1 (SetTable.grown es1.size)
    have hr3 := relayAll_ris t2 es1 (SetTable.grown es1.size)
    have hl3 := relayAll_led t2 es1 (SetTable.grown es1.size)
    generalize relayAll t2 es1 (SetTable.grown es1.size) = Z at pm hf3 hr3 hl3 ⊢
    obtain ⟨es2, t3, gave⟩ := Z
    dsimp only at pm hf3 hr3 hl3 ⊢
    have hsz : es2.size = es1.size := by rw [← Array.length_toList, pm.length_eq, Array.length_toList]
    have hb2 : es2.size ≤ scanBound := by rw [hsz]; exact hb1
    refine wpAny_bind (hg _ _ _ ?_)
    refine wpAny_bind (wpAny_storeSet_of ho1 rfl ?_ (scan_line hb2))
    have ho2 := store_atT (es' := es2) (t' := t3) ho1 rfl
    refine wpAny_pure (hR _ (sb1.trans (Heap.SameBut.update _ a _)) ?_)
    exact ⟨_, es2, _, t3, ho2, hex, rfl, fun e he => g1 e (pm.mem_iff.mp he), (pm.map tkey).nodup_iff.mpr nd1, fun k => (m1 k).trans (pm.map tkey).mem_iff.symm, hb2, hf3, hsz, hr3,
      hl.imp id fun z => by rw [hl3]; exact z⟩
  · exact wpAny_pure (hR _ sb1 ⟨_, es1, _, t2, ho1, hex, rfl, g1, nd1, m1, hb1, hf2, rfl, hr, hl⟩)

theorem setRT_add_hashed {k : Str} {tk : Tok} {Q : Bool → Shared → Prop} (R : SetRT w s.heap a S n) (room : n < scanBound)
    (hQ : ∀ h', Heap.SameBut a s.heap h' → SetRT w h' a (fun j => S j || decide (j = k)) (if S k = true then n else n + 1) → Q (!S k) { s with heap := h' }) :
    wpAny (model P w) A (setAddHashed a (Value.str k tk) ((PySem.strKind P w).hash k)) Q E s := by
  obtain ⟨o, es, ep, t, ho, hex, hd, g, nd, hm, hb, hf, hn, hr, hl⟩ := R
  have hkey : (PySem.strKind P w).is k (Value.str k tk) = true := strKind_is P w k tk
  have hsc : (Value.str k tk).scannable = true := rfl
  have hel : ElemsOf (PySem.strKind P w) es.toList := goodt_elems g
  unfold setAddHashed setAddHashedIn
  refine wpAny_holding (wpAny_bind (wpAny_setState_of ho hd hf ?_))
  dsimp only
  rw [byScan_of hsc (by rw [hn]; exact room) hel]
  simp only [↓reduceIte]
  unfold setAddByScan
  refine wpAny_bind ?_
  refine wpAny_bind (wpAny_rule ?_)
  refine wpAny_bind (wpAny_setScan_of hkey ho hd hf hel ?_)
  cases hfi : List.findIdx? (fun e => (PySem.strKind P w).is k e.2) es.toList with
  | some j =>
    dsimp only
    obtain ⟨hj, pj, _⟩ := List.findIdx?_eq_some_iff_getElem.mp hfi
    have hSk : S k = true := (hm k).2 ((goodt_mem (P := P) (w := w) g k).2 ⟨es.toList[j], List.getElem_mem hj, pj⟩)
    refine wpAny_pure (wpAny_pure ?_)
    have q := hQ s.heap (Heap.SameBut.refl a s.heap) ⟨o, es, ep, t, ho, hex, hd, g, nd, fun i => by
      rw [Bool.or_eq_true, decide_eq_true_eq, ← hm i]
      exact ⟨fun z => z.elim id (fun e => e ▸ hSk), .inl⟩, hb, hf, by rw [if_pos hSk]; exact hn, hr, hl⟩
    rw [hSk] at q
    exact q
  | none =>
    dsimp only
    have hnk : k ∉ es.toList.map tkey := fun z => by
      obtain ⟨e, he, q⟩ := (goodt_mem (P := P) (w := w) g k).1 z
      have c := List.findIdx?_eq_none_iff.mp hfi e he
      rw [q] at c
      cases c
    have hSk : S k = false := by
      cases q : S k with
      | false => rfl
      | true => exact absurd ((hm k).1 q) hnk
    have hgw : ∀ (b : Bool) {s₁ : Shared} {Q' : Unit → Shared → Prop}, Q' () s₁ → wpAny (model P w) A (match b with | true => rule "set.scan.the-table-gave-way" | false => pure ()) Q' E s₁ :=
      fun b s₁ Q' q => by cases b <;> first | exact wpAny_pure q | exact wpAny_rule q
    have pm := layNew_perm t es ((PySem.strKind P w).hash k) (Value.str k tk)
    have hf1 := layNew_fits t es ((PySem.strKind P w).hash k) (Value.str k tk)
    have hr1 := layNew_ris t es ((PySem.strKind P w).hash k) (Value.str k tk) hr
    have hl1 := layNew_led t es ((PySem.strKind P w).hash k) (Value.str k tk)
    generalize layNew t es ((PySem.strKind P w).hash k) (Value.str k tk) = Z at pm hf1 hr1 hl1 ⊢
    obtain ⟨es1, t1, wasDummy, gave⟩ := Z
    dsimp only at pm hf1 hr1 hl1 ⊢
    rw [Array.toList_push] at pm
    have pc : es1.toList.Perm (((PySem.strKind P w).hash k, Value.str k tk) :: es.toList) := pm.trans (List.perm_append_singleton _ _)
    have pk : (es1.toList.map tkey).Perm (k :: es.toList.map tkey) := pc.map tkey
    have g1 : ∀ e ∈ es1.toList, GoodT w e := fun e he => by
      rcases List.mem_cons.mp (pc.mem_iff.mp he) with z | z
      · rw [z]; exact ⟨k, tk, rfl, rfl⟩
      · exact g e z
    have nd1 : (es1.toList.map tkey).Nodup := pk.nodup_iff.mpr (List.nodup_cons.mpr ⟨hnk, nd⟩)
    have m1 : ∀ i, (S i || decide (i = k)) = true ↔ i ∈ es1.toList.map tkey := fun i => by
      rw [Bool.or_eq_true, decide_eq_true_eq, hm i, pk.mem_iff, List.mem_cons]
      exact Or.comm
    have hsz : es1.size = n + 1 := by rw [← Array.length_toList, pc.length_eq, List.length_cons, Array.length_toList, hn]
    have hb1 : es1.size ≤ scanBound := by rw [hsz]; exact room
    have hled : w.params.followText "set-order" = true ∨ t1.led = true := hl.imp id fun z => by rw [hl1]; exact z
    have fin : ∀ h', Heap.SameBut a s.heap h' → SetRT w h' a (fun j => S j || decide (j = k)) es1.size → Q true { s with heap := h' } := fun h' sb r => by
      have q := hQ h' sb
      rw [hSk] at q
      rw [hsz] at r
      exact q r
    refine wpAny_bind (hgw _ ?_)
    split
    · refine wpAny_bind ?_
      rw [hashByValue_scannable 8 hsc]
      refine wpAny_pure ?_
      refine setRT_add_tail ?_ ho hex hd g1 nd1 m1 hb1 ?_ ?_ ?_ ?_
      · intro b s₁ Q' q; cases b <;> first | exact wpAny_pure q | exact wpAny_rule q
      · first | (split <;> first | exact hf1 | exact SetTable.fits_plain_off hf1) | exact hf1
      · first | (split <;> exact hr1) | exact hr1
      · first | (split <;> exact hled) | exact hled
      · intro h' sb r; dsimp only; exact wpAny_pure (fin h' sb r)
    · refine wpAny_bind (wpAny_pure ?_)
      simp only [↓reduceIte]
      refine setRT_add_tail ?_ ho hex hd g1 nd1 m1 hb1 hf1 hr1 hled ?_
      · intro b s₁ Q' q; cases b <;> first | exact wpAny_pure q | exact wpAny_rule q
      · intro h' sb r; dsimp only; exact wpAny_pure (fin h' sb r)

end
theorem setRT_new_at {w : World} {h : Heap} {a : Addr} {ns : List Str} (ho : h.get? a = some { cls := .type "set", dict := none, data := .set #[] 0 (.fresh 0 0 (!w.params.followText "set-order")) }) : SetRT w h a (fun j => decide (j ∈ ns.take 0)) 0 :=
  ⟨_, #[], 0, _, ho, ⟨rfl, rfl, rfl⟩, rfl, (fun e he => by simp at he), (by simp), (fun k => by simp), (by decide), (by rfl), rfl, List.Pairwise.nil, by
    show _ ∨ (!w.params.followText "set-order") = true
    cases w.params.followText "set-order"
    · exact .inr rfl
    · exact .inl rfl⟩
section
variable {P : Program} {w : World} {A : Around} {E : Value → Shared → Prop} {s : Shared}
theorem set_update_strs {I : Addr} {fp wr : List Addr} {G : Array GenState → Array GenState → Prop} {n : Nat} {Pv : Nat → Value → Prop} {St : Nat → Shared → Prop} {R : Result → Shared → Prop}
    (W : WalksS P w A.in1 I fp wr G n Pv St) (S : Addr) (hSf : S ∉ fp) (ns : List Str) (hn : n = ns.length) (hb : ns.length ≤ scanBound) (hval : ∀ i v, Pv i v → ∃ k t, ns[i]? = some k ∧ v = .str k t) :
    ∀ (k i : Nat) (s : Shared), n - i = k → i ≤ n → St i s → (∃ c, c ≤ i ∧ SetRT w s.heap S (fun j => decide (j ∈ ns.take i)) c) →
      (∀ s' c, Moved (S :: wr) G s s' → c ≤ n → SetRT w s'.heap S (fun j => decide (j ∈ ns)) c → R (.ok (.ret .none)) s') →
      codeAny (model P w) A (.builtin "set.update.loop" ⟨[.ref S, .ref I], []⟩) R s := by
  have hSw : S ∉ wr := fun h => hSf (W.sub _ h)
  have hsub : ∀ b ∈ wr, b ∈ S :: wr := fun b hb => List.mem_cons_of_mem _ hb
  intro k
  induction k with
  | zero =>
    intro i s hk' hi hst ⟨c, hc, hS⟩ hR
    have hin : i = n := by omega
    subst hin
    refine codeAny_builtin F.entry_set_update_loop ?_
    rw [Around.under_plainId F.plain_set_update_loop _]
    show wpAny _ A.in1 (pyNext (.ref I) >>= _) _ _ s
    refine wpAny_bind (W.done s _ _ hst fun s' hm => ?_)
    show wpAny _ A.in1 (ret Value.none) _ _ s'
    have e : ns.take i = ns := List.take_of_length_le (by omega)
    rw [e] at hS
    exact wpAny_pure (hR s' c (hm.mono hsub) hc (hS.at fun o e => hm.heap S o hSw e))
  | succ k ih =>
    intro i s hk' hi hst ⟨c, hc, hS⟩ hR
    have hlt : i < n := by omega
    refine codeAny_builtin F.entry_set_update_loop ?_
    rw [Around.under_plainId F.plain_set_update_loop _]
    show wpAny _ A.in1 (pyNext (.ref I) >>= _) _ _ s
    refine wpAny_bind (W.item i s _ _ hlt hst fun v s' hP hst' hm => ?_)
    obtain ⟨z, t, hz, rfl⟩ := hval i v hP
    have hS' : SetRT w s'.heap S (fun j => decide (j ∈ ns.take i)) c := hS.at fun o e => hm.heap S o hSw e
    show wpAny _ A.in1 (holding [Value.str z t] (setAdd S (.str z t)) >>= _) _ _ s'
    refine wpAny_bind (wpAny_holding ?_)
    unfold setAdd
    refine wpAny_holding ?_
    refine wpAny_bind ((PySem.strKind P w).pyHash (k := z) (strKind_is _ _ _ _) ?_)
    refine setRT_add_hashed (s := { s' with toks := s'.toks + 1 }) hS' (by omega) fun h' hsb hS2 => ?_
    have hS3 : SetRT w h' S (fun j => decide (j ∈ ns.take (i + 1))) (if decide (z ∈ ns.take i) = true then c else c + 1) := hS2.congr fun j => by
      rw [List.take_add_one, hz]
      simp [List.mem_append]
    have hc3 : (if decide (z ∈ ns.take i) = true then c else c + 1) ≤ i + 1 := by
      split <;> omega
    refine wpAny_pure ⟨plainId_quiet F.plain_set_update_loop _, ih (i + 1) _ (by omega) hlt (W.frame _ s' _ _ hst' (Nat.le_succ _) fun b hb o e => ?_) ⟨_, hc3, hS3⟩ fun s'' c2 hm'' hc'' hS'' => ?_⟩
    · rw [hsb.2 b (fun h : b = S => hSf (by rw [← h]; exact hb))]; exact e
    · refine hR s'' c2 (Moved.trans W.gtrans ((hm.mono hsub).then_heap (Nat.le_succ _) fun b o hb e => ?_) hm'') hc'' hS''
      rw [hsb.2 b (fun h : b = S => hb (by rw [h]; exact List.mem_cons_self))]; exact e

theorem code_set_led1 (a : Value) {Q₁ : Value → Shared → Prop}
    (h : Q₁ (.ref s.heap.objs.size) { s with heap := s.heap.push { cls := .type "set", dict := none, data := .set #[] 0 (.fresh 0 0 (!w.params.followText "set-order")) } }) :
    codeAny (model P w) A (.call (.builtin "set.__new__") ⟨[.type "set", a], []⟩) (wants Q₁ E) s := by
  refine codeAny_of_tree ?_
  show wpAny _ A.in1 (do checkBuiltinCall "set.__new__" ⟨[.type "set", a], []⟩; again (.builtin "set.__new__" ⟨[.type "set", a], []⟩)) _ _ s
  refine wpAny_bind (wpAny_of_eq (F.newCall_set_1 a) (wpAny_pure ⟨plainId_quiet F.plain_set_new _, codeAny_builtin F.entry_set_new ?_⟩))
  rw [Around.under_plainId F.plain_set_new _]
  unfold Builtin.«set.__new__» Builtin.Frozenset.newClass
  have hsub := sub_set_self
  obtain ⟨hp, g, d, tk, os⟩ := s
  dsimp only
  wp_walk
  refine wpAny_askSetting (wpAny_pure ?_)
  dsimp only
  simp only [newObj]
  refine wpAny_bind (wpAny_alloc (wpAny_pure ?_))
  exact wpAny_pure h

theorem call_set_listT {l : Addr} {items : Array Value} (ns : List Str) {Q : Value → Shared → Prop} (hh : A.handled = none) (hl : s.heap.IsList l items) (hit : StrsAre items.toList ns) (hb : ns.length ≤ scanBound)
    (h : ∀ (h' : Heap) (tk c : Nat), SetRT w h' s.heap.objs.size (fun j => decide (j ∈ ns)) c → c ≤ ns.length → (∀ b o, s.heap.get? b = some o → h'.get? b = some o) → Q (.ref s.heap.objs.size) { s with heap := h', toks := tk }) :
    wpAny (model P w) A (call (.type "set") [.ref l]) Q E s := by
  have hisz : items.size = ns.length := by
    have q := StrsAre.len_eq hit
    rw [Array.length_toList] at q
    exact q
  obtain ⟨c, tl, hmro⟩ := F.called_set.mro
  have hmade := F.called_set.made
  have hsub := F.called_set.sub
  refine wpAny_call (codeAny_of_tree ?_)
  show wpAny _ _ (callAny (.type "set") _) _ _ _
  refine wpAny_pure ⟨Code.quiet_builtin _ (by decide +kernel), codeAny_builtin F.entry_type_call ?_⟩
  rw [Around.under_plain (weight_type_call_type "set" [.ref l] []) rfl]
  have h1 := F.called_set.notType
  have h2 := F.called_set.canCreate
  have hct := F.typeCall_set_1 (.ref l)
  repeat (any_goals (first | assumption | wp_step))

  refine codeAny_mono (code_set_led1 (.ref l) (E := E) (Q₁ := fun obj s₁ => obj = .ref s.heap.objs.size ∧ s₁ = { s with heap := s.heap.push { cls := .type "set", dict := none, data := .set #[] 0 (.fresh 0 0 (!w.params.followText "set-order")) } }) ⟨rfl, rfl⟩) fun r s₁ hr => ?_
  cases r with
  | error e => exact hr
  | ok fl =>
    cases fl with
    | ret obj =>
      obtain ⟨rfl, rfl⟩ := hr
      have hS : (s.heap.push { cls := .type "set", dict := none, data := .set #[] 0 (.fresh 0 0 (!w.params.followText "set-order")) }).get? s.heap.objs.size = some { cls := .type "set", dict := none, data := .set #[] 0 (.fresh 0 0 (!w.params.followText "set-order")) } := Heap.get?_push_size _ rfl
      have hT : Shared.TypeIs { s with heap := s.heap.push { cls := .type "set", dict := none, data := .set #[] 0 (.fresh 0 0 (!w.params.followText "set-order")) } } (.ref s.heap.objs.size) "set" := ⟨_, hS, rfl⟩
      have hli := F.called_set.init.lookup
      have hbi := F.called_set.init.bind (.ref s.heap.objs.size)
      repeat (any_goals (first | assumption | wp_step))

      refine codeAny_mono (codeAny_call_builtin (R := wants (fun r s₂ => r = .none ∧ ∃ h' tk c, s₂ = { s with heap := h', toks := tk } ∧ SetRT w h' s.heap.objs.size (fun j => decide (j ∈ ns)) c ∧ c ≤ ns.length ∧
          (∀ b o, s.heap.get? b = some o → h'.get? b = some o)) E) F.called_set.init.plain F.entry_set_init (check_set_init_1 hT ?_)) fun r₂ s₂ hr₂ => ?_
      · obtain ⟨ol, hol, hcl, nl, hdl⟩ := hl
        obtain ⟨ocls, odict, odata, oslots⟩ := ol
        simp only at hcl hdl
        subst hcl; subst hdl
        have hol' : (s.heap.push { cls := .type "set", dict := none, data := .set #[] 0 (.fresh 0 0 (!w.params.followText "set-order")) }).get? l = some { cls := .type "list", dict := odict, data := .seq items nl, slots := oslots } := Heap.get?_push_of_some _ hol
        have hsls := F.sub_list_set
        have hslf := F.sub_list_frozenset
        have hne : (Value.type "list" == Value.type "dict") = false := by decide
        have hl1 : (s.heap.push { cls := .type "set", dict := none, data := .set #[] 0 (.fresh 0 0 (!w.params.followText "set-order")) }).IsList l items := ⟨_, hol', rfl, nl, rfl⟩
        unfold Builtin.«set.__init__» noKeywords Builtin.Frozenset.updateFrom
        generalize hPI : pyIter = PI
        wp_walk
        subst hPI

        refine wpAny_pyIter_list hl1 ?_
        refine wpAny_bind (wpAny_runValue ?_)
        have hlS : l < s.heap.objs.size := Heap.lt_size hol
        have hh3 : A.in1.in1.in1.handled = none := by simp [hh]
        have hz1 : (s.heap.push { cls := .type "set", dict := none, data := .set #[] 0 (.fresh 0 0 (!w.params.followText "set-order")) }).objs.size = s.heap.objs.size + 1 := Heap.size_push ..
        have hneI : l ≠ (s.heap.push { cls := .type "set", dict := none, data := .set #[] 0 (.fresh 0 0 (!w.params.followText "set-order")) }).objs.size := by
          rw [Heap.size_push]; exact Nat.ne_of_lt (Nat.lt_succ_of_lt hlS)
        have hSf : s.heap.objs.size ∉ [(s.heap.push { cls := .type "set", dict := none, data := .set #[] 0 (.fresh 0 0 (!w.params.followText "set-order")) }).objs.size, l] := by
          rw [Heap.size_push]; simp only [List.mem_cons, List.mem_singleton, List.not_mem_nil, or_false, not_or]
          exact ⟨Nat.ne_of_lt (Nat.lt_succ_self _), Nat.ne_of_gt hlS⟩
        have hval : ∀ (i : Nat) (v : Value), items[i]? = some v → ∃ k t, ns[i]? = some k ∧ v = .str k t := fun i v hv => by
          have hi : i < ns.length := by rw [← hisz]; exact (Array.getElem?_eq_some_iff.mp hv).1
          obtain ⟨t, e⟩ := SS.strs_at hit i v (by rw [Array.getElem?_toList]; exact hv)
          refine ⟨ns[i], t, List.getElem?_eq_getElem hi, ?_⟩
          rw [e, List.getD_eq_getElem?_getD, List.getElem?_eq_getElem hi] <;> rfl
        refine set_update_strs ((Walks.list hh3 _ l hneI items).toS) s.heap.objs.size
          hSf ns hisz hb hval (items.size - 0) 0 _ (by omega) (Nat.zero_le _)
          ⟨⟨_, Heap.get?_push_size _ rfl, rfl, rfl⟩, (hl1.push _)⟩ ?hS0 ?hR
        case hS0 =>
          have hget : ((s.heap.push { cls := .type "set", dict := none, data := .set #[] 0 (.fresh 0 0 (!w.params.followText "set-order")) }).push { cls := .type "list_iterator", data := .fields #[.ref l, .int 0 0] }).get? s.heap.objs.size
              = some { cls := .type "set", dict := none, data := .set #[] 0 (.fresh 0 0 (!w.params.followText "set-order")) } := Heap.get?_push_of_some _ hS
          exact ⟨0, Nat.le_refl 0, setRT_new_at hget⟩
        case hR =>
          intro s' c' hm hc' hS'
          obtain ⟨h', g2, d', tk', os'⟩ := s'
          have eg : g2 = s.gens := hm.gens
          have ed : d' = s.drawn := hm.drawn
          have eo : os' = s.os := hm.os
          subst eg; subst ed; subst eo
          show wpAny _ _ _ _ _ _
          refine wpAny_pure ?_
          show wpAny _ _ (ret Value.none) _ _ _
          rw [hisz] at hc'
          refine wpAny_pure ⟨rfl, h', tk', c', rfl, hS', hc', fun b o e => ?_⟩
          have hb0 : b < s.heap.objs.size := Heap.lt_size e
          have hb1 : b ≠ s.heap.objs.size := Nat.ne_of_lt hb0
          have hb2 : b ≠ (s.heap.push { cls := .type "set", dict := none, data := .set #[] 0 (.fresh 0 0 (!w.params.followText "set-order")) }).objs.size := by
            rw [Heap.size_push]; exact Nat.ne_of_lt (Nat.lt_succ_of_lt hb0)
          exact hm.heap b o (by simp only [List.mem_cons, List.mem_singleton, List.not_mem_nil, or_false, not_or]; exact ⟨hb1, hb2⟩) (Heap.get?_push_of_some _ (Heap.get?_push_of_some _ e))

      · cases r₂ with
        | error e => exact hr₂
        | ok fl₂ =>
          cases fl₂ with
          | ret r =>
            obtain ⟨rfl, h', tk, c', rfl, hS', hc', hk'⟩ := hr₂
            repeat (any_goals (first | assumption | wp_step))
            exact h _ _ _ hS' hc' hk'
          | _ => exact hr₂.elim
    | _ => exact hr.elim

end
end ZT
namespace ZT
open PySem PySem.Spec PyProof.Rows L2 SrtO Srt
section
variable {P : Program} {w : World} {A : Around} {E : Value → Shared → Prop} {s : Shared}
theorem strsAre_map : ∀ (vs : List Value), (∀ v ∈ vs, ∃ k tk, v = Value.str k tk) → StrsAre vs (vs.map ZS.svS) := fun vs h => ZS.strs_ss h
theorem sorted_setT {a : Addr} {S : Str → Bool} {n : Nat} {Q : Value → Shared → Prop} (R : SetRT w s.heap a S n) (hnlt : n < scanBound) (hh : A.handled = none)
    (hQ : ∀ s' p (out : Array Value) (c : Nat) (ns : List Str), (∀ b o, s.heap.get? b = some o → s'.heap.get? b = some o) → s'.gens = s.gens → s'.os = s.os → s.heap.objs.size ≤ p →
      s'.heap.get? p = some (seqObj "list" out c) → StrsAre out.toList ns → ns.Pairwise (fun x y => ¬ y.cps.toList < x.cps.toList) → ns.Nodup → (∀ k, k ∈ ns ↔ S k = true) → ns.length = n → Q (.ref p) s') :
    wpAny (model P w) A (call (.builtin "sorted") [.ref a]) Q E s := by
  obtain ⟨o, es, ep, t, ho, hex, hd, g, nd, hm, hb, hf, hn, hr, hl⟩ := R
  refine Calls.call_function_entry kind_sorted plain_sorted entry_sorted (args_sorted1 _) ?_
  unfold Builtin.«sorted»
  refine wpAny_bind (m := checkCount "sorted" 1 1 _) (wpAny_pure ?_)
  refine wpAny_bind (collect_set (A := A.in1) hh ⟨o, ho, hex.1, hd⟩ hf (by rw [hn]; exact hnlt) hr hl fun s1 vs k1 hz g1 o1 pm => ?_)
  have hvl : vs.length = n := by rw [pm.length_eq, List.length_map, Array.length_toList]; exact hn
  have hvz : vs.length ≤ sizeLine := by
    rw [hvl, ← hn, sizeLine_eq]
    have : scanBound = 4096 := rfl
    omega
  have hI : StrsAre vs (vs.map ZS.svS) := ZS.strs_ss fun v hv => by
    obtain ⟨e, he, q⟩ := List.mem_map.mp (pm.mem_iff.mp hv)
    obtain ⟨k, tk, h1, _⟩ := g e he
    exact ⟨k, tk, by rw [← q]; exact h1⟩
  have pk : (vs.map ZS.svS).Perm (es.toList.map tkey) := by
    have q := pm.map ZS.svS
    rw [List.map_map] at q
    refine q.trans (List.Perm.of_eq (List.map_congr_left fun e he => ?_))
    obtain ⟨k, tk, h1, _⟩ := g e he
    show ZS.svS e.2 = tkey e
    unfold tkey
    rw [h1]
    rfl
  refine wpAny_bind (wpAny_newList ?_ hvz)
  have hoL : (s1.heap.push (seqObj "list" vs.toArray 0)).get? s1.heap.objs.size = some (seqObj "list" vs.toArray 0) := Heap.get?_push_size _ rfl
  refine wpAny_bind (wpAny_holding (wpAny_call_entry slot_list_sort ⟨_, hoL, rfl⟩ entry_list_sort (list_sort_ord ZS.swo_str hoL hvz (fun h2 => ZS.strs_sortable hI h2) fun out hs hbb => ⟨_, rfl, ?_⟩) (args_list_sort _)))
  obtain ⟨q1, q2, q3⟩ := ZS.strs_out hI hs hbb
  obtain ⟨c, hc⟩ := sortedHeap_at (vs := vs) (out := out.toArray) hoL
  have pn := q2.trans pk
  refine wpAny_pure ⟨_, rfl, hQ _ s1.heap.objs.size out.toArray c (out.map ZS.svS) (fun b u e => ?_) g1 o1 hz hc (by simpa using q1) q3 (pn.nodup_iff.mpr nd) (fun k => by rw [pn.mem_iff, ← hm k]) ?_⟩
  · have q := k1 b u e
    have hlt := Heap.lt_size q
    show (sortedHeap (s1.heap.push (seqObj "list" vs.toArray 0)) s1.heap.objs.size vs out.toArray).get? b = some u
    rw [sortedHeap_old (Nat.ne_of_lt hlt) (by rw [size_push']; exact Nat.lt_succ_of_lt hlt)]
    exact Heap.get?_push_of_some _ q
  · rw [pn.length_eq, List.length_map, Array.length_toList]; exact hn
end
end ZT
namespace Z
noncomputable section
open PySem PySem.Spec PySem.P PyProof.Rows L2
/-- each once -/
def dedT : List (List Nat) → List (List Nat)
  | [] => []
  | x :: r => if x ∈ r then dedT r else x :: dedT r
theorem dedT_mem {x : List Nat} : ∀ {r : List (List Nat)}, x ∈ dedT r ↔ x ∈ r
  | [] => Iff.rfl
  | y :: r => by
    unfold dedT
    split
    · rw [dedT_mem (r := r), List.mem_cons]
      exact ⟨.inr, fun h => h.elim (fun e => by subst e; assumption) id⟩
    · rw [List.mem_cons, List.mem_cons, dedT_mem (r := r)]
theorem dedT_nodup : ∀ (r : List (List Nat)), (dedT r).Nodup
  | [] => List.nodup_nil
  | y :: r => by
    unfold dedT
    split
    · exact dedT_nodup r
    · rename_i h
      exact List.nodup_cons.mpr ⟨fun z => h (dedT_mem.mp z), dedT_nodup r⟩
theorem dedT_le : ∀ (r : List (List Nat)), (dedT r).length ≤ r.length
  | [] => Nat.le_refl _
  | y :: r => by
    unfold dedT
    have := dedT_le r
    split
    · simp; omega
    · simp; omega
def setD (m : Nat) (g : List (List Nat) → D) : D → R D
  | .lst xs => match strsD xs with
    | some ys => if ys.length < m then .ok (g (dedT ys)) else .bad
    | none => .bad
  | _ => .bad
def lenSetD : D → R D := setD 4097 fun ys => .int (ys.length : Nat)
def sortSetD : D → R D := setD 4000 fun ys => .lst ((sortT ys).map .str)
theorem lenSetD_m (ys : List (List Nat)) (h : ys.length < 4097) : lenSetD (.lst (ys.map .str)) = .ok (.int ((dedT ys).length : Nat)) := by
  unfold lenSetD setD
  dsimp only
  rw [strsD_map]
  exact if_pos h
theorem sortSetD_m (ys : List (List Nat)) (h : ys.length < 4000) : sortSetD (.lst (ys.map .str)) = .ok (.lst ((sortT (dedT ys)).map .str)) := by
  unfold sortSetD setD
  dsimp only
  rw [strsD_map]
  exact if_pos h
theorem toS_inj {x y : List Nat} (h : toS x = toS y) : x = y := by
  have := congrArg (fun z : Str => z.cps.toList) h
  simpa [toS] using this
theorem toS_cps (z : Str) : toS z.cps.toList = z := by
  show (⟨z.cps.toList.toArray⟩ : Str) = z
  rw [Array.toArray_toList]
/-- a list of texts with the same members, each once -/
theorem ded_perm {ns : List Str} {ys : List (List Nat)} (nd : ns.Nodup) (hm : ∀ k, k ∈ ns ↔ decide (k ∈ ys.map toS) = true) : (ns.map fun z => z.cps.toList).Perm (dedT ys) := by
  refine (List.perm_ext_iff_of_nodup ?_ (dedT_nodup ys)).mpr fun x => ?_
  · refine List.pairwise_map.mpr (nd.imp fun {a b} h e => h ?_)
    rw [← toS_cps a, ← toS_cps b, e]
  · rw [dedT_mem, List.mem_map]
    constructor
    · rintro ⟨z, hz, rfl⟩
      have := (hm z).mp hz
      simp only [decide_eq_true_eq, List.mem_map] at this
      obtain ⟨y, hy, rfl⟩ := this
      exact hy
    · intro h
      exact ⟨toS x, (hm _).mpr (by simpa using ⟨x, h, rfl⟩), rfl⟩
/-- as many turns as the root has letters -/
theorem ded_rots {w : List Nat} (hw : w ≠ []) : (dedT (rots w)).length = rlen w := by
  obtain ⟨r1, r2, r3⟩ := rlen_spec hw
  obtain ⟨p1, p2, p3⟩ := rtOk_iff.mp r2
  have hp := List.length_pos_iff.mpr hw
  have hper : ∀ k, k < w.length → rot w k = rot w (k % rlen w) := fun k hk => by
    have hkm : k % rlen w < rlen w := Nat.mod_lt _ p1
    apply List.ext_getElem?
    intro i
    by_cases hi : i < w.length
    · rw [rot_get w k i (by omega) hi, rot_get w _ i (by omega) hi, p3 _ (Nat.mod_lt _ hp), p3 ((i + k % rlen w) % w.length) (Nat.mod_lt _ hp),
        Nat.mod_mod_of_dvd _ (Nat.dvd_of_mod_eq_zero p2), Nat.mod_mod_of_dvd _ (Nat.dvd_of_mod_eq_zero p2), Nat.add_mod_mod]
    · rw [List.getElem?_eq_none (by rw [rot_len]; omega), List.getElem?_eq_none (by rw [rot_len]; omega)]
  have hinj : ∀ i j, i < j → j < rlen w → rot w i ≠ rot w j := fun i j hij hj e => by
    have e1 : rot (rot w i) (w.length - i) = rot (rot w j) (w.length - i) := by rw [e]
    rw [rot_rot w i _ (by omega) (by omega) hp, rot_rot w j _ (by omega) (by omega) hp] at e1
    rw [show i + (w.length - i) = w.length by omega, Nat.mod_self, rot_zero, show j + (w.length - i) = (j - i) + w.length by omega, Nat.add_mod_right, Nat.mod_eq_of_lt (by omega)] at e1
    have := rt_of_rot e1.symm (by omega) (by omega)
    omega
  have hnd : ((List.range (rlen w)).map (rot w)).Nodup := by
    refine List.pairwise_map.mpr ?_
    refine List.pairwise_iff_getElem.mpr fun i j hi hj hij => ?_
    simp only [List.getElem_range]
    exact hinj i j hij (by simpa using hj)
  have hperm : (dedT (rots w)).Perm ((List.range (rlen w)).map (rot w)) := by
    refine (List.perm_ext_iff_of_nodup (dedT_nodup _) hnd).mpr fun x => ?_
    rw [dedT_mem, mem_rots, List.mem_map]
    constructor
    · rintro ⟨k, hk, rfl⟩
      exact ⟨k % rlen w, by simpa using Nat.mod_lt _ p1, (hper k hk).symm⟩
    · rintro ⟨k, hk, rfl⟩
      exact ⟨k, by simp at hk; omega, rfl⟩
  have := hperm.length_eq
  simpa using this
section
variable {X : Cx} {C : CT} {W : WX} {a : Expr} {fa : SS → R D} {pos q p2 p : Pos}
theorem s_lenSet (v : Pl X C W) (hg : Gl X "len") (hm : X.mg "len" = none) (hg2 : Gl X "set") (hm2 : X.mg "set" = none) (ha : PE X a (tB C W fa))
    (na : starEach [a] X.env = (false, eval a X.env) :: starEach [] X.env := by rfl) : PE X (.Call (.Name "len" p) [.Call (.Name "set" p2) [a] [] q] [] pos) (tD C W (eUn lenSetD fa)) := by
  refine ⟨fun pins s σ H Q I h => ?_⟩
  obtain ⟨F, sd, S, h⟩ := h
  refine Call_ (ld_blt I hg hm boot_len ?_)
  refine PyProof.Rows.callWith_builtin1 (PyProof.Rows.args_cons ?_ rfl) rfl rfl
  refine Call_ (ld_blt I hg2 hm2 boot_set ?_)
  refine PyProof.Rows.callWith_type1 (PyProof.Rows.args_cons (thn (ha.run pins s σ H (fun u H1 => ∃ F1 d, Ext F H F1 H1 ∧ Bor C.G F1 H1 d u ∧ PostE C W F1 H1 σ (pD C) Q (lenSetD d)) I ⟨F, sd, S, PostE.bind h fun d u F1 H1 e1 b1 h1 => ⟨F1, d, e1, b1, h1⟩⟩) fun u s1 ⟨x, H1, I1, r1, q1⟩ => PyProof.Rows.args_nil ?_) na) na rfl
  obtain ⟨F1, d, e1, b1, h1⟩ := q1
  unfold lenSetD setD at h1
  split at h1
  · split at h1
    · rename_i ys hys
      split at h1
      · rename_i hz
        obtain ⟨l, us, rfl, qq, rr⟩ := bor_lst e1.fh b1
        obtain rfl : u = Value.ref l := r1
        obtain ⟨eu, hok⟩ := strs_rep hys rr
        rw [← v.K, eu] at qq
        obtain ⟨its, rv, p', hz2⟩ := I1.list qq
        have hS := rv.strs
        refine ZT.call_set_listT (ys.map toS) (I1.ok.hd v.calm) p'.isList (by simpa using hS) (by rw [List.length_map]; show ys.length ≤ 4096; omega) fun h' tk c R hc hk => ?_
        refine PyProof.Rows.args_nil ?_
        obtain ⟨o, es, ep, t, ho, hex, hd, g, nd, hm', hb, hf, hn, hr, hl⟩ := R
        have I2 : Inv X pins σ H1 { s1 with heap := h', toks := tk } := I1.kept hk
        have hlen : es.size = (dedT ys).length := by
          have pp := ded_perm (ns := es.toList.map ZT.tkey) (ys := ys) nd fun k => (hm' k).symm
          have := pp.length_eq
          simpa using this
        refine call_len_set ho hex hd hf (by have : es.size ≤ 4096 := hb; omega) ?_
        refine ⟨.int (dedT ys).length, H1, I2.tok _, ⟨_, by rw [hlen]⟩, h1 _ F1 H1 (Ext.refl e1.fh) (rep_int.mpr rfl)⟩
      · exact h1.elim
    · exact h1.elim
  · exact h1.elim
theorem s_sortSet (v : Pl X C W) (hg : Gl X "sorted") (hm : X.mg "sorted" = none) (hg2 : Gl X "set") (hm2 : X.mg "set" = none) (ha : PE X a (tB C W fa))
    (na : starEach [a] X.env = (false, eval a X.env) :: starEach [] X.env := by rfl) : PE X (.Call (.Name "sorted" p) [.Call (.Name "set" p2) [a] [] q] [] pos) (tF C W (eUn sortSetD fa)) := by
  refine ⟨fun pins s σ H Q I h => ?_⟩
  obtain ⟨F, sd, S, h⟩ := h
  refine Call_ (ld_blt I hg hm (by decide +kernel : bootBuiltins "sorted" = some (.builtin "sorted")) ?_)
  refine PyProof.Rows.callWith_builtin1 (PyProof.Rows.args_cons ?_ rfl) rfl rfl
  refine Call_ (ld_blt I hg2 hm2 boot_set ?_)
  refine PyProof.Rows.callWith_type1 (PyProof.Rows.args_cons (thn (ha.run pins s σ H (fun u H1 => ∃ F1 d, Ext F H F1 H1 ∧ Bor C.G F1 H1 d u ∧ PostE C W F1 H1 σ (pF C H) Q (sortSetD d)) I ⟨F, sd, S, PostE.bind h fun d u F1 H1 e1 b1 h1 => ⟨F1, d, e1, b1, h1⟩⟩) fun u s1 ⟨x, H1, I1, r1, q1⟩ => PyProof.Rows.args_nil ?_) na) na rfl
  obtain ⟨F1, d, e1, b1, h1⟩ := q1
  unfold sortSetD setD at h1
  split at h1
  · split at h1
    · rename_i ys hys
      split at h1
      · rename_i hz
        obtain ⟨l, us, rfl, qq, rr⟩ := bor_lst e1.fh b1
        obtain rfl : u = Value.ref l := r1
        obtain ⟨eu, hok⟩ := strs_rep hys rr
        rw [← v.K, eu] at qq
        obtain ⟨its, rv, p', hz2⟩ := I1.list qq
        have hS := rv.strs
        refine ZT.call_set_listT (ys.map toS) (I1.ok.hd v.calm) p'.isList (by simpa using hS) (by rw [List.length_map]; show ys.length ≤ 4096; omega) fun h' tk c R hc hk => ?_
        refine PyProof.Rows.args_nil ?_
        have I2 : Inv X pins σ H1 { s1 with heap := h', toks := tk } := I1.kept hk
        refine ZT.sorted_setT (s := { s1 with heap := h', toks := tk }) R (by have q := hc; rw [List.length_map] at q; show c < 4096; omega) (I1.ok.hd v.calm) fun s' pp out cc ns k1 g1 o1 hpp hget hst hpw hnd hmem hlen => ?_
        have hperm := ded_perm (ys := ys) hnd hmem
        have e2 : ns.map (fun z => z.cps.toList) = sortT (dedT ys) := sortT_uniq hperm (List.pairwise_map.mpr hpw)
        have e3 : ns = (sortT (dedT ys)).map toS := by
          rw [← e2, List.map_map]
          conv => lhs; rw [← List.map_id ns]
          exact List.map_congr_left fun z _ => (toS_cps z).symm
        have k2 : ∀ b o, s1.heap.get? b = some o → s'.heap.get? b = some o := fun b o e => k1 b o (hk b o e)
        have hsz : s1.heap.objs.size ≤ pp := Nat.le_trans (Nat.le_of_lt R.lt) hpp
        have hfr : H1 pp = none := I1.hok.fresh hsz
        have hzz : ((sortT (dedT ys)).map toS).length ≤ 4096 := by
          rw [List.length_map, (sortT_perm _).length_eq]
          have := dedT_le ys
          omega
        have J : Inv X pins σ (upd H1 pp (.lst (((sortT (dedT ys)).map toS).map V.str))) { s1 with heap := s'.heap, gens := s'.gens, drawn := s'.drawn, toks := s'.toks } :=
          I1.call (ch := []) (Un.laid k2 hsz hfr) (I1.hok.laid k2 hsz ⟨by rw [List.length_map, sizeLine_eq]; omega, out.toList, cc, by rw [← e3]; exact vals_of_strs hst, by rw [Array.toArray_toList]; exact hget⟩) (by rw [g1]; exact I1.bare) (fun _ z => nomatch z)
        have es : s' = { s1 with heap := s'.heap, gens := s'.gens, drawn := s'.drawn, toks := s'.toks } := by
          cases s'
          cases s1
          cases o1
          rfl
        rw [es]
        exact ⟨.ref pp, _, J, rfl, h1 _ F1 _ (Ext.newOwn e1.fh hfr) ⟨_, rfl, e1.hh.free hfr, e1.fh.free hfr, _, upd_same, repL_strs _ fun x hx => hok x (dedT_mem.mp ((sortT_perm _).mem_iff.mp hx))⟩⟩
      · exact h1.elim
    · exact h1.elim
  · exact h1.elim
end
end
end Z
namespace Z
noncomputable section
open PySem PySem.Spec PySem.P PyProof.Rows L2
/-! ### several except clauses, none with a name -/
def noEx : RS → RS
  | .ex _ _ _ => .bad
  | r => r
def goM (c : Nat) (vs : List D) (s : SS) : List (Nat × (SS → RS)) → RS
  | [] => .ex c vs s
  | (k, f) :: r => if isX c k = true then noEx (f s) else goM c vs s r
def sTryM (m : List (Nat × (SS → RS))) (fb : SS → RS) : SS → RS := fun s => match fb s with
  | .ex c vs s' => goM c vs s' m
  | r => r
def HM (X : Cx) (C : CT) (hds : List ExceptHandler) (m : List (Nat × (SS → RS))) : Prop :=
  ∃ l, HdsOk X hds l ∧ ∀ (W : WX) (En : Ends) (c : Nat) (vs : List D) (A : Addr) (ns : List Str) (dx : Option Addr) (F H : Hp) (s : SS) (σ : L2.St), C.G.xcl c = some (A, ns) → XR C.G F c vs (.ref A) dx → StR C F H s σ → PostS C W F s σ En (goM c vs s m) → wMany X.K W En l (.ref A) dx σ H
theorem hm_nil {X : Cx} {C : CT} : HM X C [] [] := ⟨[], .nil, fun W En c vs A ns dx F H s σ hx xr S h => h _ _ F H σ S (Same.refl F) Lk.refl xr⟩
theorem postS_noEx {C : CT} {W W' : WX} {F : Hp} {sd : SS} {σ : L2.St} {En : Ends} {r : RS} (h : PostS C W F sd σ En (noEx r)) : PostS C W' F sd σ En r := by
  cases r with
  | nx s => exact h
  | bk s => exact h
  | ct s => exact h
  | rt b d => cases b <;> exact h
  | ex c vs s => exact h.elim
  | bad => exact h.elim
theorem hm_cons {X : Cx} {C : CT} {x : Str} {k : Nat} {b₀ : Stmt} {suite : List Stmt} {np pos' : Pos} {hds : List ExceptHandler} {f : SS → RS} {m : List (Nat × (SS → RS))} (T : CatC X.K X.mg C.G x k) (hg : Gl X x)
    (hsu : ∀ (a : Addr) (oe : Obj) (pn : List (Addr × Obj)), PSs (X.suite a ((a, oe) :: pn)) (b₀ :: suite) (tS C WNo f)) (r : HM X C hds m) (hdb : (x == ("__debug__" : Str)) = false := by decide) :
    HM X C (.ExceptHandler (some (.Name x np)) none (b₀ :: suite) pos' :: hds) ((k, f) :: m) := by
  obtain ⟨D, hD, he⟩ := T.ex
  obtain ⟨l, h1, h2⟩ := r
  refine ⟨(.ref D, fun _ _ _ => tS C WNo f) :: l, .cons ⟨hg, hdb, .inl hD⟩ (fun a oe cls d pn _ _ => hsu a oe pn) h1, fun W En c vs A ns dx F H s σ hx xr S h => ?_⟩
  refine ⟨isX c k, he c A ns hx, fun hy a na => ?_, fun hn => ?_⟩
  · unfold goM at h
    rw [if_pos hy] at h
    exact ⟨F, s, S, postS_noEx h⟩
  · unfold goM at h
    rw [if_neg (by rw [hn]; exact Bool.false_ne_true)] at h
    exact h2 W En c vs A ns dx F H s σ hx xr S h
theorem s_tryM {X : Cx} {C : CT} {W : WX} {body : List Stmt} {h₀ : ExceptHandler} {hds : List ExceptHandler} {pos : Pos} {fb : SS → RS} {m : List (Nat × (SS → RS))} (v : Pl X C W)
    (hb : ∀ (W' : WX) (pn : List (Addr × Obj)) (xe : Value → Shared → Prop), Pl (X.tr pn xe) C W' → PSs (X.tr pn xe) body (tS C W' fb)) (hm : HM X C (h₀ :: hds) m)
    (hs : X.stack = X.env :: X.outer := by rfl) (hf : X.env.frame = some X.env.locals := by rfl) : PS X (.Try body (h₀ :: hds) [] [] pos) (tS C W (sTryM m fb)) := by
  obtain ⟨l, h1, h2⟩ := hm
  refine ps_imp (ps_try_many (tb := fun W' => tS C W' fb) hs hf v.tk (fun W' pn xe tk ps => hb W' pn xe ⟨⟨v.K, v.hu, tk, ps⟩, v.calm⟩) h1) fun En σ H ⟨F, sd, S, h⟩ => ?_
  refine ⟨F, sd, S, ?_⟩
  unfold sTryM at h
  cases q : fb sd with
  | nx s' => rw [q] at h; exact h
  | bk s' => rw [q] at h; exact h
  | ct s' => rw [q] at h; exact h
  | rt b d => rw [q] at h; cases b <;> exact h
  | bad => rw [q] at h; exact h.elim
  | ex c vs s' =>
    rw [q] at h
    intro cls dx F' H' σ' S' f' l' xr
    obtain ⟨A, ns, hx, rfl, hxd⟩ := id xr
    exact h2 W En c vs A ns dx F' H' s' σ' hx xr S' (PostS.mono f' l' h)
/-- y = x.pop(0), x own -/
def sPop0 (i j : Nat) : SS → RS := fun s => match owL s i with
  | some (d :: xs) => optS (setS (s.set i (.ow (.lst xs))) j (.sh d))
  | _ => .bad
theorem s_pop0 {X : Cx} {C : CT} {W : WX} {x y : Str} {p p2 apos pos pos' ip : Pos} {jj : Nat} (i j : Nat) (hNd : X.N.Nodup) (hN : X.N[i]? = some x := by rfl) (hv : Vis X.env.scope x := by first | exact Or.inl rfl | exact Or.inr (Or.inl rfl) | exact Or.inr (Or.inr rfl))
    (hj : X.N[j]? = some y := by rfl) (hy : Loc X.env.scope y := by first | exact Or.inl rfl | exact Or.inr rfl)
    (hd : (x == ("__debug__" : Str)) = false := by decide) (hcd : (x == ("__classdict__" : Str)) = false := by decide)
    (hbase : attributeBase (.Name x p) "pop" X.env (eval (.Name x p) X.env) = eval (.Name x p) X.env := by rfl)
    (hfew : ((backTo pos (starEach [.Constant (.int 0) jj ip] X.env)).all (fun x => !x.1) && (backToKw pos (keywordEach [] X.env)).all (fun x => x.1.isSome)
      && decide (([.Constant (.int 0) jj ip] : List Expr).length + ([] : List Keyword).length + (if ([] : List Keyword).isEmpty then 0 else 1) < 30)) = true := by rfl)
    (hline : (apos.endLine == pos.line) = true := by rfl) (hs : starEach [.Constant (.int 0) jj ip] X.env = (false, eval (.Constant (.int 0) jj ip) X.env) :: starEach [] X.env := by rfl) (hplain : (backTo pos (starEach [] X.env)).any (·.1) = false := by rfl)
    (hsw : swapsWith (.Call (.Attribute (.Name x p) "pop" apos) [.Constant (.int 0) jj ip] [] pos) (some (.Name y p2)) pos'.line X.env = pure false := by rfl)
    (hf : X.fn y = true ∨ X.env.scope.names.lookup y = some .local := by first | exact .inl rfl | exact .inr rfl) :
    PS X (.Assign [.Name y p2] (.Call (.Attribute (.Name x p) "pop" apos) [.Constant (.int 0) jj ip] [] pos) pos') (tS C W (sPop0 i j)) := by
  refine ps_imp (ps_set (i := j) hNd hj hy (pe_bm PySem.F.plainAttrs_list PySem.F.slot_list_pop PySem.F.type_list_pop mt_popAt (pe_var (i := i) hN hv hd hcd) (pa_cons pe_int pa_nil hs) hbase hfew hline hs hplain) hsw hf) fun En σ H ⟨F, sd, S, h⟩ => ?_
  unfold sPop0 at h
  split at h
  · rename_i d xs hx
    have ho := owL_some hx
    obtain ⟨a, e2, e3, e4, vs, e5, r⟩ := S.ow i _ (.inl ho)
    cases q : setS (sd.set i (.ow (.lst xs))) j (.sh d) with
    | none => rw [q] at h; exact h.elim
    | some s' =>
      rw [q] at h
      unfold RepL at r
      obtain ⟨u, t, rfl, h1, h2⟩ := r
      refine ⟨_, e2, .inl ⟨rfl, _, SqL.of e5⟩, a, u :: t, 0, 0, u, rfl, rfl, e5, by omega, by omega, ?_, rfl, ?_⟩
      · unfold seqIndex?
        simp
      · have S1 := S.upOw (o := .lst t) (d' := .lst xs) ho e2 ⟨_, upd_same, h2⟩
        exact h F _ _ (S1.setSh q h1) (Same.refl F) ((lk_ow ho).trans (lk_set q))
  · exact h.elim
/-! plain -/
section
variable {s : SS} {fb : SS → RS} {m : List (Nat × (SS → RS))}
def catM (m : List (Nat × (SS → RS))) : RS → RS
  | .ex c vs s' => goM c vs s' m
  | r => r
@[simp] theorem sTryM_s : sTryM m fb s = catM m (fb s) := rfl
@[simp] theorem catM_nx : catM m (.nx s) = .nx s := rfl
@[simp] theorem catM_rt (b : Bool) (d : D) : catM m (.rt b d) = .rt b d := rfl
@[simp] theorem catM_ex (c : Nat) (vs : List D) : catM m (.ex c vs s) = goM c vs s m := rfl
@[simp] theorem goM_nil (c : Nat) (vs : List D) : goM c vs s [] = .ex c vs s := rfl
@[simp] theorem goM_cons (c k : Nat) (f : SS → RS) (vs : List D) : goM c vs s ((k, f) :: m) = if isX c k = true then noEx (f s) else goM c vs s m := rfl
@[simp] theorem noEx_nx : noEx (.nx s) = .nx s := rfl
@[simp] theorem noEx_rt (b : Bool) (d : D) : noEx (.rt b d) = .rt b d := rfl
def rPop0 (s : SS) (i j : Nat) : Option (List D) → RS
  | some (d :: xs) => optS (if canS (s.set i (.ow (.lst xs)))[j]? = true then some ((s.set i (.ow (.lst xs))).set j (.sh d)) else none)
  | _ => .bad
@[simp] theorem sPop0_s (i j : Nat) : sPop0 i j s = rPop0 s i j (getOw s[i]?) := by
  unfold sPop0
  rw [owL_s]
  cases getOw s[i]? with
  | none => rfl
  | some xs => cases xs with
    | nil => rfl
    | cons d xs =>
      show optS (setS _ _ _) = _
      rw [setS_s]
      rfl
@[simp] theorem rPop0_c (i j : Nat) (d : D) (xs : List D) : rPop0 s i j (some (d :: xs)) = optS (if canS (s.set i (.ow (.lst xs)))[j]? = true then some ((s.set i (.ow (.lst xs))).set j (.sh d)) else none) := rfl
end
end
end Z
namespace Z
noncomputable section
open PySem PySem.Spec PySem.P PyProof.Rows L2
/-! ### for x in xs, xs an own list: it is locked meanwhile -/
def unlS (i : Nat) (s : SS) : Option SS := match s[i]? with
  | some (.lk d) => some (s.set i (.ow d))
  | _ => none
def unlR (i : Nat) : RS → RS
  | .nx s => (match unlS i s with | some s' => .nx s' | none => .bad)
  | .bk _ => .bad
  | .ct _ => .bad
  | .rt b d => .rt b d
  | .ex c vs s => (match unlS i s with | some s' => .ex c vs s' | none => .bad)
  | .bad => .bad
def sForO (i : Nat) (ft : FG) (f : SS → RS) : SS → RS := fun s => match owL s i with
  | some ds => unlR i (forL (turn ft f) ds (s.set i (.lk (.lst ds))))
  | none => .bad
/-- a slot's word changed, not what it holds -/
theorem StR.relk {C : CT} {F H : Hp} {s : SS} {σ : L2.St} {i : Nat} {d : D} {x : Sl} (S : StR C F H s σ) (h : s[i]? = some (.ow d) ∨ s[i]? = some (.lk d)) (hx : x = .ow d ∨ x = .lk d) : StR C F H (s.set i x) σ := by
  have hi : i < s.length := by
    rcases h with h | h <;> exact (List.getElem?_eq_some_iff.mp h).1
  have key : ∀ {j : Nat} {e : D}, (s.set i x)[j]? = some (.ow e) ∨ (s.set i x)[j]? = some (.lk e) → s[j]? = some (.ow e) ∨ s[j]? = some (.lk e) := fun {j e} q => by
    by_cases hij : i = j
    · subst hij
      rw [List.getElem?_set_self hi] at q
      rcases hx with rfl | rfl
      · rcases q with q | q <;> cases q
        exact h
      · rcases q with q | q <;> cases q
        exact h
    · rw [List.getElem?_set_ne hij] at q
      exact q
  refine ⟨S.ext, by rw [List.length_set]; exact S.len, fun j e q => ?_, fun j e q => S.ow j e (key q), fun j k e e' a q1 q2 q3 q4 => S.dis j k e e' a (key q1) (key q2) q3 q4⟩
  by_cases hij : i = j
  · subst hij
    rw [List.getElem?_set_self hi] at q
    rcases hx with rfl | rfl <;> cases q
  · rw [List.getElem?_set_ne hij] at q
    exact S.sh j e q
theorem lk_un {C : CT} {sd : SS} {σ : L2.St} {i : Nat} {d : D} {s' s2 : SS} {σ' : L2.St} (hnd : ∀ c vs, d ≠ .obj c vs) (ho : sd[i]? = some (.ow d)) (l : Lk (sd.set i (.lk d)) σ s' σ') (hu : unlS i s' = some s2) : s2 = s'.set i (.ow d) ∧ s'[i]? = some (.lk d) ∧ Lk sd σ s2 σ' := by
  have hi := (List.getElem?_eq_some_iff.mp ho).1
  have h1 := (l.same (List.getElem?_set_self hi) hnd).1
  unfold unlS at hu
  rw [h1] at hu
  cases hu
  refine ⟨rfl, h1, fun j e q => ?_⟩
  have hij : i ≠ j := fun z => by subst z; rw [ho] at q; cases q
  obtain ⟨g1, g2⟩ := l j e (by rw [List.getElem?_set_ne hij]; exact q)
  obtain ⟨d1, g1, gl⟩ := g1
  exact ⟨⟨d1, by rw [List.getElem?_set_ne hij]; exact g1, gl⟩, g2⟩
theorem postS_unl {C : CT} {W : WX} {F : Hp} {sd : SS} {σ : L2.St} {En : Ends} {i : Nat} {d : D} {r : RS} (hnd : ∀ c vs, d ≠ .obj c vs) (ho : sd[i]? = some (.ow d)) (h : PostS C W F sd σ En (unlR i r)) : PostS C W F (sd.set i (.lk d)) σ En r := by
  cases r with
  | nx s =>
    intro F' H' σ' S f l
    have h : PostS C W F sd σ En (match unlS i s with | some s' => .nx s' | none => .bad) := h
    cases q : unlS i s with
    | none => rw [q] at h; exact h.elim
    | some s2 =>
      rw [q] at h
      obtain ⟨rfl, h1, h2⟩ := lk_un (C := C) hnd ho l q
      exact h F' H' σ' (S.relk (.inr h1) (.inl rfl)) f h2
  | bk s => exact h.elim
  | ct s => exact h.elim
  | rt b e => cases b <;> exact h
  | ex c vs s =>
    intro cls dx F' H' σ' S f l xr
    have h : PostS C W F sd σ En (match unlS i s with | some s' => .ex c vs s' | none => .bad) := h
    cases q : unlS i s with
    | none => rw [q] at h; exact h.elim
    | some s2 =>
      rw [q] at h
      obtain ⟨rfl, h1, h2⟩ := lk_un (C := C) hnd ho l q
      exact h cls dx F' H' σ' (S.relk (.inr h1) (.inl rfl)) f h2 xr
  | bad => exact h.elim
section
variable {X : Cx} {C : CT} {W : WX} {tg : Expr} {p pos : Pos} {x : Str} {ft : FG} {vs : List Nat} {f : SS → RS} {body : List Stmt}
theorem s_forO (v : Pl X C W) (i : Nat) (hg : PG X tg (tG C ft vs)) (hb : PSs X body (tS C W f)) (hN : X.N[i]? = some x := by rfl) (hv : Vis X.env.scope x := by first | exact Or.inl rfl | exact Or.inr (Or.inl rfl) | exact Or.inr (Or.inr rfl))
    (hd : (x == ("__debug__" : Str)) = false := by decide) (hcd : (x == ("__classdict__" : Str)) = false := by decide) (hs : ∀ w, foldedSetIterable (.Name x p) X.env w = pure w := by intro _; rfl) :
    PS X (.For tg (.Name x p) body [] pos) (tS C W (sForO i ft f)) := by
  refine ps_imp (ps_for v.pass v.calm (pi_list (pe_var (i := i) hN hv hd hcd)) hg hb hs) fun En σ H ⟨F, sd, S, h⟩ => ?_
  unfold sForO at h
  split at h
  · rename_i ds hx
    have ho := owL_some hx
    have hi := (List.getElem?_eq_some_iff.mp ho).1
    have h := postS_unl (fun _ _ z => by cases z) ho h
    have S0 := S.relk (x := .lk (.lst ds)) (.inl ho) (.inr rfl)
    generalize hsd : sd.set i (.lk (.lst ds)) = sl at h S0
    have hl0 : sl[i]? = some (.lk (.lst ds)) := by rw [← hsd]; exact List.getElem?_set_self hi
    obtain ⟨a, q1, q2, q3, vs0, q4, q5⟩ := S.ow i _ (.inl ho)
    refine ⟨_, q1, a, rfl, ⟨vs0, SqL.of q4⟩, ?_⟩
    have at' : ∀ {F' H' : Hp} {s' : SS} {σ' : L2.St}, StR C F' H' s' σ' → Lk sl σ s' σ' → ∃ us, SqL X.K H' a us ∧ RepL C.G F' ds us := fun {F' H' s' σ'} S' l' => by
      obtain ⟨g1, g2⟩ := l'.same hl0 (fun _ _ z => by cases z)
      obtain ⟨b, r1, r2, r3, us, r4, r5⟩ := S'.ow i _ (.inr g1)
      rw [g2, q1] at r1
      cases r1
      exact ⟨us, SqL.of r4, r5⟩
    refine ⟨fun k m σ' H' => m = ds.length - k ∧ k ≤ ds.length ∧ ∃ F' s', StR C F' H' s' σ' ∧ Same F F' ∧ Lk sl σ s' σ' ∧ PostS C W F' s' σ' En (forL (turn ft f) (ds.drop k) s'),
      ⟨ds.length, by omega, Nat.zero_le _, F, sl, S0, Same.refl F, Lk.refl, h⟩, ?_⟩
    rintro k m σ' H' ⟨rfl, hk, F', s', S', f1, l1, h1⟩
    obtain ⟨us, u1, u2⟩ := at' S' l1
    by_cases hlt : k < ds.length
    · have hku : k < us.length := by rw [u2.length]; exact hlt
      refine .inr ⟨⟨us, us[k], u1, by simp [hku]⟩, fun σ2 H2 => ∃ F2 s2, StR C F2 H2 s2 σ2 ∧ Same F F2 ∧ Lk sl σ s2 σ2 ∧ PostS C W F2 s2 σ2 En (forL (turn ft f) (ds.drop (k + 1)) s2), fun σ2 H2 n2 => ⟨ds.length - (k + 1), by omega, rfl, hlt, n2⟩, fun y H'' hy => ?_⟩
      obtain ⟨rfl, hy⟩ := hy
      obtain ⟨d, hd', r⟩ := u2.get' (hy us u1)
      have hdr : ds.drop k = d :: ds.drop (k + 1) := by
        obtain ⟨hi', e⟩ := List.getElem?_eq_some_iff.mp hd'
        rw [List.drop_eq_getElem_cons hi', e]
      rw [hdr] at h1
      unfold forL turn at h1
      cases q : ft d s' with
      | none => rw [q] at h1; exact h1.elim
      | some s2 =>
        rw [q] at h1
        refine ⟨F', s', d, s2, S', r, q, fun σ2 S2 l2 _ => ⟨F', s2, S2, ?_⟩⟩
        have h1 : PostS C W F' s' σ' En (match f s2 with
          | .nx s' => forL (turn ft f) (ds.drop (k + 1)) s'
          | .ct s' => forL (turn ft f) (ds.drop (k + 1)) s'
          | .bk s' => .nx s'
          | .rt b d => .rt b d
          | .ex c vs s' => .ex c vs s'
          | .bad => .bad) := h1
        cases kk : f s2 with
        | nx s3 =>
          rw [kk] at h1
          exact fun F3 H3 σ3 S3 f3 l3 => ⟨F3, s3, S3, f1.trans f3, l1.trans (l2.trans l3), PostS.mono f3 (l2.trans l3) h1⟩
        | ct s3 =>
          rw [kk] at h1
          exact fun F3 H3 σ3 S3 f3 l3 => ⟨F3, s3, S3, f1.trans f3, l1.trans (l2.trans l3), PostS.mono f3 (l2.trans l3) h1⟩
        | bk s3 =>
          rw [kk] at h1
          exact fun F3 H3 σ3 S3 f3 l3 => h1 F3 H3 σ3 S3 f3 (l2.trans l3)
        | rt b d =>
          rw [kk] at h1
          cases b with
          | false => exact fun v F3 H3 e3 f3 r3 => h1 v F3 H3 e3 f3 r3
          | true => exact fun v F3 H3 e3 f3 r3 => h1 v F3 H3 e3 f3 r3
        | ex c vs s3 =>
          rw [kk] at h1
          exact fun cls dx F3 H3 σ3 S3 f3 l3 r3 => h1 cls dx F3 H3 σ3 S3 f3 (l2.trans l3) r3
        | bad => rw [kk] at h1; exact h1.elim
    · have e : k = ds.length := by omega
      subst e
      rw [List.drop_length] at h1
      exact .inl ⟨⟨us, u1, by rw [u2.length]; exact Nat.le_refl _⟩, h1 F' H' σ' S' (Same.refl _) Lk.refl⟩
  · exact h.elim
end
/-! plain -/
def rForO (s : SS) (i : Nat) (ft : FG) (f : SS → RS) : Option (List D) → RS
  | some ds => unlR i (forL (turn ft f) ds (s.set i (.lk (.lst ds))))
  | none => .bad
@[simp] theorem sForO_s (s : SS) (i : Nat) (ft : FG) (f : SS → RS) : sForO i ft f s = rForO s i ft f (getOw s[i]?) := by
  unfold sForO
  rw [owL_s]
  cases getOw s[i]? <;> rfl
@[simp] theorem rForO_s (s : SS) (i : Nat) (ft : FG) (f : SS → RS) (ds : List D) : rForO s i ft f (some ds) = unlR i (forL (turn ft f) ds (s.set i (.lk (.lst ds)))) := rfl
def unlG (s : SS) (i : Nat) : Option Sl → Option SS
  | some (.lk d) => some (s.set i (.ow d))
  | _ => none
@[simp] theorem unlS_s (s : SS) (i : Nat) : unlS i s = unlG s i s[i]? := by
  unfold unlS
  generalize s[i]? = o
  cases o with
  | none => rfl
  | some x => cases x <;> rfl
@[simp] theorem unlG_lk (s : SS) (i : Nat) (d : D) : unlG s i (some (.lk d)) = some (s.set i (.ow d)) := rfl
@[simp] theorem unlR_nx (s : SS) (i : Nat) : unlR i (.nx s) = match unlS i s with | some s' => .nx s' | none => .bad := rfl
@[simp] theorem unlR_rt (i : Nat) (b : Bool) (d : D) : unlR i (.rt b d) = .rt b d := rfl
@[simp] theorem sAsg_s (ft : FG) (fe : SS → R D) (s : SS) : sAsg ft fe s = rE s (fe s) fun d s => optS (ft d s) := rfl
@[simp] theorem gT_t (gs : List FG) (ds : List D) (s : SS) : gT gs (.tup ds) s = seqG gs ds s := rfl
@[simp] theorem seqG_nil (s : SS) : seqG [] [] s = some s := rfl
@[simp] theorem seqG_cons (g : FG) (gs : List FG) (d : D) (ds : List D) (s : SS) : seqG (g :: gs) (d :: ds) s = (g d s).bind (seqG gs ds) := rfl
end
end Z
namespace Z
noncomputable section
open PySem PySem.Spec PySem.P PyProof.Rows L2
/-! ### least words, their beginnings -/
/-- not greater than any turn of itself -/
def Nk (w : List Nat) : Prop := ∀ k, k < w.length → ¬ rot w k < w
theorem nk_iff {w : List Nat} (hw : w ≠ []) : Nk w ↔ lrot w = w := by
  constructor
  · intro h
    refine (lrot_uniq hw (self_rots hw) fun x hx => ?_).symm
    obtain ⟨k, hk, rfl⟩ := mem_rots.mp hx
    exact h k hk
  · intro h k hk
    have := (lrot_spec hw).2 _ (mem_rots.mpr ⟨k, hk, rfl⟩)
    rwa [h] at this
/-- letters below a top -/
def Below (top : Nat) (w : List Nat) : Prop := ∀ x ∈ w, x ≤ top
theorem Below.app {t : Nat} {a b : List Nat} : Below t (a ++ b) ↔ Below t a ∧ Below t b := by
  unfold Below
  constructor
  · exact fun h => ⟨fun x hx => h x (List.mem_append_left _ hx), fun x hx => h x (List.mem_append_right _ hx)⟩
  · rintro ⟨h1, h2⟩ x hx
    rcases List.mem_append.mp hx with h | h
    · exact h1 x h
    · exact h2 x h
/-- nothing is greater than all tops -/
theorem top_max {top : Nat} : ∀ (w : List Nat), Below top w → ¬ List.replicate w.length top < w
  | [], _ => by simp
  | a :: w, h => by
    have ha := h a List.mem_cons_self
    have hw : Below top w := fun x hx => h x (List.mem_cons_of_mem _ hx)
    rw [List.length_cons, List.replicate_succ, List.cons_lt_cons_iff]
    rintro (h1 | ⟨_, h1⟩)
    · omega
    · exact top_max w hw h1
theorem top_eq {top : Nat} {w : List Nat} (h : Below top w) (h2 : ¬ w < List.replicate w.length top) : w = List.replicate w.length top := by
  rcases lex_tri w (List.replicate w.length top) with h3 | h3 | h3
  · exact absurd h3 h2
  · exact h3
  · exact absurd h3 (top_max w h)
/-- in a least word each piece is not less than the begin of its length -/
theorem nk_pieces {w : List Nat} (h : Nk w) {k l : Nat} (hk : k + l ≤ w.length) : ¬ (w.drop k).take l < w.take l := by
  intro hlt
  by_cases hkl : k < w.length
  · apply h k hkl
    have e1 : rot w k = (w.drop k).take l ++ ((w.drop k).drop l ++ w.take k) := by
      unfold rot
      rw [← List.append_assoc, List.take_append_drop]
    have e2 : w = w.take l ++ w.drop l := (List.take_append_drop _ _).symm
    rw [e1]
    conv => rhs; rw [e2]
    exact lex_app hlt (by simp; omega) _ _
  · have : l = 0 := by omega
    subst this
    simp at hlt
theorem nk_rep (top n : Nat) : Nk (List.replicate n top) := fun k hk => by
  have : rot (List.replicate n top) k = List.replicate n top := by
    apply List.eq_replicate_iff.mpr
    refine ⟨by rw [rot_len]; simp, fun b hb => ?_⟩
    unfold rot at hb
    rcases List.mem_append.mp hb with h | h
    · exact List.eq_of_mem_replicate (List.mem_of_mem_drop h)
    · exact List.eq_of_mem_replicate (List.mem_of_mem_take h)
  rw [this]
  exact List.lt_irrefl _
/-- a least word whose first letter is the top one -/
theorem nk_top {top : Nat} {a : Nat} {w : List Nat} (h : Nk (a :: w)) (hb : Below top (a :: w)) (ha : a = top) : a :: w = List.replicate (w.length + 1) top := by
  apply List.eq_replicate_iff.mpr
  refine ⟨by simp, fun b hbm => ?_⟩
  obtain ⟨i, hi, rfl⟩ := List.mem_iff_getElem.mp hbm
  have h1 := nk_pieces h (k := i) (l := 1) (by omega)
  have h2 := hb _ hbm
  rw [List.drop_eq_getElem_cons hi] at h1
  simp only [List.take_succ_cons, List.take_zero, List.cons_lt_cons_iff, List.lt_irrefl, and_false, or_false] at h1
  omega
/-- a beginning that repeats and ends in tops -/
theorem per_top {top k : Nat} {t : List Nat} (h0 : 0 < k) (hk : k ≤ t.length) (hp : t.drop k = t.take (t.length - k)) (he : t.drop (t.length - k) = List.replicate k top) : t[0]? = some top := by
  have step : ∀ i, i + k < t.length → t[i + k]? = t[i]? := fun i hi => by
    have := congrArg (fun z => z[i]?) hp
    simp only [List.getElem?_drop, List.getElem?_take] at this
    rw [if_pos (by omega)] at this
    rw [Nat.add_comm]
    exact this
  have walk : ∀ j, j * k < t.length → t[j * k]? = t[0]? := fun j => by
    induction j with
    | zero => intro _; simp
    | succ j ih =>
      intro hj
      rw [Nat.succ_mul] at hj ⊢
      rw [step _ hj, ih (by omega)]
  have hq : (t.length - 1) / k * k ≤ t.length - 1 := Nat.div_mul_le_self _ _
  have hq2 := Nat.lt_div_mul_add h0 (a := t.length - 1)
  rw [← walk ((t.length - 1) / k) (by omega)]
  have := congrArg (fun z => z[(t.length - 1) / k * k - (t.length - k)]?) he
  simp only [List.getElem?_drop, List.getElem?_replicate] at this
  rw [if_pos (by omega), show t.length - k + ((t.length - 1) / k * k - (t.length - k)) = (t.length - 1) / k * k by omega] at this
  exact this
/-- THE FACT of beginnings -/
theorem nk_fill {top : Nat} {t s : List Nat} (hb : Below top (t ++ s)) (h : Nk (t ++ s)) : Nk (t ++ List.replicate s.length top) := by
  have hbt := (Below.app.mp hb).1
  have hbs := (Below.app.mp hb).2
  cases t with
  | nil => exact nk_rep _ _
  | cons a t' =>
    by_cases ha : a = top
    · have h1 := nk_top (w := t' ++ s) h hb ha
      have h2 : a :: t' = List.replicate (t'.length + 1) top := by
        apply List.eq_replicate_iff.mpr
        refine ⟨by simp, fun b hbm => ?_⟩
        have : b ∈ a :: (t' ++ s) := by
          rcases List.mem_cons.mp hbm with rfl | hb'
          · exact List.mem_cons_self
          · exact List.mem_cons_of_mem _ (List.mem_append_left _ hb')
        rw [h1] at this
        exact List.eq_of_mem_replicate this
      rw [h2, List.replicate_append_replicate]
      exact nk_rep _ _
    · have hat : a < top := by
        have := hbt a List.mem_cons_self
        omega
      generalize ht : a :: t' = t at h hb hbt
      have ht0 : t[0]? = some a := by rw [← ht]; rfl
      have htl : 0 < t.length := by rw [← ht]; simp
      generalize hT : List.replicate s.length top = T
      have hTl : T.length = s.length := by rw [← hT]; simp
      intro k hk hlt
      have hlt0 := hlt
      have hk00 := hk
      by_cases h0 : k = 0
      · subst h0
        rw [rot_zero] at hlt
        exact List.lt_irrefl _ hlt
      · rw [List.length_append, hTl] at hk
        by_cases hkt : k < t.length
        · -- a turn that begins within t
          have e1 : rot (t ++ T) k = t.drop k ++ (T ++ t.take k) := by
            unfold rot
            rw [List.drop_append_of_le_length (by omega), List.take_append_of_le_length (by omega), List.append_assoc]
          have e2 : t ++ T = t.take (t.length - k) ++ (t.drop (t.length - k) ++ T) := by
            rw [← List.append_assoc, List.take_append_drop]
          have hl : (t.drop k).length = (t.take (t.length - k)).length := by simp
          rw [e1, e2] at hlt
          have hpc := nk_pieces h (k := k) (l := t.length - k) (by rw [List.length_append]; omega)
          rw [List.drop_append_of_le_length (by omega), List.take_append_of_le_length (by simp), List.take_append_of_le_length (by omega), List.take_of_length_le (by simp)] at hpc
          rcases lex_same hl hlt with h1 | ⟨heq, h1⟩
          · exact hpc h1
          · -- it repeats
            have hr := h k (by rw [List.length_append]; omega)
            have e3 : rot (t ++ s) k = t.drop k ++ (s ++ t.take k) := by
              unfold rot
              rw [List.drop_append_of_le_length (by omega), List.take_append_of_le_length (by omega), List.append_assoc]
            have e4 : t ++ s = t.take (t.length - k) ++ (t.drop (t.length - k) ++ s) := by
              rw [← List.append_assoc, List.take_append_drop]
            rw [e3] at hr
            conv at hr => rhs; rhs; rw [e4]
            rw [heq, lex_pre] at hr
            generalize hX : t.drop (t.length - k) = X at h1 hr
            have hXl : X.length = k := by rw [← hX]; simp; omega
            have hbX : Below top X := fun x hx => hbt x (by rw [← hX] at hx; exact List.mem_of_mem_drop hx)
            have hbXT : Below top (X ++ T) := Below.app.mpr ⟨hbX, fun x hx => by rw [← hT] at hx; exact Nat.le_of_eq (List.eq_of_mem_replicate hx)⟩
            -- T = the begin of X ++ T
            have e5 : X ++ T = (X ++ T).take T.length ++ (X ++ T).drop T.length := (List.take_append_drop _ _).symm
            have hbt5 : Below top ((X ++ T).take T.length) := fun x hx => hbXT x (List.mem_of_mem_take hx)
            have hl5 : ((X ++ T).take T.length).length = T.length := by simp
            have hTT : T = List.replicate ((X ++ T).take T.length).length top := by rw [hl5, hTl]; exact hT.symm
            rw [e5] at h1
            have hTx : T = (X ++ T).take T.length := by
              rcases lex_same hl5.symm h1 with h2 | ⟨h2, _⟩
              · have h3 := top_max _ hbt5
                rw [← hTT] at h3
                exact absurd h2 h3
              · exact h2
            by_cases hkm : T.length ≤ k
            · -- s is all tops
              have h6 : X.take T.length = T := by
                rw [List.take_append_of_le_length (by omega)] at hTx
                exact hTx.symm
              have h7 : ¬ s < List.replicate s.length top := by
                rw [hT]
                intro h8
                apply hr
                rw [← List.take_append_drop T.length X, List.append_assoc, h6]
                exact lex_app h8 (Nat.le_of_eq hTl) _ _
              have h9 := top_eq hbs h7
              rw [hT] at h9
              rw [h9] at h
              exact h k hk00 hlt0
            · have h6 : X = List.replicate k top := by
                have h7 : (X ++ T).take k = T.take k := by
                  conv => rhs; rw [hTx]
                  rw [List.take_take, Nat.min_eq_left (by omega)]
                rw [List.take_append_of_le_length (by omega), List.take_of_length_le (by omega)] at h7
                rw [h7, ← hT, List.take_replicate, Nat.min_eq_left (by omega)]
              have h7 := per_top (top := top) (Nat.pos_of_ne_zero h0) (by omega) heq (by rw [hX]; exact h6)
              rw [ht0] at h7
              have := Option.some.inj h7
              omega
        · -- a turn that begins with the top
          have e1 : rot (t ++ T) k = T.drop (k - t.length) ++ (t ++ T.take (k - t.length)) := by
            unfold rot
            rw [List.drop_append, List.take_append, List.drop_of_length_le (by omega), List.take_of_length_le (by omega : t.length ≤ k)]
            rfl
          have e2 : T.drop (k - t.length) = top :: List.replicate (s.length - (k - t.length) - 1) top := by
            rw [← hT, List.drop_replicate, ← List.replicate_succ]
            congr 1
            omega
          rw [e1, e2, ← ht] at hlt
          simp only [List.cons_append, List.cons_lt_cons_iff] at hlt
          omega
end
end Z
namespace Z
noncomputable section
open PySem PySem.Spec PySem.P PyProof.Rows L2
/-! ### the next letter of a beginning -/
def Beg (top n : Nat) (t : List Nat) : Prop := t.length ≤ n ∧ Nk (t ++ List.replicate (n - t.length) top)
def lperF (t : List Nat) : Nat → Nat → Nat
  | 0, k => k
  | f + 1, k => if t.drop k = t.take (t.length - k) then k else lperF t f (k + 1)
/-- the least shift at which a text agrees with itself -/
def lper (t : List Nat) : Nat := lperF t (t.length - 1) 1
theorem lperF_spec (t : List Nat) : ∀ (f k : Nat), k + f = t.length → (∀ j, 1 ≤ j → j < k → t.drop j ≠ t.take (t.length - j)) → k ≤ lperF t f k ∧ lperF t f k ≤ t.length ∧ t.drop (lperF t f k) = t.take (t.length - lperF t f k) ∧ ∀ j, 1 ≤ j → j < lperF t f k → t.drop j ≠ t.take (t.length - j)
  | 0, k, hk, hj => by
    have : k = t.length := by omega
    subst this
    simp only [lperF]
    refine ⟨Nat.le_refl _, Nat.le_refl _, by simp, hj⟩
  | f + 1, k, hk, hj => by
    simp only [lperF]
    split
    · rename_i h
      exact ⟨Nat.le_refl _, by omega, h, hj⟩
    · rename_i h
      have := lperF_spec t f (k + 1) (by omega) (fun j h1 h2 => by
        by_cases h3 : j = k
        · subst h3; exact h
        · exact hj j h1 (by omega))
      exact ⟨by omega, this.2⟩
theorem lper_spec {t : List Nat} (h : t ≠ []) : 1 ≤ lper t ∧ lper t ≤ t.length ∧ t.drop (lper t) = t.take (t.length - lper t) ∧ ∀ j, 1 ≤ j → j < lper t → t.drop j ≠ t.take (t.length - j) := by
  have := List.length_pos_iff.mpr h
  exact lperF_spec t (t.length - 1) 1 (by omega) (fun j h1 h2 => by omega)
def agn (t : List Nat) : Nat := t.getD (t.length - lper t) 0
theorem take_one {t : List Nat} {i : Nat} (h : i < t.length) : t.take (i + 1) = t.take i ++ [t.getD i 0] := by
  rw [List.take_succ, List.getElem?_eq_getElem h, List.getD_eq_getElem?_getD, List.getElem?_eq_getElem h]
  rfl
/-- the next letter is not less than the one at any shift -/
theorem next_ge {t s : List Nat} {e k : Nat} (h : Nk (t ++ e :: s)) (h1 : 1 ≤ k) (hk : k ≤ t.length) (hp : t.drop k = t.take (t.length - k)) : t.getD (t.length - k) 0 ≤ e := by
  have hpc := nk_pieces h (k := k) (l := t.length - k + 1) (by simp; omega)
  rw [List.drop_append_of_le_length hk, List.take_append_of_le_length (by omega : t.length - k + 1 ≤ t.length), take_one (t := t) (by omega)] at hpc
  rw [show (t.drop k ++ e :: s).take (t.length - k + 1) = t.drop k ++ [e] by
    rw [List.take_append, List.take_of_length_le (by simp), show t.length - k + 1 - (t.drop k).length = 1 by simp]
    rfl, hp, lex_pre, List.cons_lt_cons_iff] at hpc
  omega
/-- of two shifts, the lesser has the greater letter -/
theorem shift_le {t s : List Nat} {p k : Nat} (h : Nk (t ++ s)) (h1 : 1 ≤ p) (hpk : p ≤ k) (hk : k ≤ t.length) (hp : t.drop p = t.take (t.length - p)) (hq : t.drop k = t.take (t.length - k)) : t.getD (t.length - k) 0 ≤ t.getD (t.length - p) 0 := by
  by_cases he : k = p
  · rw [he]; exact Nat.le_refl _
  · have e1 : t = t.take (t.length - p) ++ t.getD (t.length - p) 0 :: t.drop (t.length - p + 1) := by
      have := List.take_append_drop (t.length - p + 1) t
      rw [take_one (by omega), List.append_assoc] at this
      exact this.symm
    generalize hc : t.getD (t.length - p) 0 = c at e1 ⊢
    have hN : Nk (t.take (t.length - p) ++ c :: (t.drop (t.length - p + 1) ++ s)) := by
      have : t.take (t.length - p) ++ c :: (t.drop (t.length - p + 1) ++ s) = t ++ s := by
        conv => rhs; rw [e1]
        simp only [List.append_assoc, List.cons_append]
      rw [this]; exact h
    have hl : (t.take (t.length - p)).length = t.length - p := by simp
    have := next_ge hN (k := k - p) (by omega) (by rw [hl]; omega) (by
      rw [hl, ← hp, List.drop_drop, show p + (k - p) = k by omega, hq, hp, List.take_take]
      congr 1; omega)
    rw [hl, show t.length - p - (k - p) = t.length - k by omega] at this
    have e2 : (t.take (t.length - p)).getD (t.length - k) 0 = t.getD (t.length - k) 0 := by
      rw [List.getD_eq_getElem?_getD, List.getD_eq_getElem?_getD, List.getElem?_take, if_pos (by omega)]
    rw [e2] at this
    exact this
theorem agn_ge {t s : List Nat} {k : Nat} (h : Nk (t ++ s)) (h1 : 1 ≤ k) (hk : k ≤ t.length) (hq : t.drop k = t.take (t.length - k)) : t.getD (t.length - k) 0 ≤ agn t := by
  have ht : t ≠ [] := by intro e; rw [e] at hk; simp at hk; omega
  have hs := lper_spec ht
  refine shift_le h hs.1 ?_ hk hs.2.2.1 hq
  apply Nat.le_of_not_lt
  intro hlt
  exact hs.2.2.2 k h1 hlt hq
/-- a letter above the one agn makes a beginning -/
theorem nk_up {t s : List Nat} {e top r : Nat} (h : Nk (t ++ s)) (ht : t ≠ []) (he : agn t < e) (het : e ≤ top) : Nk (t ++ e :: List.replicate r top) := by
  have htl := List.length_pos_iff.mpr ht
  have ha : t.getD 0 0 ≤ agn t := by
    have := agn_ge h (k := t.length) (by omega) (Nat.le_refl _) (by simp)
    simpa using this
  generalize hT : List.replicate r top = T
  have hTl : T.length = r := by rw [← hT]; simp
  intro k hk hlt
  rw [List.length_append, List.length_cons, hTl] at hk
  by_cases h0 : k = 0
  · subst h0
    rw [rot_zero] at hlt
    exact List.lt_irrefl _ hlt
  · by_cases hkt : k ≤ t.length
    · have e1 : rot (t ++ e :: T) k = t.drop k ++ (e :: T ++ t.take k) := by
        unfold rot
        rw [List.drop_append_of_le_length (by omega), List.take_append_of_le_length (by omega), List.append_assoc]
      have e2 : t ++ e :: T = t.take (t.length - k) ++ (t.drop (t.length - k) ++ e :: T) := by
        rw [← List.append_assoc, List.take_append_drop]
      have hl : (t.drop k).length = (t.take (t.length - k)).length := by simp
      rw [e1, e2] at hlt
      have hpc := nk_pieces h (k := k) (l := t.length - k) (by rw [List.length_append]; omega)
      rw [List.drop_append_of_le_length (by omega), List.take_append_of_le_length (by simp), List.take_append_of_le_length (by omega), List.take_of_length_le (by simp)] at hpc
      rcases lex_same hl hlt with h1 | ⟨heq, h1⟩
      · exact hpc h1
      · have hg := agn_ge h (by omega) hkt heq
        have hi : t.length - k < t.length := by omega
        rw [List.drop_eq_getElem_cons hi] at h1
        rw [List.getD_eq_getElem?_getD, List.getElem?_eq_getElem hi] at hg
        simp only [List.cons_append, List.cons_lt_cons_iff, Option.getD_some] at h1 hg
        omega
    · have e1 : rot (t ++ e :: T) k = T.drop (k - t.length - 1) ++ (t ++ e :: T.take (k - t.length - 1)) := by
        unfold rot
        rw [List.drop_append, List.take_append, List.drop_of_length_le (by omega), List.take_of_length_le (by omega : t.length ≤ k)]
        rw [show k - t.length = (k - t.length - 1) + 1 by omega]
        rfl
      have e2 : T.drop (k - t.length - 1) = top :: List.replicate (r - (k - t.length - 1) - 1) top := by
        rw [← hT, List.drop_replicate, ← List.replicate_succ]
        congr 1
        omega
      rw [e1, e2] at hlt
      cases t with
      | nil => exact ht rfl
      | cons a t' =>
        simp only [List.cons_append, List.cons_lt_cons_iff] at hlt
        simp at ha
        omega
/-- a word of letters lo..top, n long, least among its turns -/
def Good (lo top n : Nat) (w : List Nat) : Prop := w.length = n ∧ Nk w ∧ ∀ x ∈ w, lo ≤ x ∧ x ≤ top
theorem Good.below {lo top n : Nat} {w : List Nat} (h : Good lo top n w) : Below top w := fun x hx => (h.2.2 x hx).2
/-- the begin of a good word is a beginning -/
theorem Good.beg {lo top n : Nat} {t s : List Nat} (h : Good lo top n (t ++ s)) : Beg top n t := by
  have hl := h.1
  rw [List.length_append] at hl
  refine ⟨by omega, ?_⟩
  have := nk_fill h.below h.2.1
  rwa [show s.length = n - t.length by omega] at this
/-- a beginning has a good word -/
theorem Beg.good {lo top n : Nat} {t : List Nat} (h : Beg top n t) (ht : ∀ x ∈ t, lo ≤ x ∧ x ≤ top) (hlo : lo ≤ top) : Good lo top n (t ++ List.replicate (n - t.length) top) := by
  have := h.1
  refine ⟨by simp; omega, h.2, fun x hx => ?_⟩
  rcases List.mem_append.mp hx with h1 | h1
  · exact ht x h1
  · rw [List.eq_of_mem_replicate h1]
    exact ⟨hlo, Nat.le_refl _⟩
def firstL (lo : Nat) (t : List Nat) : Nat := if t = [] then lo else agn t
theorem agn_mem {t : List Nat} (h : t ≠ []) : agn t ∈ t := by
  have := lper_spec h
  have hl := List.length_pos_iff.mpr h
  unfold agn
  rw [List.getD_eq_getElem?_getD, List.getElem?_eq_getElem (by omega)]
  exact List.getElem_mem _
theorem firstL_ran {lo top : Nat} {t : List Nat} (ht : ∀ x ∈ t, lo ≤ x ∧ x ≤ top) (hlo : lo ≤ top) : lo ≤ firstL lo t ∧ firstL lo t ≤ top := by
  unfold firstL
  split
  · exact ⟨Nat.le_refl _, hlo⟩
  · rename_i h
    exact ht _ (agn_mem h)
theorem Beg.nil_one {top n : Nat} {c : Nat} (hn : 0 < n) (hc : c ≤ top) : Beg top n ([] ++ [c]) := by
  refine ⟨by simp; omega, ?_⟩
  by_cases h : c = top
  · subst h
    have : ([] ++ [c]) ++ List.replicate (n - ([] ++ [c]).length) c = List.replicate (n - 1 + 1) c := by
      simp [List.replicate_succ]
    rw [this]
    exact nk_rep _ _
  · intro k hk hlt
    simp only [List.nil_append, List.length_cons, List.length_nil] at hk hlt
    by_cases h0 : k = 0
    · subst h0
      rw [rot_zero] at hlt
      exact List.lt_irrefl _ hlt
    · obtain ⟨j, rfl⟩ : ∃ j, k = j + 1 := ⟨k - 1, by omega⟩
      simp only [List.singleton_append, List.length_cons, List.length_replicate] at hk
      unfold rot at hlt
      simp only [List.singleton_append, List.drop_succ_cons, List.drop_replicate] at hlt
      rw [show n - (0 + 1) - j = (n - 1 - j - 1) + 1 by omega, List.replicate_succ] at hlt
      simp only [List.cons_append, List.cons_lt_cons_iff] at hlt
      omega
/-- no good word goes on with a letter below the first one -/
theorem firstL_le {lo top n : Nat} {t s : List Nat} {e : Nat} (h : Good lo top n (t ++ e :: s)) : firstL lo t ≤ e := by
  unfold firstL
  split
  · rename_i ht
    exact (h.2.2 e (List.mem_append_right _ List.mem_cons_self)).1
  · rename_i ht
    have hs := lper_spec ht
    exact next_ge h.2.1 hs.1 hs.2.1 hs.2.2.1
/-- a letter above the first one makes a beginning -/
theorem Beg.up {lo top n : Nat} {t : List Nat} {e : Nat} (h : Beg top n t) (hn : t.length < n) (he : firstL lo t < e) (het : e ≤ top) : Beg top n (t ++ [e]) := by
  by_cases ht : t = []
  · subst ht
    exact Beg.nil_one (by simpa using hn) het
  · refine ⟨by simp; omega, ?_⟩
    unfold firstL at he
    rw [if_neg ht] at he
    have := nk_up (r := n - (t ++ [e]).length) h.2 ht he het
    simpa using this
/-- if the first letter fails, it is below the top -/
theorem Beg.low {lo top n : Nat} {t : List Nat} (h : Beg top n t) (ht : ∀ x ∈ t, lo ≤ x ∧ x ≤ top) (hlo : lo ≤ top) (hn : t.length < n) (hc : ¬ Beg top n (t ++ [firstL lo t])) : firstL lo t < top := by
  have hr := firstL_ran ht hlo
  apply Nat.lt_of_le_of_ne hr.2
  intro he
  apply hc
  rw [he]
  refine ⟨by simp; omega, ?_⟩
  have := h.2
  rw [show n - t.length = (n - (t ++ [top]).length) + 1 by simp; omega, List.replicate_succ] at this
  simpa using this
def begB (top n : Nat) (t : List Nat) : Bool := decide (t.length ≤ n) && (lrot (t ++ List.replicate (n - t.length) top) == t ++ List.replicate (n - t.length) top)
theorem begB_iff {top n : Nat} {t : List Nat} (hn : 0 < n) : begB top n t = true ↔ Beg top n t := by
  unfold begB Beg
  rw [Bool.and_eq_true, decide_eq_true_eq, beq_iff_eq]
  constructor
  · rintro ⟨h1, h2⟩
    exact ⟨h1, (nk_iff (by intro e; have := congrArg List.length e; rw [List.length_append, List.length_replicate, List.length_nil] at this; omega)).mpr h2⟩
  · rintro ⟨h1, h2⟩
    exact ⟨h1, (nk_iff (by intro e; have := congrArg List.length e; rw [List.length_append, List.length_replicate, List.length_nil] at this; omega)).mp h2⟩
theorem rep_one (n top : Nat) : (List.replicate n [top]).flatten = List.replicate n top := by
  induction n with
  | zero => rfl
  | succ n ih => rw [List.replicate_succ, List.flatten_cons, ih, List.replicate_succ]; rfl
theorem repS_one (c n : Nat) : repS [c] n = List.replicate n c := by
  unfold repS
  exact rep_one n c
theorem ixD_last (xs : List Nat) (c : Nat) (h0 : xs ≠ []) (hl : xs.length ≤ SZ) (hc : xs[xs.length - 1]? = some c) : ixD (.str xs) (.int (-1)) = .ok (.str [c]) := by
  have := List.length_pos_iff.mpr h0
  have e : atI xs (-1) = some c := by
    unfold atI ixN
    simp
    rw [if_pos (by omega), Option.bind_some, show ((-1 : Int) + (xs.length : Int)).toNat = xs.length - 1 by omega]
    exact hc
  unfold ixD
  simp [e, hl]
theorem abc_last {k : Nat} (h1 : 1 ≤ k) (h2 : k ≤ 6) : ixD (.str (abc k)) (.int (-1)) = .ok (.str [96 + k]) := by
  have hz : (abc k).length ≤ SZ := le_sz (by simp [abc]; omega)
  refine ixD_last _ _ ?_ hz ?_
  all_goals
    have : k = 1 ∨ k = 2 ∨ k = 3 ∨ k = 4 ∨ k = 5 ∨ k = 6 := by omega
    rcases this with rfl | rfl | rfl | rfl | rfl | rfl <;> simp [abc]
theorem abc_at {k c : Nat} (h1 : 1 ≤ k) (h2 : k ≤ 6) (hc : c < k) : ixD (.str (abc k)) (.int c) = .ok (.str [97 + c]) := by
  have hz : (abc k).length ≤ SZ := le_sz (by simp [abc]; omega)
  refine ixD_s _ _ (by omega) _ hz ?_
  have : k = 1 ∨ k = 2 ∨ k = 3 ∨ k = 4 ∨ k = 5 ∨ k = 6 := by omega
  have : c = 0 ∨ c = 1 ∨ c = 2 ∨ c = 3 ∨ c = 4 ∨ c = 5 := by omega
  rcases this with rfl | rfl | rfl | rfl | rfl | rfl <;> (rcases ‹k = 1 ∨ _› with rfl | rfl | rfl | rfl | rfl | rfl <;> first | omega | simp [abc])
theorem abc_ix {k c : Nat} (h1 : 1 ≤ k) (h2 : k ≤ 6) (hc : 97 ≤ c) (hk : c < 97 + k) : idxS (.str (abc k)) [.str [c]] = .ok (.int (c - 97 : Nat)) := by
  unfold idxS
  dsimp only
  rw [if_pos ((mem_abc (by omega) (by omega)).mpr ⟨hc, by omega⟩)]
  have : k = 1 ∨ k = 2 ∨ k = 3 ∨ k = 4 ∨ k = 5 ∨ k = 6 := by omega
  have : c = 97 ∨ c = 98 ∨ c = 99 ∨ c = 100 ∨ c = 101 ∨ c = 102 := by omega
  rcases this with rfl | rfl | rfl | rfl | rfl | rfl <;> (rcases ‹k = 1 ∨ _› with rfl | rfl | rfl | rfl | rfl | rfl <;> first | omega | simp [abc, List.findIdx_cons])
/-- what the loop keeps -/
structure Fil (lo top n : Nat) (t0 t : List Nat) : Prop where
  beg : Beg top n t
  let_ : ∀ x ∈ t, lo ≤ x ∧ x ≤ top
  pre : t0 <+: t
  low : ∀ w, Good lo top n w → t0 <+: w → ¬ w.take t.length < t
def nextW (lo top n : Nat) (t : List Nat) : Nat := if begB top n (t ++ [firstL lo t]) = true then firstL lo t else firstL lo t + 1
theorem Fil.step {lo top n : Nat} {t0 t : List Nat} (h : Fil lo top n t0 t) (hlo : lo ≤ top) (hn : t.length < n) : Fil lo top n t0 (t ++ [nextW lo top n t]) ∧ lo ≤ nextW lo top n t ∧ nextW lo top n t ≤ top ∧ (begB top n (t ++ [firstL lo t]) = false → firstL lo t < top) := by
  have hr := firstL_ran h.let_ hlo
  have hlow : begB top n (t ++ [firstL lo t]) = false → firstL lo t < top := fun hb => h.beg.low h.let_ hlo hn (fun hB => by
    rw [(begB_iff (by omega)).mpr hB] at hb
    cases hb)
  have hw : lo ≤ nextW lo top n t ∧ nextW lo top n t ≤ top := by
    unfold nextW
    split
    · exact hr
    · rename_i hb
      have := hlow (by simpa using hb)
      omega
  refine ⟨⟨?_, ?_, ?_, ?_⟩, hw.1, hw.2, hlow⟩
  · unfold nextW
    split
    · rename_i hb
      exact (begB_iff (by omega)).mp hb
    · rename_i hb
      have := hlow (by simpa using hb)
      exact h.beg.up hn (lo := lo) (by omega) (by omega)
  · intro x hx
    rcases List.mem_append.mp hx with h1 | h1
    · exact h.let_ x h1
    · rw [List.mem_singleton.mp h1]; exact hw
  · exact h.pre.trans (List.prefix_append _ _)
  · intro w hg hp hlt
    have hwl := hg.1
    have hi : t.length < w.length := by omega
    rw [List.length_append, List.length_singleton, take_one hi] at hlt
    rcases lex_same (by simp; omega) hlt with h1 | ⟨h1, h2⟩
    · exact h.low w hg hp h1
    · have e1 : w = t ++ w.getD t.length 0 :: w.drop (t.length + 1) := by
        have := List.take_append_drop (t.length + 1) w
        rw [take_one hi, h1, List.append_assoc] at this
        exact this.symm
      generalize w.getD t.length 0 = e at e1 h2
      simp only [List.cons_lt_cons_iff, List.lt_irrefl, and_false, or_false] at h2
      have hg' := hg
      rw [e1] at hg'
      have hfe := firstL_le hg'
      unfold nextW at h2
      split at h2
      · omega
      · rename_i hb
        have : e = firstL lo t := by omega
        apply hb
        apply (begB_iff (by omega)).mpr
        rw [← this]
        refine Good.beg (lo := lo) (s := w.drop (t.length + 1)) ?_
        rw [List.append_assoc]
        exact hg'
theorem Fil.start {lo top n : Nat} {t : List Nat} (h : Beg top n t) (hl : ∀ x ∈ t, lo ≤ x ∧ x ≤ top) : Fil lo top n t t := ⟨h, hl, List.prefix_refl _, fun w _ hp hlt => by
  rw [← List.prefix_iff_eq_take.mp hp] at hlt
  exact List.lt_irrefl _ hlt⟩
theorem Fil.done {lo top n : Nat} {t0 t : List Nat} (h : Fil lo top n t0 t) (hn : n ≤ t.length) : Good lo top n t ∧ t0 <+: t ∧ ∀ w, Good lo top n w → t0 <+: w → ¬ w < t := by
  have h1 := h.beg.1
  have h2 := h.beg.2
  rw [show n - t.length = 0 by omega, List.replicate_zero, List.append_nil] at h2
  refine ⟨⟨by omega, h2, h.let_⟩, h.pre, fun w hg hp hlt => h.low w hg hp ?_⟩
  rw [List.take_of_length_le (by have := hg.1; omega)]
  exact hlt
end
end Z
namespace Z
noncomputable section
open PySem PySem.Spec PySem.P PyProof.Rows L2
/-! ### all words, in rising order -/
def allW (k : Nat) : Nat → List (List Nat)
  | 0 => [[]]
  | n + 1 => (allW k n).flatMap fun w => (abc k).map fun c => w ++ [c]
theorem abc_len {k : Nat} (h : k ≤ 6) : (abc k).length = k := by
  simp [abc]
  omega
theorem abc_sorted (k : Nat) : (abc k).Pairwise (· < ·) := by
  unfold abc
  exact List.Pairwise.sublist (List.take_sublist _ _) (by decide)
theorem mem_allW {k : Nat} (h1 : 1 ≤ k) (h2 : k ≤ 6) : ∀ {n : Nat} {w : List Nat}, w ∈ allW k n ↔ w.length = n ∧ ∀ x ∈ w, 97 ≤ x ∧ x ≤ 96 + k
  | 0, w => by
    simp only [allW, List.mem_singleton]
    constructor
    · rintro rfl; simp
    · rintro ⟨h, _⟩; exact List.length_eq_zero_iff.mp h
  | n + 1, w => by
    simp only [allW, List.mem_flatMap, List.mem_map]
    constructor
    · rintro ⟨v, hv, c, hc, rfl⟩
      have hv' := (mem_allW h1 h2).mp hv
      have hc' := (mem_abc (k := k) (by omega) (by omega)).mp hc
      refine ⟨by simp [hv'.1], fun x hx => ?_⟩
      rcases List.mem_append.mp hx with h | h
      · exact hv'.2 x h
      · rw [List.mem_singleton.mp h]; omega
    · rintro ⟨hl, hw⟩
      have hi : n < w.length := by omega
      refine ⟨w.take n, (mem_allW h1 h2).mpr ⟨by simp; omega, fun x hx => hw x (List.mem_of_mem_take hx)⟩, w.getD n 0, (mem_abc (k := k) (by omega) (by omega)).mpr ?_, ?_⟩
      · have := hw _ (List.getElem_mem hi)
        rw [List.getD_eq_getElem?_getD, List.getElem?_eq_getElem hi, Option.getD_some]
        omega
      · rw [← take_one hi, List.take_of_length_le (by omega)]
theorem allW_len {k : Nat} (h2 : k ≤ 6) : ∀ n : Nat, (allW k n).length = k ^ n
  | 0 => rfl
  | n + 1 => by
    have := allW_len h2 n
    simp only [allW, List.length_flatMap, List.length_map, abc_len h2]
    rw [List.map_const', List.sum_replicate_nat, this, Nat.pow_succ]
theorem allW_sorted {k : Nat} (h1 : 1 ≤ k) (h2 : k ≤ 6) : ∀ n : Nat, (allW k n).Pairwise (· < ·)
  | 0 => by simp [allW]
  | n + 1 => by
    have ih := allW_sorted h1 h2 n
    simp only [allW]
    rw [List.pairwise_flatMap]
    refine ⟨fun w _ => ?_, ?_⟩
    · rw [List.pairwise_map]
      refine (abc_sorted k).imp fun {a b} hab => ?_
      rw [lex_pre, List.cons_lt_cons_iff]
      exact Or.inl hab
    · refine List.Pairwise.imp_of_mem ?_ ih
      intro a b ha hb hab x hx y hy
      obtain ⟨c, _, rfl⟩ := List.mem_map.mp hx
      obtain ⟨d, _, rfl⟩ := List.mem_map.mp hy
      exact lex_app hab (by rw [((mem_allW h1 h2).mp ha).1, ((mem_allW h1 h2).mp hb).1]; exact Nat.le_refl _) _ _
/-- the first of a rising list's chosen ones is the least chosen -/
theorem filter_head {p : List Nat → Bool} {r : List Nat} : ∀ {l : List (List Nat)}, l.Pairwise (· < ·) → r ∈ l → p r = true → (∀ w ∈ l, p w = true → ¬ w < r) → (l.filter p)[0]? = some r
  | [], _, h, _, _ => by cases h
  | a :: l, hs, hr, hp, hm => by
    by_cases ha : p a = true
    · rw [List.filter_cons_of_pos ha]
      rcases List.mem_cons.mp hr with e | e
      · rw [e]; rfl
      · exact absurd (List.rel_of_pairwise_cons hs e) (hm a List.mem_cons_self ha)
    · rw [List.filter_cons_of_neg ha]
      refine filter_head hs.of_cons ?_ hp fun w hw => hm w (List.mem_cons_of_mem _ hw)
      rcases List.mem_cons.mp hr with e | e
      · rw [e] at hp; exact absurd hp ha
      · exact e
theorem mapD_fm {α : Type} {step : D → R (Option D)} (c : α → D) (p : α → Bool) (g : α → D) : ∀ (l : List α), (∀ a ∈ l, step (c a) = .ok (if p a = true then some (g a) else none)) → mapD step (l.map c) = .ok ((l.filter p).map g)
  | [], _ => by simp [mapD]
  | a :: l, h => by
    have h1 := h a List.mem_cons_self
    have h2 := mapD_fm c p g l fun b hb => h b (List.mem_cons_of_mem _ hb)
    by_cases hp : p a = true
    · rw [if_pos hp] at h1
      rw [List.filter_cons_of_pos hp]
      simp [mapD, h1, h2]
    · rw [if_neg hp] at h1
      rw [List.filter_cons_of_neg hp]
      simp [mapD, h1, h2]
theorem comp_fm {α : Type} {step : D → R (Option D)} (c : α → D) (p : α → Bool) (g : α → D) (l : List α) (hl : l.length ≤ 16777216) (h : ∀ a ∈ l, step (c a) = .ok (if p a = true then some (g a) else none)) : rComp (mapD step (l.map c)) = .ok (.lst ((l.filter p).map g)) :=
  rComp_of (mapD_fm c p g l h) (by simpa using Nat.le_trans (List.length_filter_le p l) hl)
end
end Z
namespace Z
noncomputable section
open PySem PySem.Spec PySem.P PyProof.Rows L2
/-! ### the next and the last least word -/
theorem gt_split {w r : List Nat} (hl : w.length = r.length) (h : w < r) : ∃ j c s, j < w.length ∧ w.getD j 0 < c ∧ r = w.take j ++ c :: s := by
  rcases lex_iff.mp h with ⟨z, hz, rfl⟩ | ⟨p, c, d, x, y, rfl, rfl, hcd⟩
  · rw [List.length_append] at hl
    have := List.length_pos_iff.mpr hz
    omega
  · exact ⟨p.length, d, y, by simp, by simpa using hcd, by simp⟩
theorem split_gt {w s : List Nat} {j c : Nat} (hj : j < w.length) (hc : w.getD j 0 < c) : w < w.take j ++ c :: s := by
  have e : w = w.take j ++ w.getD j 0 :: w.drop (j + 1) := by
    rw [List.getD_eq_getElem?_getD, List.getElem?_eq_getElem hj]
    simp
  conv => lhs; rw [e]
  rw [lex_pre, List.cons_lt_cons_iff]
  exact .inl hc
theorem split_lt {w s : List Nat} {j c : Nat} (hj : j < w.length) (hc : c < w.getD j 0) : w.take j ++ c :: s < w := by
  have e : w = w.take j ++ w.getD j 0 :: w.drop (j + 1) := by
    rw [List.getD_eq_getElem?_getD, List.getElem?_eq_getElem hj]
    simp
  conv => rhs; rw [e]
  rw [lex_pre, List.cons_lt_cons_iff]
  exact .inl hc
theorem take_pre {w : List Nat} {i j : Nat} (h : i ≤ j) : w.take j = w.take i ++ (w.drop i).take (j - i) := by
  rw [← List.take_add]
  congr 1
  omega
theorem take_at {w : List Nat} {i j : Nat} (h : i < j) (hj : j ≤ w.length) : w.take j = w.take i ++ w.getD i 0 :: (w.drop (i + 1)).take (j - i - 1) := by
  rw [take_pre (Nat.le_of_lt h)]
  congr 1
  have hi : i < w.length := by omega
  rw [List.drop_eq_getElem_cons hi, List.getD_eq_getElem?_getD, List.getElem?_eq_getElem hi]
  rw [show j - i = (j - i - 1) + 1 by omega, List.take_succ_cons]
  rfl
theorem next_found {lo top n j c : Nat} {w r : List Nat} (hw : w.length = n) (hj : j < n) (hc : w.getD j 0 < c)
    (hno : ∀ j' c', j < j' → j' < n → w.getD j' 0 < c' → c' ≤ top → ¬ Beg top n (w.take j' ++ [c']))
    (hno2 : ∀ c', w.getD j 0 < c' → c' < c → ¬ Beg top n (w.take j ++ [c']))
    (hp : w.take j ++ [c] <+: r) (hl : ∀ g, Good lo top n g → w.take j ++ [c] <+: g → ¬ g < r) :
    w < r ∧ ∀ g, Good lo top n g → w < g → ¬ g < r := by
  obtain ⟨s, rfl⟩ := hp
  have e0 : w.take j ++ [c] ++ s = w.take j ++ c :: s := by simp
  rw [e0] at hl ⊢
  refine ⟨split_gt (by omega) hc, fun g hg hlt hgr => ?_⟩
  obtain ⟨j', c', s', h1, h2, rfl⟩ := gt_split (by rw [hw, hg.1]) hlt
  have hb : Beg top n (w.take j' ++ [c']) := Good.beg (lo := lo) (s := s') (by simpa using hg)
  have ht : c' ≤ top := (hg.2.2 c' (by simp)).2
  by_cases e : j < j'
  · exact hno j' c' e (by omega) h2 ht hb
  · by_cases e2 : j' = j
    · subst e2
      by_cases e3 : c' < c
      · exact hno2 c' h2 e3 hb
      · by_cases e4 : c' = c
        · subst e4
          exact hl _ hg ⟨s', by simp⟩ hgr
        · rw [lex_pre, List.cons_lt_cons_iff] at hgr
          rcases hgr with h | ⟨h, -⟩
          · omega
          · omega
    · rw [take_at (i := j') (j := j) (by omega) (by omega)] at hgr
      rw [List.append_assoc, lex_pre, List.cons_append, List.cons_lt_cons_iff] at hgr
      rcases hgr with h | ⟨h, -⟩ <;> omega
theorem next_none {lo top n : Nat} {w : List Nat} (hw : w.length = n)
    (hno : ∀ j' c', j' < n → w.getD j' 0 < c' → c' ≤ top → ¬ Beg top n (w.take j' ++ [c'])) : ∀ g, Good lo top n g → ¬ w < g := fun g hg hlt => by
  obtain ⟨j', c', s', h1, h2, rfl⟩ := gt_split (by rw [hw, hg.1]) hlt
  exact hno j' c' (by omega) h2 (hg.2.2 c' (by simp)).2 (Good.beg (lo := lo) (s := s') (by simpa using hg))
/-- the last least word that is not greater -/
def LastP (lo top n : Nat) (w f : List Nat) : Prop := Good lo top n f ∧ ¬ w < f ∧ ∀ g, Good lo top n g → ¬ w < g → ¬ f < g
theorem last_self {lo top n : Nat} {w : List Nat} (hw : Good lo top n w) : LastP lo top n w w := ⟨hw, List.lt_irrefl _, fun _ _ h => h⟩
theorem last_found {lo top n j c : Nat} {w : List Nat} (hw : w.length = n) (hr : ∀ x ∈ w, lo ≤ x ∧ x ≤ top) (hnk : ¬ Nk w) (hj : j < n) (hc : c < w.getD j 0) (hlo : lo ≤ c)
    (hb : Beg top n (w.take j ++ [c]))
    (hno : ∀ j' c', j < j' → j' < n → lo ≤ c' → c' < w.getD j' 0 → ¬ Beg top n (w.take j' ++ [c']))
    (hno2 : ∀ c', c < c' → c' < w.getD j 0 → ¬ Beg top n (w.take j ++ [c'])) : LastP lo top n w (w.take j ++ c :: List.replicate (n - j - 1) top) := by
  have hm : w.getD j 0 ∈ w := by
    rw [List.getD_eq_getElem?_getD, List.getElem?_eq_getElem (by omega)]
    simp
  have htop := (hr _ hm).2
  have e0 : w.take j ++ [c] ++ List.replicate (n - j - 1) top = w.take j ++ c :: List.replicate (n - j - 1) top := by simp
  refine ⟨?_, fun h => List.lt_irrefl _ (List.lt_trans h (split_lt (by omega) hc)), fun g hg hle hlt => ?_⟩
  · rw [← e0]
    have := hb.good (lo := lo) (fun x hx => by
      rcases List.mem_append.mp hx with h | h
      · exact hr x (List.mem_of_mem_take h)
      · rw [List.mem_singleton.mp h]; omega) (by omega)
    have e : (w.take j ++ [c]).length = j + 1 := by simp; omega
    rw [e] at this
    simpa [Nat.sub_sub] using this
  · have hgw : g < w := by
      rcases lex_tri w g with h | h | h
      · exact absurd h hle
      · subst h; exact absurd hg.2.1 hnk
      · exact h
    rcases lex_iff.mp hgw with ⟨z, hz, h⟩ | ⟨p, c', d, x, y, h1, h2, hcd⟩
    · have h3 := congrArg List.length h
      rw [List.length_append, hg.1, hw] at h3
      have := List.length_pos_iff.mpr hz
      omega
    · have hp : w.take p.length = p := by rw [h2]; simp
      have hpd : w.getD p.length 0 = d := by rw [h2]; simp
      have hpn : p.length < n := by rw [← hw, h2]; simp
      have hbg : Beg top n (w.take p.length ++ [c']) := Good.beg (lo := lo) (s := x) (by rw [hp]; subst h1; simpa using hg)
      have hcl : lo ≤ c' := (hg.2.2 c' (by rw [h1]; simp)).1
      have hgt : g = w.take p.length ++ c' :: x := by rw [hp]; exact h1
      generalize p.length = j' at *
      by_cases e : j < j'
      · exact hno j' c' e hpn hcl (by omega) hbg
      · by_cases e2 : j' = j
        · subst e2
          rw [hgt, lex_pre, List.cons_lt_cons_iff] at hlt
          rcases hlt with h | ⟨h, h'⟩
          · exact hno2 c' h (by omega) hbg
          · have hx : x.length = n - j' - 1 := by
              have := hg.1
              rw [hgt] at this
              simp at this
              omega
            rw [← hx] at h'
            refine top_max x (fun a ha => ?_) h'
            exact (hg.2.2 a (by rw [hgt]; simp [ha])).2
        · rw [hgt, take_at (i := j') (j := j) (by omega) (by omega)] at hlt
          rw [List.append_assoc, lex_pre, List.cons_append, List.cons_lt_cons_iff] at hlt
          rcases hlt with h | ⟨h, -⟩ <;> omega
theorem last_ex {lo top n : Nat} {w : List Nat} (hn : 0 < n) (hlo : lo ≤ top) (hw : w.length = n) (hr : ∀ x ∈ w, lo ≤ x ∧ x ≤ top)
    (hno : ∀ j' c', j' < n → lo ≤ c' → c' < w.getD j' 0 → ¬ Beg top n (w.take j' ++ [c'])) : Nk w := by
  have hg : Good lo top n (List.replicate n lo) := ⟨by simp, nk_rep _ _, fun x hx => by rw [List.eq_of_mem_replicate hx]; omega⟩
  rcases lex_tri w (List.replicate n lo) with h | h | h
  · obtain ⟨j, c, s, h1, h2, h3⟩ := gt_split (by simpa using hw) h
    have hc : c = lo := by
      have : c ∈ List.replicate n lo := by rw [h3]; simp
      exact List.eq_of_mem_replicate this
    have hm : w.getD j 0 ∈ w := by
      rw [List.getD_eq_getElem?_getD, List.getElem?_eq_getElem (by omega)]
      simp
    have := (hr _ hm).1
    omega
  · rw [h]; exact hg.2.1
  · rcases lex_iff.mp h with ⟨z, hz, h⟩ | ⟨p, c', d, x, y, h1, h2, hcd⟩
    · have h3 := congrArg List.length h
      rw [List.length_append, List.length_replicate, hw] at h3
      have := List.length_pos_iff.mpr hz
      omega
    · have hp : w.take p.length = p := by rw [h2]; simp
      have hpd : w.getD p.length 0 = d := by rw [h2]; simp
      have hpn : p.length < n := by rw [← hw, h2]; simp
      have hc : lo ≤ c' := (hg.2.2 c' (by rw [h1]; simp)).1
      refine absurd (Good.beg (lo := lo) (s := x) ?_) (hno p.length c' hpn hc (by omega))
      rw [hp]
      rw [h1] at hg
      simpa using hg
end
end Z
namespace Z
noncomputable section
open PySem PySem.Spec PySem.P PyProof.Rows L2
/-! ### words of which all turns are greater: counted -/
/-- greater at a place that both have -/
def Bt (u v : List Nat) : Prop := ∃ d c s, d < u.length ∧ u.getD d 0 < c ∧ v = u.take d ++ c :: s
theorem bt_iff {u v : List Nat} (h : u.length = v.length) : Bt u v ↔ u < v := by
  constructor
  · rintro ⟨d, c, s, h1, h2, rfl⟩
    exact split_gt h1 h2
  · intro hl
    obtain ⟨j, c, s, h1, h2, h3⟩ := gt_split h hl
    exact ⟨j, c, s, h1, h2, h3⟩
theorem Bt.app {u v : List Nat} (h : Bt u v) (x : List Nat) : Bt u (v ++ x) := by
  obtain ⟨d, c, s, h1, h2, rfl⟩ := h
  exact ⟨d, c, s ++ x, h1, h2, by simp⟩
theorem Bt.at {u v : List Nat} {d c : Nat} {s : List Nat} (h1 : d < u.length) (e : v = u.take d ++ c :: s) : v.getD d 0 = c := by
  subst e
  rw [List.getD_eq_getElem?_getD, List.getElem?_append_right (by rw [List.length_take]; omega), List.length_take, Nat.min_eq_left (by omega)]
  simp
theorem getD_take {u : List Nat} {l d : Nat} (h : d < l) : (u.take l).getD d 0 = u.getD d 0 := by
  rw [List.getD_eq_getElem?_getD, List.getD_eq_getElem?_getD, List.getElem?_take, if_pos h]
theorem bt_take {u : List Nat} {l : Nat} : ¬ Bt u (u.take l) := by
  rintro ⟨d, c, s, h1, h2, e⟩
  have hd : d < l := by
    have := congrArg List.length e
    simp at this
    omega
  have := Bt.at h1 e
  rw [getD_take hd] at this
  omega
theorem Bt.cut {u v x : List Nat} (h : Bt u (v ++ x)) : Bt u v ∨ (v = u.take v.length ∧ ∃ d c s, v.length ≤ d ∧ d < u.length ∧ u.getD d 0 < c ∧ v ++ x = u.take d ++ c :: s) := by
  obtain ⟨d, c, s, h1, h2, e⟩ := h
  by_cases hd : d < v.length
  · left
    refine ⟨d, c, s.take (v.length - d - 1), h1, h2, ?_⟩
    have := congrArg (List.take v.length) e
    rw [List.take_left] at this
    rw [this, List.take_append]
    rw [List.take_of_length_le (by simp; omega), List.length_take, Nat.min_eq_left (by omega)]
    rw [show v.length - d = (v.length - d - 1) + 1 by omega, List.take_succ_cons]
    simp
    omega
  · right
    refine ⟨?_, d, c, s, by omega, h1, h2, e⟩
    have := congrArg (List.take v.length) e
    rw [List.take_left, List.take_append, List.length_take, show v.length - min d u.length = 0 by omega, List.take_zero, List.append_nil, List.take_take, Nat.min_eq_left (by omega)] at this
    exact this
/-- all that is left from any place on is greater -/
def BB (u v : List Nat) : Prop := ∀ i, i < v.length → Bt u (v.drop i)
theorem BB.nil {u : List Nat} : BB u [] := fun i h => by simp at h
theorem nk_at {u : List Nat} (hN : Nk u) {i d c : Nat} (hi : i ≤ d) (hd : d < u.length) (hc : u.getD d 0 < c) (s : List Nat) : Bt u ((u.drop i).take (d - i) ++ c :: s) := by
  have hp := nk_pieces hN (k := i) (l := d - i + 1) (by omega)
  rw [take_one (by simp; omega : d - i < (u.drop i).length), take_one (by omega : d - i < u.length)] at hp
  have e1 : (u.drop i).getD (d - i) 0 = u.getD d 0 := by
    rw [List.getD_eq_getElem?_getD, List.getD_eq_getElem?_getD, List.getElem?_drop, show i + (d - i) = d by omega]
  rw [e1] at hp
  have hl : ((u.drop i).take (d - i)).length = (u.take (d - i)).length := by simp; omega
  rcases lex_tri ((u.drop i).take (d - i)) (u.take (d - i)) with h | h | h
  · exact absurd (lex_app h (by omega) _ _) hp
  · rw [h, lex_pre, List.cons_lt_cons_iff] at hp
    refine ⟨d - i, c, s, by omega, ?_, by rw [h]⟩
    have : ¬ u.getD d 0 < u.getD (d - i) 0 := fun z => hp (.inl z)
    omega
  · obtain ⟨e, c', s', h1, h2, h3⟩ := gt_split hl.symm h
    have he : e < d - i := by simp at h1; omega
    rw [h3]
    refine ⟨e, c', s' ++ c :: s, by omega, ?_, ?_⟩
    · rwa [getD_take he] at h2
    · rw [List.take_take, Nat.min_eq_left (by omega)]
      simp
theorem BB.cons {u : List Nat} (hN : Nk u) {d c : Nat} {s : List Nat} (hd : d < u.length) (hc : u.getD d 0 < c) (hs : BB u s) : BB u (u.take d ++ c :: s) := fun i hi => by
  by_cases h : i ≤ d
  · rw [List.drop_append_of_le_length (by simp; omega), List.drop_take]
    exact nk_at hN h hd hc s
  · have hl : (u.take d).length = d := by simp; omega
    rw [List.drop_append, hl, List.drop_of_length_le (by omega), List.nil_append, show i - d = (i - d - 1) + 1 by omega, List.drop_succ_cons]
    refine hs _ ?_
    rw [List.length_append, hl, List.length_cons] at hi
    omega
theorem BB.tail {u : List Nat} {d c : Nat} {s : List Nat} (hd : d ≤ u.length) (h : BB u (u.take d ++ c :: s)) : BB u s := fun i hi => by
  have hl : (u.take d).length = d := by simp; omega
  have := h (d + 1 + i) (by rw [List.length_append, hl, List.length_cons]; omega)
  rwa [List.drop_append, hl, List.drop_of_length_le (by omega), List.nil_append, show d + 1 + i - d = i + 1 by omega, List.drop_succ_cons] at this
theorem BB.rots {u v : List Nat} (h : BB u v) (hl : v.length = u.length) : ∀ i, i < v.length → u < rot v i := fun i hi => by
  rw [← bt_iff (by rw [rot_len, hl])]
  exact (h i hi).app _
/-- a parting is told by what is parted -/
theorem bt_uniq {u : List Nat} {d c d' c' : Nat} {s s' : List Nat} (h1 : d < u.length) (h2 : u.getD d 0 < c) (h3 : d' < u.length) (h4 : u.getD d' 0 < c') (e : u.take d ++ c :: s = u.take d' ++ c' :: s') : d = d' ∧ c = c' ∧ s = s' := by
  have key : ∀ {d c d' c' : Nat} {s s' : List Nat}, d < u.length → d' < u.length → u.getD d 0 < c → u.take d ++ c :: s = u.take d' ++ c' :: s' → ¬ d < d' := by
    intro d c d' c' s s' h1 h3 h2 e hlt
    have a := Bt.at h1 e.symm
    rw [List.getD_eq_getElem?_getD, List.getElem?_append_left (by simp; omega), ← List.getD_eq_getElem?_getD, getD_take hlt] at a
    omega
  have hd : d = d' := by
    have a := key h1 h3 h2 e
    have b := key h3 h1 h4 e.symm
    omega
  subst hd
  have := List.append_cancel_left e
  injection this with a b
  exact ⟨rfl, a, b⟩
theorem rot_inj {v w : List Nat} {p : Nat} (hl : v.length = w.length) (h : rot v p = rot w p) : v = w := by
  unfold rot at h
  obtain ⟨h1, h2⟩ := List.append_inj h (by simp [hl])
  rw [← List.take_append_drop p v, ← List.take_append_drop p w, h1, h2]
/-- two cuts, each within the first part: alike -/
theorem cut_uniq {u v1 v2 : List Nat} {p1 p2 : Nat} (hl : v1.length = v2.length) (hb : BB u v1) (h2 : v2.take p2 = u.take p2) (h12 : p1 ≤ p2) (hp : p2 < v2.length) (hu : p2 ≤ u.length) (e : rot v1 p1 = rot v2 p2) : p1 = p2 := by
  by_cases h : p1 = p2
  · exact h
  · exfalso
    have e2 : rot v2 p2 = rot (rot v2 (p2 - p1)) p1 := by
      rw [rot_rot _ _ _ (by omega) (by omega) (by omega), Nat.mod_eq_of_lt (by omega)]
      congr 1; omega
    rw [e2] at e
    have e3 : v1 = rot v2 (p2 - p1) := rot_inj (by rw [rot_len]; exact hl) e
    have hk : v2.take (p2 - p1) = u.take (p2 - p1) := by
      have := congrArg (List.take (p2 - p1)) h2
      rwa [List.take_take, List.take_take, Nat.min_eq_left (by omega)] at this
    have := hb (v2.length - (p2 - p1)) (by omega)
    rw [e3] at this
    unfold rot at this
    rw [List.drop_append, List.length_drop, Nat.sub_self, List.drop_zero, List.drop_of_length_le (by simp), List.nil_append, hk] at this
    exact bt_take this
theorem max_nat {P : Nat → Prop} : ∀ (n : Nat), P 0 → ∃ p, p ≤ n ∧ P p ∧ ∀ q, q ≤ n → P q → q ≤ p
  | 0, h => ⟨0, Nat.le_refl _, h, fun q hq _ => hq⟩
  | n + 1, h => by
    by_cases hp : P (n + 1)
    · exact ⟨n + 1, Nat.le_refl _, hp, fun q hq _ => hq⟩
    · obtain ⟨p, h1, h2, h3⟩ := max_nat (P := P) n h
      refine ⟨p, by omega, h2, fun q hq hP => ?_⟩
      by_cases e : q = n + 1
      · subst e; exact absurd hP hp
      · exact h3 q (by omega) hP
/-- each word of which all turns are greater has a cut -/
theorem cut_ex {u w : List Nat} (hN : Nk u) (hl : w.length = u.length) (h0 : 0 < u.length) (hw : ∀ i, i < w.length → u < rot w i) :
    ∃ p v d c s, p ≤ d ∧ d < u.length ∧ u.getD d 0 < c ∧ v = u.take d ++ c :: s ∧ BB u v ∧ v.length = u.length ∧ rot v p = w ∧ p < v.length := by
  obtain ⟨p, hp, hs, hmax⟩ := max_nat (P := fun p => w.drop (w.length - p) = u.take p) (u.length - 1) (by simp)
  have hvl : (rot w (w.length - p)).length = u.length := by rw [rot_len, hl]
  have hrot : rot (rot w (w.length - p)) p = w := by
    rw [rot_rot _ _ _ (by omega) (by omega) (by omega), show w.length - p + p = w.length by omega, Nat.mod_self, rot_zero]
  have hall : ∀ i, i < w.length → u < rot (rot w (w.length - p)) i := fun i hi => by
    rw [rot_rot _ _ _ (by omega) (by omega) (by omega)]
    exact hw _ (Nat.mod_lt _ (by omega))
  have hpre : (rot w (w.length - p)).take p = u.take p := by
    unfold rot
    rw [List.take_append_of_le_length (by simp; omega), hs, List.take_take, Nat.min_self]
  have hend : w = (rot w (w.length - p)).drop p ++ u.take p := by
    conv => lhs; rw [← hrot]
    unfold rot at hpre ⊢
    rw [hpre]
  generalize rot w (w.length - p) = v at hvl hrot hall hpre hend
  obtain ⟨d, c, s, h1, h2, h3⟩ := (bt_iff hvl.symm).mpr (by have := hall 0 (by omega); rwa [rot_zero] at this)
  have hpd : p ≤ d := by
    by_cases h : d < p
    · have a := Bt.at h1 h3
      rw [← getD_take (u := v) h, hpre, getD_take h] at a
      omega
    · omega
  refine ⟨p, v, d, c, s, hpd, h1, h2, h3, fun i hi => ?_, hvl, hrot, by omega⟩
  by_cases hid : i ≤ d
  · rw [h3, List.drop_append_of_le_length (by simp; omega), List.drop_take]
    exact nk_at hN hid h1 h2 s
  · have hG := (bt_iff (u := u) (v := rot v i) (by rw [rot_len, hvl])).mpr (hall i (by omega))
    have hG2 : Bt u (v.drop i ++ v.take i) := hG
    rcases hG2.cut with h | ⟨h4, e, c', s', he, h5, h6, h7⟩
    · exact h
    · exfalso
      have hdl : (v.drop i).length = u.length - i := by simp [hvl]
      rw [hdl] at h4 he
      -- the end ahead of place p of the turned word
      have hw2 : w.drop (w.length - (u.length - i + p)) = u.take (u.length - i) ++ u.take p := by
        rw [hl]
        conv => lhs; rw [hend]
        rw [List.drop_append_of_le_length (by simp; omega), List.drop_drop, show p + (u.length - (u.length - i + p)) = i by omega, h4.symm]
      by_cases hep : e < u.length - i + p
      · have h8 : (u.drop (u.length - i)).take (e - (u.length - i)) = u.take (e - (u.length - i)) := by
          have : ((v.drop i ++ v.take i).drop (u.length - i)).take (e - (u.length - i)) = ((u.take e ++ c' :: s').drop (u.length - i)).take (e - (u.length - i)) := by rw [h7]
          rw [List.drop_append, hdl, Nat.sub_self, List.drop_zero, List.drop_of_length_le (by omega), List.nil_append, List.take_take, Nat.min_eq_left (by omega)] at this
          rw [List.drop_append_of_le_length (by simp; omega), List.drop_take, List.take_append_of_le_length (by simp; omega), List.take_take, Nat.min_self] at this
          rw [← this]
          have := congrArg (List.take (e - (u.length - i))) hpre
          rw [List.take_take, List.take_take, Nat.min_eq_left (by omega)] at this
          exact this
        have h9 : c' = u.getD (e - (u.length - i)) 0 := by
          have a := Bt.at h5 h7
          rw [List.getD_eq_getElem?_getD, List.getElem?_append_right (by omega), hdl, List.getElem?_take, if_pos (by omega), ← List.getD_eq_getElem?_getD] at a
          rw [← a, ← getD_take (u := v) (l := p) (by omega), hpre, getD_take (by omega)]
        have hk := nk_pieces hN (k := u.length - i) (l := e - (u.length - i) + 1) (by omega)
        rw [take_one (by simp; omega : e - (u.length - i) < (u.drop (u.length - i)).length), take_one (by omega : e - (u.length - i) < u.length), h8, lex_pre, List.cons_lt_cons_iff] at hk
        apply hk
        left
        rw [List.getD_eq_getElem?_getD, List.getElem?_drop, ← List.getD_eq_getElem?_getD, show u.length - i + (e - (u.length - i)) = e by omega, ← h9]
        exact h6
      · have h8 : u.take (u.length - i + p) = u.take (u.length - i) ++ u.take p := by
          have := congrArg (List.take (u.length - i + p)) h7
          have r : (u.take e ++ c' :: s').take (u.length - i + p) = u.take (u.length - i + p) := by
            rw [List.take_append_of_le_length (by simp; omega), List.take_take, Nat.min_eq_left (by omega)]
          rw [r] at this
          rw [← this, List.take_append, hdl, List.take_of_length_le (by omega), show u.length - i + p - (u.length - i) = p by omega, List.take_take, Nat.min_eq_left (by omega), hpre, ← h4]
        rw [← h8] at hw2
        have := hmax (u.length - i + p) (by omega) hw2
        omega
end
end Z
namespace Z
noncomputable section
open PySem PySem.Spec PySem.P PyProof.Rows L2
/-- a property as a truth value -/
def dcd (p : Prop) : Bool := @decide p (Classical.propDecidable p)
theorem dcd_iff {p : Prop} : dcd p = true ↔ p := @decide_eq_true_iff p (Classical.propDecidable p)
theorem dcd_bool {p : Prop} {b : Bool} (h : p ↔ b = true) : dcd p = b := by
  cases b with
  | true => exact dcd_iff.mpr (h.mpr rfl)
  | false =>
    cases q : dcd p with
    | false => rfl
    | true => exact absurd (h.mp (dcd_iff.mp q)) (by simp)
/-- all words of a length with a property -/
def selW (k t : Nat) (p : List Nat → Prop) : List (List Nat) := (allW k t).filter fun v => dcd (p v)
theorem mem_selW {k t : Nat} (h1 : 1 ≤ k) (h2 : k ≤ 6) {p : List Nat → Prop} {v : List Nat} : v ∈ selW k t p ↔ v.length = t ∧ (∀ x ∈ v, 97 ≤ x ∧ x ≤ 96 + k) ∧ p v := by
  unfold selW
  rw [List.mem_filter, mem_allW h1 h2, dcd_iff, and_assoc]
theorem nodup_lt {l : List (List Nat)} (h : l.Pairwise (· < ·)) : l.Nodup := h.imp fun {a b} hl e => by
  subst e; exact List.lt_irrefl _ hl
theorem nodup_selW {k t : Nat} (h1 : 1 ≤ k) (h2 : k ≤ 6) {p : List Nat → Prop} : (selW k t p).Nodup := nodup_lt ((allW_sorted h1 h2 t).filter _)
def cnt (k t : Nat) (p : List Nat → Prop) : Nat := (selW k t p).length
theorem cnt_eq {k t : Nat} (h1 : 1 ≤ k) (h2 : k ≤ 6) {p : List Nat → Prop} {l : List (List Nat)} (hn : l.Nodup) (hm : ∀ v, v ∈ l ↔ v.length = t ∧ (∀ x ∈ v, 97 ≤ x ∧ x ≤ 96 + k) ∧ p v) : cnt k t p = l.length :=
  ((List.perm_ext_iff_of_nodup (nodup_selW h1 h2) hn).mpr fun v => by rw [mem_selW h1 h2, hm]).length_eq
theorem cnt_congr {k t : Nat} (h1 : 1 ≤ k) (h2 : k ≤ 6) {p q : List Nat → Prop} (h : ∀ v, v.length = t → (∀ x ∈ v, 97 ≤ x ∧ x ≤ 96 + k) → (p v ↔ q v)) : cnt k t p = cnt k t q :=
  cnt_eq h1 h2 (nodup_selW h1 h2) fun v => by
    rw [mem_selW h1 h2]
    constructor
    · rintro ⟨a, b, c⟩; exact ⟨a, b, (h v a b).mpr c⟩
    · rintro ⟨a, b, c⟩; exact ⟨a, b, (h v a b).mp c⟩
theorem filter_split {α : Type} (p q : α → Bool) : ∀ l : List α, (l.filter p).length = (l.filter fun x => p x && q x).length + (l.filter fun x => p x && !q x).length
  | [] => rfl
  | a :: l => by
    have ih := filter_split p q l
    cases hp : p a <;> cases hq : q a <;> simp [hp, hq] <;> omega
theorem cnt_split {k t : Nat} (p q : List Nat → Prop) : cnt k t p = cnt k t (fun v => p v ∧ q v) + cnt k t (fun v => p v ∧ ¬ q v) := by
  unfold cnt selW
  rw [filter_split _ (fun v => dcd (q v))]
  have e1 : (fun v => dcd (p v) && dcd (q v)) = fun v => dcd (p v ∧ q v) := by
    funext v
    exact (dcd_bool (by rw [Bool.and_eq_true, dcd_iff, dcd_iff])).symm
  have e2 : (fun v => dcd (p v) && !dcd (q v)) = fun v => dcd (p v ∧ ¬ q v) := by
    funext v
    refine (dcd_bool ?_).symm
    rw [Bool.and_eq_true, dcd_iff, Bool.not_eq_true', ← Bool.not_eq_true, dcd_iff]
  rw [e1, e2]
theorem cnt_all {k : Nat} (h2 : k ≤ 6) (t : Nat) : cnt k t (fun _ => True) = k ^ t := by
  unfold cnt selW
  rw [← allW_len h2 t]
  congr 1
  exact List.filter_eq_self.mpr fun v _ => dcd_iff.mpr trivial
theorem cnt_none {k t : Nat} (h1 : 1 ≤ k) (h2 : k ≤ 6) {p : List Nat → Prop} (h : ∀ v, v.length = t → (∀ x ∈ v, 97 ≤ x ∧ x ≤ 96 + k) → ¬ p v) : cnt k t p = 0 :=
  cnt_eq h1 h2 (l := []) List.nodup_nil fun v => ⟨fun h => (by cases h), fun ⟨a, b, c⟩ => absurd c (h v a b)⟩
/-- the letters beyond a letter -/
def ups (k x : Nat) : List Nat := (abc k).filter fun c => decide (x < c)
theorem mem_ups {k x c : Nat} (h1 : 1 ≤ k) (h2 : k ≤ 6) : c ∈ ups k x ↔ (97 ≤ c ∧ c ≤ 96 + k) ∧ x < c := by
  unfold ups
  rw [List.mem_filter, mem_abc (by omega) (by omega), decide_eq_true_iff]
  constructor <;> (rintro ⟨a, b⟩; exact ⟨by omega, b⟩)
theorem nodup_ups {k x : Nat} : (ups k x).Nodup := ((abc_sorted k).filter _).imp fun {a b} h e => by omega
def dn (k : Nat) (u : List Nat) (j : Nat) : Nat := (ups k (u.getD j 0)).length
theorem sum_const {α : Type} (x : Nat) : ∀ l : List α, (l.map fun _ => x).sum = l.length * x
  | [] => by simp
  | a :: l => by
    rw [List.map_cons, List.sum_cons, sum_const x l, List.length_cons, Nat.add_mul, Nat.one_mul, Nat.add_comm]
theorem bT_zero {k : Nat} {u : List Nat} : cnt k 0 (BB u) = 1 := by
  unfold cnt selW allW
  rw [List.filter_eq_self.mpr]
  · rfl
  · intro v hv
    rw [List.mem_singleton.mp hv]
    exact dcd_iff.mpr BB.nil
theorem bT_succ {k : Nat} {u : List Nat} (h1 : 1 ≤ k) (h2 : k ≤ 6) (hN : Nk u) (hu : ∀ x ∈ u, 97 ≤ x ∧ x ≤ 96 + k) {t : Nat} (h0 : 0 < t) (ht : t ≤ u.length) :
    cnt k t (BB u) = ((List.range t).map fun d => dn k u d * cnt k (t - 1 - d) (BB u)).sum := by
  have hl : cnt k t (BB u) = ((List.range t).flatMap fun d => (ups k (u.getD d 0)).flatMap fun c => (selW k (t - 1 - d) (BB u)).map fun s => u.take d ++ c :: s).length := by
    refine cnt_eq h1 h2 ?_ fun v => ?_
    · refine List.pairwise_flatMap.mpr ⟨fun d hd => ?_, ?_⟩
      · have hd := List.mem_range.mp hd
        refine List.pairwise_flatMap.mpr ⟨fun c hc => ?_, ?_⟩
        · refine List.pairwise_map.mpr ((nodup_selW h1 h2).imp fun {a b} h e => h ?_)
          have := List.append_cancel_left e
          injection this
        · refine nodup_ups.imp fun {a b} h x hx y hy e => h ?_
          obtain ⟨s, -, rfl⟩ := List.mem_map.mp hx
          obtain ⟨s', -, rfl⟩ := List.mem_map.mp hy
          have := List.append_cancel_left e
          injection this
      · refine (List.nodup_range (n := t)).imp_of_mem fun {a b} ha hb h x hx y hy e => h ?_
        have ha := List.mem_range.mp ha
        have hb := List.mem_range.mp hb
        obtain ⟨c, hc, hx⟩ := List.mem_flatMap.mp hx
        obtain ⟨s, -, rfl⟩ := List.mem_map.mp hx
        obtain ⟨c', hc', hy⟩ := List.mem_flatMap.mp hy
        obtain ⟨s', -, rfl⟩ := List.mem_map.mp hy
        exact (bt_uniq (by omega) ((mem_ups h1 h2).mp hc).2 (by omega) ((mem_ups h1 h2).mp hc').2 e).1
    · simp only [List.mem_flatMap, List.mem_map, List.mem_range, mem_ups h1 h2, mem_selW h1 h2]
      constructor
      · rintro ⟨d, hd, c, ⟨hc, hc2⟩, s, ⟨hs1, hs2, hs3⟩, rfl⟩
        refine ⟨by simp; omega, fun x hx => ?_, BB.cons hN (by omega) hc2 hs3⟩
        rcases List.mem_append.mp hx with h | h
        · exact hu x (List.mem_of_mem_take h)
        · rcases List.mem_cons.mp h with rfl | h
          · exact hc
          · exact hs2 x h
      · rintro ⟨hv1, hv2, hv3⟩
        have := hv3 0 (by omega)
        rw [List.drop_zero] at this
        obtain ⟨d, c, s, hd, hc, rfl⟩ := this
        have hl : (u.take d).length = d := by simp; omega
        rw [List.length_append, hl, List.length_cons] at hv1
        exact ⟨d, by omega, c, ⟨hv2 c (by simp), hc⟩, s, ⟨by omega, fun x hx => hv2 x (by simp [hx]), hv3.tail (by omega)⟩, rfl⟩
  rw [hl, List.length_flatMap]
  congr 1
  refine List.map_congr_left fun d _ => ?_
  rw [List.length_flatMap]
  have : (fun c => ((selW k (t - 1 - d) (BB u)).map fun s => u.take d ++ c :: s).length) = fun _ => cnt k (t - 1 - d) (BB u) := by
    funext c; simp [cnt]
  rw [this, sum_const]
  rfl
/-- words of which all turns are greater than a least word -/
theorem above_count {k : Nat} {u : List Nat} (h1 : 1 ≤ k) (h2 : k ≤ 6) (hN : Nk u) (hu : ∀ x ∈ u, 97 ≤ x ∧ x ≤ 96 + k) (h0 : 0 < u.length) :
    cnt k u.length (fun w => ∀ i, i < w.length → u < rot w i) = ((List.range u.length).map fun d => (d + 1) * dn k u d * cnt k (u.length - 1 - d) (BB u)).sum := by
  have hl : cnt k u.length (fun w => ∀ i, i < w.length → u < rot w i) = ((List.range u.length).flatMap fun d => (List.range (d + 1)).flatMap fun p => (ups k (u.getD d 0)).flatMap fun c => (selW k (u.length - 1 - d) (BB u)).map fun s => rot (u.take d ++ c :: s) p).length := by
    have tk : ∀ {d c : Nat} {s : List Nat} {p : Nat}, p ≤ d → d < u.length → (u.take d ++ c :: s).take p = u.take p := fun hp hd => by
      rw [List.take_append_of_le_length (by simp; omega), List.take_take, Nat.min_eq_left hp]
    have ln : ∀ {d c : Nat} {s : List Nat}, d < u.length → s.length = u.length - 1 - d → (u.take d ++ c :: s).length = u.length := fun hd hs => by
      simp; omega
    refine cnt_eq h1 h2 ?_ fun v => ?_
    · refine List.pairwise_flatMap.mpr ⟨fun d hd => ?_, ?_⟩
      · have hd := List.mem_range.mp hd
        refine List.pairwise_flatMap.mpr ⟨fun p hp => ?_, ?_⟩
        · refine List.pairwise_flatMap.mpr ⟨fun c hc => ?_, ?_⟩
          · refine List.pairwise_map.mpr ((nodup_selW h1 h2).imp_of_mem fun {a b} ha hb h e => h ?_)
            have ha := ((mem_selW h1 h2).mp ha).1
            have hb := ((mem_selW h1 h2).mp hb).1
            have := List.append_cancel_left (rot_inj (by simp; omega) e)
            injection this
          · refine nodup_ups.imp fun {a b} h x hx y hy e => h ?_
            obtain ⟨s, hs, rfl⟩ := List.mem_map.mp hx
            obtain ⟨s', hs', rfl⟩ := List.mem_map.mp hy
            have hs := ((mem_selW h1 h2).mp hs).1
            have hs' := ((mem_selW h1 h2).mp hs').1
            have := List.append_cancel_left (rot_inj (by simp; omega) e)
            injection this
        · refine (List.nodup_range (n := d + 1)).imp_of_mem fun {a b} ha hb h x hx y hy e => h ?_
          have ha := List.mem_range.mp ha
          have hb := List.mem_range.mp hb
          obtain ⟨c, hc, hx⟩ := List.mem_flatMap.mp hx
          obtain ⟨s, hs, rfl⟩ := List.mem_map.mp hx
          obtain ⟨c', hc', hy⟩ := List.mem_flatMap.mp hy
          obtain ⟨s', hs', rfl⟩ := List.mem_map.mp hy
          have hs := (mem_selW h1 h2).mp hs
          have hs' := (mem_selW h1 h2).mp hs'
          have hc := ((mem_ups h1 h2).mp hc).2
          have hc' := ((mem_ups h1 h2).mp hc').2
          have l1 := ln (c := c) hd hs.1
          have l2 := ln (c := c') hd hs'.1
          by_cases hab : a ≤ b
          · exact cut_uniq (l1.trans l2.symm) (BB.cons hN hd hc hs.2.2) (tk (by omega) hd) hab (by omega) (by omega) e
          · exact (cut_uniq (l2.trans l1.symm) (BB.cons hN hd hc' hs'.2.2) (tk (by omega) hd) (by omega) (by omega) (by omega) e.symm).symm
      · refine (List.nodup_range (n := u.length)).imp_of_mem fun {a b} ha hb h x hx y hy e => h ?_
        have ha := List.mem_range.mp ha
        have hb := List.mem_range.mp hb
        obtain ⟨p, hp, hx⟩ := List.mem_flatMap.mp hx
        obtain ⟨c, hc, hx⟩ := List.mem_flatMap.mp hx
        obtain ⟨s, hs, rfl⟩ := List.mem_map.mp hx
        obtain ⟨p', hp', hy⟩ := List.mem_flatMap.mp hy
        obtain ⟨c', hc', hy⟩ := List.mem_flatMap.mp hy
        obtain ⟨s', hs', rfl⟩ := List.mem_map.mp hy
        have hp := List.mem_range.mp hp
        have hp' := List.mem_range.mp hp'
        have hs := (mem_selW h1 h2).mp hs
        have hs' := (mem_selW h1 h2).mp hs'
        have hc := ((mem_ups h1 h2).mp hc).2
        have hc' := ((mem_ups h1 h2).mp hc').2
        have l1 := ln (c := c) ha hs.1
        have l2 := ln (c := c') hb hs'.1
        have hpp : p = p' := by
          by_cases hab : p ≤ p'
          · exact cut_uniq (l1.trans l2.symm) (BB.cons hN ha hc hs.2.2) (tk (by omega) hb) hab (by omega) (by omega) e
          · exact (cut_uniq (l2.trans l1.symm) (BB.cons hN hb hc' hs'.2.2) (tk (by omega) ha) (by omega) (by omega) (by omega) e.symm).symm
        subst hpp
        exact (bt_uniq ha hc hb hc' (rot_inj (l1.trans l2.symm) e)).1
    · simp only [List.mem_flatMap, List.mem_map, List.mem_range, mem_ups h1 h2, mem_selW h1 h2]
      constructor
      · rintro ⟨d, hd, p, hp, c, ⟨hc, hc2⟩, s, ⟨hs1, hs2, hs3⟩, rfl⟩
        have l1 := ln (c := c) hd hs1
        refine ⟨by rw [rot_len]; exact l1, fun x hx => ?_, fun i hi => ?_⟩
        · have hx' : x ∈ u.take d ++ c :: s := by
            unfold rot at hx
            rcases List.mem_append.mp hx with h | h
            · exact List.mem_of_mem_drop h
            · exact List.mem_of_mem_take h
          rcases List.mem_append.mp hx' with h | h
          · exact hu x (List.mem_of_mem_take h)
          · rcases List.mem_cons.mp h with rfl | h
            · exact hc
            · exact hs2 x h
        · rw [rot_len] at hi
          rw [rot_rot _ _ _ (by omega) (by omega) (by omega)]
          exact (BB.cons hN hd hc2 hs3).rots l1 _ (Nat.mod_lt _ (by omega))
      · rintro ⟨hv1, hv2, hv3⟩
        obtain ⟨p, w, d, c, s, hp, hd, hc, rfl, hB, hwl, rfl, hpl⟩ := cut_ex hN hv1 h0 hv3
        have hl : (u.take d).length = d := by simp; omega
        have hmem : ∀ x ∈ c :: s, x ∈ rot (u.take d ++ c :: s) p := fun x hx => by
          unfold rot
          rw [List.drop_append_of_le_length (by omega)]
          exact List.mem_append_left _ (List.mem_append_right _ hx)
        rw [List.length_append, hl, List.length_cons] at hwl
        exact ⟨d, hd, p, by omega, c, ⟨hv2 c (hmem c (by simp)), hc⟩, s, ⟨by omega, fun x hx => hv2 x (hmem x (by simp [hx])), hB.tail (by omega)⟩, rfl⟩
  rw [hl, List.length_flatMap]
  congr 1
  refine List.map_congr_left fun d _ => ?_
  rw [List.length_flatMap]
  have h3 : (fun p => ((ups k (u.getD d 0)).flatMap fun c => (selW k (u.length - 1 - d) (BB u)).map fun s => rot (u.take d ++ c :: s) p).length) = fun _ => dn k u d * cnt k (u.length - 1 - d) (BB u) := by
    funext p
    rw [List.length_flatMap]
    have : (fun c => ((selW k (u.length - 1 - d) (BB u)).map fun s => rot (u.take d ++ c :: s) p).length) = fun _ => cnt k (u.length - 1 - d) (BB u) := by
      funext c; simp [cnt]
    rw [this, sum_const]
    rfl
  rw [h3, sum_const, List.length_range, Nat.mul_assoc]
end
end Z
namespace Z
noncomputable section
open PySem PySem.Spec PySem.P PyProof.Rows L2
/-! ### loops downward, over letters -/
theorem downD_get {i j : Int} {k : Nat} {d : D} (h : (downD i j)[k]? = some d) : d = .int (i - k) ∧ (k : Int) < i - j := by
  unfold downD at h
  rw [List.getElem?_map] at h
  by_cases hk : k < (i - j).toNat
  · rw [List.getElem?_range hk] at h
    simp at h
    exact ⟨h.symm, by omega⟩
  · rw [List.getElem?_eq_none (by simpa using hk)] at h
    cases h
@[simp] theorem downD_len (i j : Int) : (downD i j).length = (i - j).toNat := by simp [downD]
theorem abc_range {k : Nat} (h : k ≤ 6) : abc k = (List.range k).map (97 + ·) := by
  have : k = 0 ∨ k = 1 ∨ k = 2 ∨ k = 3 ∨ k = 4 ∨ k = 5 ∨ k = 6 := by omega
  rcases this with rfl | rfl | rfl | rfl | rfl | rfl | rfl <;> rfl
theorem abc_get {k i c : Nat} (h : k ≤ 6) (e : (abc k)[i]? = some c) : c = 97 + i ∧ i < k := by
  rw [abc_range h, List.getElem?_map] at e
  by_cases hi : i < k
  · rw [List.getElem?_range hi] at e
    simp at e
    exact ⟨e.symm, hi⟩
  · rw [List.getElem?_eq_none (by simpa using hi)] at e
    cases e
theorem abc_drop_get {k m i : Nat} {d : D} (h : k ≤ 6) (e : (((abc k).drop m).map fun c => D.str [c])[i]? = some d) : d = .str [97 + (m + i)] ∧ m + i < k := by
  rw [List.getElem?_map, List.getElem?_drop] at e
  cases q : (abc k)[m + i]? with
  | none => rw [q] at e; cases e
  | some c =>
    rw [q] at e
    obtain ⟨rfl, h2⟩ := abc_get h q
    cases e
    exact ⟨rfl, h2⟩
theorem abc_take_get {k m i : Nat} {d : D} (h : k ≤ 6) (e : (((abc k).take m).map fun c => D.str [c])[i]? = some d) : d = .str [97 + i] ∧ i < m ∧ i < k := by
  rw [List.getElem?_map, List.getElem?_take] at e
  by_cases hi : i < m
  · rw [if_pos hi] at e
    cases q : (abc k)[i]? with
    | none => rw [q] at e; cases e
    | some c =>
      rw [q] at e
      obtain ⟨rfl, h2⟩ := abc_get h q
      cases e
      exact ⟨rfl, hi, h2⟩
  · rw [if_neg hi] at e
    cases e
theorem getD_mem {w : List Nat} {j : Nat} (h : j < w.length) : w.getD j 0 ∈ w := by
  rw [List.getD_eq_getElem?_getD, List.getElem?_eq_getElem h]
  simp
theorem ixD_getD {w : List Nat} {j : Nat} {i : Int} (hi : i = j) (h : j < w.length) (hl : w.length ≤ SZ) : ixD (.str w) (.int i) = .ok (.str [w.getD j 0]) := by
  subst hi
  refine ixD_s w j (by omega) _ hl ?_
  rw [Int.toNat_natCast, List.getD_eq_getElem?_getD, List.getElem?_eq_getElem h]
  rfl
/-- what is wanted behind one turn of a loop -/
def post (P : SS → Prop) (Q : RS → Prop) : RS → Prop
  | .nx s => P s
  | .ct s => P s
  | .bk s => Q (.nx s)
  | .rt b d => Q (.rt b d)
  | .ex c vs s => Q (.ex c vs s)
  | .bad => False
section
variable {P : SS → Prop} {Q : RS → Prop} {s : SS}
@[simp] theorem post_nx : post P Q (.nx s) = P s := rfl
@[simp] theorem post_ct : post P Q (.ct s) = P s := rfl
@[simp] theorem post_bk : post P Q (.bk s) = Q (.nx s) := rfl
@[simp] theorem post_rt (b : Bool) (d : D) : post P Q (.rt b d) = Q (.rt b d) := rfl
@[simp] theorem post_ex (c : Nat) (vs : List D) : post P Q (.ex c vs s) = Q (.ex c vs s) := rfl
end
theorem forL_post {step : D → SS → RS} (P : Nat → SS → Prop) (Q : RS → Prop) (ds : List D) (s : SS) (h0 : P 0 s)
    (hs : ∀ i d s, ds[i]? = some d → P i s → post (P (i + 1)) Q (step d s)) (he : ∀ s, P ds.length s → Q (.nx s)) : Q (forL step ds s) :=
  forL_ind P Q ds s h0 (fun i d s h p => by
    have := hs i d s h p
    revert this
    cases step d s <;> exact fun h => h) he
/-- what next_least tells -/
def nextV (o : Option (List Nat)) : D := match o with
  | some r => .str r
  | none => .non
def NextP (lo top n : Nat) (w : List Nat) : Option (List Nat) → Prop
  | some r => Good lo top n r ∧ w < r ∧ ∀ g, Good lo top n g → w < g → ¬ g < r
  | none => ∀ g, Good lo top n g → ¬ w < g
theorem lt_split {w x : List Nat} (hl : x.length = w.length) (h : x < w) : ∃ j c s, j < w.length ∧ c < w.getD j 0 ∧ x = w.take j ++ c :: s := by
  rcases lex_iff.mp h with ⟨z, hz, rfl⟩ | ⟨p, c, d, y, z, rfl, rfl, hcd⟩
  · rw [List.length_append] at hl
    have := List.length_pos_iff.mpr hz
    omega
  · exact ⟨p.length, c, y, by simp, by simpa using hcd, by simp⟩
theorem LastP.uniq {lo top n : Nat} {w f g : List Nat} (a : LastP lo top n w f) (b : LastP lo top n w g) : f = g := by
  rcases lex_tri f g with h | h | h
  · exact absurd h (a.2.2 _ b.1 b.2.1)
  · exact h
  · exact absurd h (b.2.2 _ a.1 a.2.1)
theorem lt_of_le {a b c : List Nat} (h : ¬ b < a) (h2 : b < c) : a < c := by
  rcases lex_tri a b with h3 | h3 | h3
  · exact List.lt_trans h3 h2
  · subst h3; exact h2
  · exact absurd h3 h
theorem lt_of_lt {a b c : List Nat} (h : a < b) (h2 : ¬ c < b) : a < c := by
  rcases lex_tri b c with h3 | h3 | h3
  · exact List.lt_trans h h3
  · subst h3; exact h
  · exact absurd h3 h2
theorem le_trans' {a b c : List Nat} (h : ¬ b < a) (h2 : ¬ c < b) : ¬ c < a := fun h3 => h2 (lt_of_lt h3 h)
/-- the word ahead of a word -/
def aheadW (top : Nat) (v : List Nat) (j : Nat) : List Nat := v.take j ++ (v.getD j 0 - 1) :: List.replicate (v.length - j - 1) top
theorem ahead_le {lo top j : Nat} {v x : List Nat} (hj : j < v.length) (hlast : ∀ i, j < i → i < v.length → v.getD i 0 = lo) (hx : ∀ c ∈ x, lo ≤ c ∧ c ≤ top) (hl : x.length = v.length) (h : x < v) : ¬ aheadW top v j < x := fun hlt => by
  obtain ⟨j', c, s, h1, h2, rfl⟩ := lt_split hl h
  have hc := (hx c (by simp)).1
  have hjj : ¬ j < j' := fun z => by have := hlast j' z h1; omega
  unfold aheadW at hlt
  by_cases e : j' = j
  · subst e
    rw [lex_pre, List.cons_lt_cons_iff] at hlt
    rcases hlt with h3 | ⟨h3, h4⟩
    · omega
    · have hs : s.length = v.length - j' - 1 := by simp at hl; omega
      rw [← hs] at h4
      exact top_max s (fun a ha => (hx a (by simp [ha])).2) h4
  · rw [take_at (i := j') (j := j) (by omega) (by omega), List.append_assoc, lex_pre, List.cons_append, List.cons_lt_cons_iff] at hlt
    rcases hlt with h3 | ⟨h3, -⟩ <;> omega
theorem ahead_lt {top j : Nat} {v : List Nat} (hj : j < v.length) (h0 : 0 < v.getD j 0) : aheadW top v j < v := split_lt hj (by omega)
theorem last_ahead {lo top n j : Nat} {w r f : List Nat} (hj : j < r.length) (h0 : 0 < r.getD j 0) (hlast : ∀ i, j < i → i < r.length → r.getD i 0 = lo) (hw : ∀ c ∈ w, lo ≤ c ∧ c ≤ top) (hl : w.length = r.length)
    (hlt : w < r) (hmin : ∀ g, Good lo top n g → w < g → ¬ g < r) (hf : LastP lo top n w f) : LastP lo top n (aheadW top r j) f := by
  refine ⟨hf.1, le_trans' hf.2.1 (ahead_le hj hlast hw hl hlt), fun g hg hle => hf.2.2 g hg fun z => ?_⟩
  exact hmin g hg z (lt_of_le hle (ahead_lt hj h0))
theorem next_last {lo top n : Nat} {w r f : List Nat} (hr : NextP lo top n w (some r)) (hf : LastP lo top n w f) {o : Option (List Nat)} (ho : NextP lo top n f o) : o = some r := by
  have hfr : f < r := lt_of_le hf.2.1 hr.2.1
  cases o with
  | none => exact absurd hfr (ho r hr.1)
  | some x =>
    have a : ¬ x < r := hr.2.2 x ho.1 (by
      rcases lex_tri w x with h | h | h
      · exact h
      · subst h; exact absurd ho.2.1 (hf.2.2 _ ho.1 (List.lt_irrefl _))
      · exact absurd ho.2.1 (hf.2.2 x ho.1 fun z => List.lt_irrefl _ (List.lt_trans z h)))
    have b : ¬ r < x := ho.2.2 r hr.1 hfr
    rcases lex_tri x r with h | h | h
    · exact absurd h a
    · rw [h]
    · exact absurd h b
theorem ixD_lneg (xs : List D) (x : D) (h : xs.getLast? = some x) : ixD (.lst xs) (.int (-1)) = .ok x := by
  have h0 : xs ≠ [] := by intro e; subst e; cases h
  have := List.length_pos_iff.mpr h0
  have e : atI xs (-1) = some x := by
    unfold atI ixN
    simp
    rw [if_pos (by omega), Option.bind_some, show ((-1 : Int) + (xs.length : Int)).toNat = xs.length - 1 by omega]
    rw [List.getLast?_eq_getElem?] at h
    exact h
  unfold ixD
  simp [e]
theorem filter_last {p : List Nat → Bool} {r : List Nat} {l : List (List Nat)} (hs : l.Pairwise (· < ·)) (hr : r ∈ l) (hp : p r = true) (hm : ∀ w ∈ l, p w = true → ¬ r < w) : (l.filter p).getLast? = some r := by
  have hmem : r ∈ l.filter p := List.mem_filter.mpr ⟨hr, hp⟩
  have hs' := hs.filter p
  have hm' : ∀ w ∈ l.filter p, ¬ r < w := fun w hw => hm w (List.mem_filter.mp hw).1 (List.mem_filter.mp hw).2
  generalize l.filter p = L at *
  induction L with
  | nil => cases hmem
  | cons a L ih =>
    cases L with
    | nil => rw [List.mem_singleton.mp hmem]; rfl
    | cons b L =>
      rw [List.getLast?_cons_cons]
      rcases List.mem_cons.mp hmem with rfl | h
      · exact absurd ((List.pairwise_cons.mp hs').1 b (by simp)) (hm' b (by simp))
      · exact ih h (List.pairwise_cons.mp hs').2 fun w hw => hm' w (List.mem_cons_of_mem _ hw)
end
end Z
namespace Z
noncomputable section
open PySem PySem.Spec PySem.P PyProof.Rows L2
/-! ### int(flag) -/
def intZ : List D → R D
  | [.int i] => .ok (.int i)
  | [.bl b] => .ok (.int (if b = true then 1 else 0))
  | _ => .bad
theorem intZ_ne : NoExL intZ := fun x c vs h => by unfold intZ at h; split at h <;> cases h
section
variable {X : Cx} {C : CT}
theorem call_intZ : CallR X (.type "int") (rC C.G intZ) := by
  intro pins s σ H xs us Q I r h
  obtain ⟨F, ds, S, r2, p⟩ := h
  unfold intZ at p
  split at p
  · obtain ⟨v, rfl, b⟩ := pair1 r2
    rw [bor_int b] at r
    exact call_int1 pins s σ H _ us Q I r (.inl ⟨_, rfl, p.int S⟩)
  · obtain ⟨v, rfl, b⟩ := pair1 r2
    rw [bor_bl b] at r
    exact call_int1 pins s σ H _ us Q I r (.inr ⟨_, rfl, p.int S⟩)
  · exact p.elim
end
@[simp] theorem intZ_i (i : Int) : intZ [.int i] = .ok (.int i) := rfl
@[simp] theorem intZ_b (b : Bool) : intZ [.bl b] = .ok (.int (if b = true then 1 else 0)) := rfl
theorem good_goodW {w f : List Nat} {k : Nat} (hw : goodW w k = true) (hf : Good 97 (96 + k) w.length f) : goodW f k = true := by
  obtain ⟨w1, w2, w3⟩ := goodW_iff.mp hw
  refine goodW_iff.mpr ⟨by rw [hf.1]; exact w1, by rw [hf.1]; exact w2, fun x hx => ?_⟩
  have := hf.2.2 x hx
  omega
end
end Z
namespace Z
noncomputable section
open PySem PySem.Spec PySem.P PyProof.Rows L2
/-! ### words told again and again -/
theorem Pr.nk {w : List Nat} (h : Pr w) : Nk w := fun k hk hl => by
  by_cases h0 : k = 0
  · subst h0; rw [rot_zero] at hl; exact List.lt_irrefl _ hl
  · exact List.lt_irrefl _ (List.lt_trans hl (h.2 k (by omega) hk))
theorem repS_succ (p : List Nat) (m : Nat) : repS p (m + 1) = p ++ repS p m := by
  simp [repS, List.replicate_succ]
theorem repS_zero (p : List Nat) : repS p 0 = [] := rfl
theorem rot_repS {p : List Nat} {m k : Nat} (hp : p ≠ []) (hk : k ≤ m * p.length) (hm : 0 < m) : rot (repS p m) k = repS (rot p (k % p.length)) m := by
  have h0 := List.length_pos_iff.mpr hp
  have hkl : k % p.length < p.length := Nat.mod_lt _ h0
  apply List.ext_getElem?
  intro i
  by_cases hi : i < m * p.length
  · have hpos : 0 < m * p.length := Nat.mul_pos hm h0
    rw [rot_get _ _ _ (by rw [repS_len]; exact hk) (by rw [repS_len]; exact hi), repS_len, repS_get _ _ _ (Nat.mod_lt _ hpos)]
    rw [repS_get _ _ _ (by rw [rot_len]; exact hi), rot_len, rot_get _ _ _ (by omega) (Nat.mod_lt _ h0)]
    congr 1
    rw [Nat.mod_mod_of_dvd _ (Nat.dvd_mul_left _ _), ← Nat.add_mod]
  · rw [List.getElem?_eq_none (by rw [rot_len, repS_len]; omega), List.getElem?_eq_none (by rw [repS_len, rot_len]; omega)]
theorem repS_lt {x y : List Nat} (hl : y.length = x.length) (h : x < y) (m : Nat) : repS x (m + 1) < repS y (m + 1) := by
  rw [repS_succ, repS_succ]
  exact lex_app h (by omega) _ _
theorem repS_inj {x y : List Nat} (hl : x.length = y.length) {m : Nat} (h : repS x (m + 1) = repS y (m + 1)) : x = y := by
  rw [repS_succ, repS_succ] at h
  exact (List.append_inj h hl).1
theorem repS_lt_iff {x y : List Nat} (hl : y.length = x.length) (m : Nat) : repS x (m + 1) < repS y (m + 1) ↔ x < y := by
  constructor
  · intro h
    rcases lex_tri x y with h1 | h1 | h1
    · exact h1
    · subst h1; exact absurd h (List.lt_irrefl _)
    · exact absurd (List.lt_trans h (repS_lt hl.symm h1 m)) (List.lt_irrefl _)
  · exact fun h => repS_lt hl h m
theorem nk_repS {p : List Nat} (h : Nk p) (m : Nat) : Nk (repS p m) := fun k hk hl => by
  rw [repS_len] at hk
  cases m with
  | zero => simp at hk
  | succ m =>
    have hp : p ≠ [] := fun e => by subst e; simp at hk
    have h0 := List.length_pos_iff.mpr hp
    rw [rot_repS hp (by omega) (by omega), repS_lt_iff (by rw [rot_len])] at hl
    exact h _ (Nat.mod_lt _ h0) hl
theorem lrot_repS {p : List Nat} (hp : p ≠ []) (m : Nat) : lrot (repS p (m + 1)) = repS (lrot p) (m + 1) := by
  have h0 := List.length_pos_iff.mpr hp
  obtain ⟨j, hj, e⟩ := mem_rots.mp (lrot_spec hp).1
  have hne : repS p (m + 1) ≠ [] := List.length_pos_iff.mp (by rw [repS_len]; exact Nat.mul_pos (by omega) h0)
  refine (lrot_uniq hne (mem_rots.mpr ⟨j, ?_, ?_⟩) fun x hx => ?_).symm
  · rw [repS_len]
    exact Nat.lt_of_lt_of_le hj (Nat.le_mul_of_pos_left _ (by omega))
  · rw [rot_repS hp (Nat.le_trans (Nat.le_of_lt hj) (Nat.le_mul_of_pos_left _ (by omega))) (by omega), Nat.mod_eq_of_lt hj, e]
  · obtain ⟨k, hk, rfl⟩ := mem_rots.mp hx
    rw [repS_len] at hk
    rw [rot_repS hp (by omega) (by omega), repS_lt_iff (by rw [rot_len, lrot_len hp])]
    exact (lrot_spec hp).2 _ (mem_rots.mpr ⟨_, Nat.mod_lt _ h0, rfl⟩)
theorem lrot_nk {w : List Nat} (hw : w ≠ []) : Nk (lrot w) := by
  rw [nk_iff (lrot_nil hw)]
  obtain ⟨i, hi, e⟩ := mem_rots.mp (lrot_spec hw).1
  conv => lhs; rw [e]
  exact lrot_rot hi
theorem lrot_mem {w : List Nat} {x : Nat} (hw : w ≠ []) (hx : x ∈ lrot w) : x ∈ w := by
  obtain ⟨i, hi, e⟩ := mem_rots.mp (lrot_spec hw).1
  rw [e] at hx
  unfold rot at hx
  rcases List.mem_append.mp hx with h | h
  · exact List.mem_of_mem_drop h
  · exact List.mem_of_mem_take h
end
end Z
namespace Z
noncomputable section
open PySem PySem.Spec PySem.P PyProof.Rows L2
/-! ### counted by least turns -/
theorem ups_len {k c : Nat} (h2 : k ≤ 6) (hc : 97 ≤ c) (hk : c ≤ 96 + k) : (ups k c).length = 96 + k - c := by
  have : k = 1 ∨ k = 2 ∨ k = 3 ∨ k = 4 ∨ k = 5 ∨ k = 6 := by omega
  have : c = 97 ∨ c = 98 ∨ c = 99 ∨ c = 100 ∨ c = 101 ∨ c = 102 := by omega
  rcases this with rfl | rfl | rfl | rfl | rfl | rfl <;> (rcases ‹k = 1 ∨ _› with rfl | rfl | rfl | rfl | rfl | rfl <;> first | omega | rfl)
theorem sum_cast {α : Type} (f : α → Nat) : ∀ l : List α, (l.map fun j => ((f j : Nat) : Int)).sum = (((l.map f).sum : Nat) : Int)
  | [] => rfl
  | a :: l => by
    rw [List.map_cons, List.sum_cons, sum_cast f l, List.map_cons, List.sum_cons]
    omega
theorem sumD_nat {α : Type} (f : α → Nat) (l : List α) : sumD [.lst (l.map fun j => .int ((f j : Nat) : Int))] = .ok (.int ((l.map f).sum : Nat)) := by
  have e : (l.map fun j => D.int ((f j : Nat) : Int)) = (l.map fun j => ((f j : Nat) : Int)).map .int := by simp
  rw [e, sumD_m, sum_cast]
theorem ixD_rng (f : Nat → D) {m j : Nat} {i : Int} (hi : i = j) (h : j < m) : ixD (.lst ((List.range m).map f)) (.int i) = .ok (f j) := by
  subst hi
  exact ixD_l _ _ (by omega) _ (by simp [h])
def upW (k : Nat) (w : List Nat) : Nat := cnt k w.length fun v => ¬ w < lrot v
theorem good_lrot {k : Nat} {v : List Nat} (h0 : v ≠ []) (hv : ∀ x ∈ v, 97 ≤ x ∧ x ≤ 96 + k) : Good 97 (96 + k) v.length (lrot v) :=
  ⟨lrot_len h0, lrot_nk h0, fun x hx => hv x (lrot_mem h0 hx)⟩
theorem upTo_last {k : Nat} {w f : List Nat} (h1 : 1 ≤ k) (h2 : k ≤ 6) (h0 : w ≠ []) (hf : LastP 97 (96 + k) w.length w f) :
    upW k w + cnt k f.length (fun v => ∀ i, i < v.length → f < rot v i) = k ^ w.length := by
  have hl := List.length_pos_iff.mpr h0
  rw [← cnt_all h2, cnt_split (fun _ => True) (fun v => ¬ w < lrot v), hf.1.1]
  unfold upW
  have e1 : cnt k w.length (fun v => ¬ w < lrot v) = cnt k w.length (fun v => True ∧ ¬ w < lrot v) := cnt_congr h1 h2 fun v _ _ => by rw [true_and]
  have e2 : cnt k w.length (fun v => ∀ i, i < v.length → f < rot v i) = cnt k w.length (fun v => True ∧ ¬ ¬ w < lrot v) := cnt_congr h1 h2 fun v hv hr => by
    have hv0 : v ≠ [] := List.length_pos_iff.mp (by omega)
    have hg := good_lrot hv0 hr
    rw [hv] at hg
    rw [true_and, Classical.not_not]
    constructor
    · intro h
      obtain ⟨i, hi, e⟩ := mem_rots.mp (lrot_spec hv0).1
      have h3 := h i hi
      rw [← e] at h3
      exact Classical.byContradiction fun z => hf.2.2 _ hg z h3
    · intro h i hi
      exact lt_of_lt (lt_of_le hf.2.1 h) ((lrot_spec hv0).2 _ (mem_rots.mpr ⟨i, hi, rfl⟩))
  rw [e1, e2]
theorem low_min {lo : Nat} {s : List Nat} (h : ∀ x ∈ s, lo ≤ x) : ¬ s < List.replicate s.length lo := fun hl => by
  obtain ⟨j, c, z, h1, h2, h3⟩ := lt_split (by simp) hl
  have hc := h c (by rw [h3]; simp)
  rw [List.length_replicate] at h1
  have e : (List.replicate s.length lo).getD j 0 = lo := by
    rw [List.getD_eq_getElem?_getD, List.getElem?_replicate, if_pos h1]
    rfl
  omega
theorem filter_true {α : Type} (l : List α) : (l.filter fun _ => true) = l := List.filter_eq_self.mpr fun _ _ => rfl
theorem allW_first {k : Nat} (h1 : 1 ≤ k) (h2 : k ≤ 6) (n : Nat) : (allW k n)[0]? = some (List.replicate n 97) := by
  have := filter_head (p := fun _ => true) (r := List.replicate n 97) (allW_sorted h1 h2 n) ((mem_allW h1 h2).mpr ⟨by simp, fun x hx => by rw [List.eq_of_mem_replicate hx]; omega⟩) rfl fun w hw _ => by
    have hw' := (mem_allW h1 h2).mp hw
    rw [← hw'.1]
    exact low_min fun x hx => (hw'.2 x hx).1
  rwa [filter_true] at this
theorem allW_last {k : Nat} (h1 : 1 ≤ k) (h2 : k ≤ 6) (n : Nat) : (allW k n).getLast? = some (List.replicate n (96 + k)) := by
  have := filter_last (p := fun _ => true) (r := List.replicate n (96 + k)) (allW_sorted h1 h2 n) ((mem_allW h1 h2).mpr ⟨by simp, fun x hx => by rw [List.eq_of_mem_replicate hx]; omega⟩) rfl fun w hw _ => by
    have hw' := (mem_allW h1 h2).mp hw
    rw [← hw'.1]
    exact top_max w fun x hx => (hw'.2 x hx).2
  rwa [filter_true] at this
theorem upTo_full {k n : Nat} (h1 : 1 ≤ k) (h2 : k ≤ 6) (hn : 1 ≤ n) : upW k (List.replicate n (96 + k)) = k ^ n := by
  unfold upW
  rw [List.length_replicate, ← cnt_all h2 n]
  refine cnt_congr h1 h2 fun v hv hr => ⟨fun _ => trivial, fun _ => ?_⟩
  have hg := good_lrot (List.length_pos_iff.mp (by omega)) hr
  have := top_max (top := 96 + k) (lrot v) fun x hx => (hg.2.2 x hx).2
  rwa [hg.1, hv] at this
theorem upTo_first {k n : Nat} (h1 : 1 ≤ k) (h2 : k ≤ 6) (hn : 1 ≤ n) : upW k (List.replicate n 97) = 1 := by
  unfold upW
  rw [List.length_replicate]
  refine (cnt_eq h1 h2 (l := [List.replicate n 97]) (by simp) fun v => ?_)
  rw [List.mem_singleton]
  constructor
  · rintro rfl
    refine ⟨by simp, fun x hx => by rw [List.eq_of_mem_replicate hx]; omega, ?_⟩
    have h0 : List.replicate n 97 ≠ [] := List.length_pos_iff.mp (by simp; omega)
    rw [(nk_iff h0).mp (nk_rep _ _)]
    exact List.lt_irrefl _
  · rintro ⟨hv, hr, hl⟩
    have h0 : v ≠ [] := List.length_pos_iff.mp (by omega)
    have hg := good_lrot h0 hr
    have h3 : lrot v = List.replicate n 97 := by
      have := low_min (lo := 97) (s := lrot v) fun x hx => (hg.2.2 x hx).1
      rw [hg.1, hv] at this
      rcases lex_tri (lrot v) (List.replicate n 97) with h | h | h
      · exact absurd h this
      · exact h
      · exact absurd h hl
    obtain ⟨i, hi, e⟩ := mem_rots.mp (lrot_spec h0).1
    refine List.eq_replicate_iff.mpr ⟨hv, fun x hx => ?_⟩
    have hx2 : x ∈ rot v i := by
      unfold rot
      rw [← List.take_append_drop i v] at hx
      rcases List.mem_append.mp hx with h | h
      · exact List.mem_append_right _ h
      · exact List.mem_append_left _ h
    rw [← e, h3] at hx2
    exact List.eq_of_mem_replicate hx2
end
end Z
namespace Z
noncomputable section
open PySem PySem.Spec PySem.P PyProof.Rows L2
/-! ### words with a least turn -/
theorem rots_ne {r : List Nat} {i j : Nat} (hij : i < j) (hj : j < rlen r) (hr : r ≠ []) : rot r i ≠ rot r j := fun e => by
  have hs := rlen_spec hr
  have e2 : rot r j = rot (rot r (j - i)) i := by
    rw [rot_rot _ _ _ (by omega) (by omega) (by omega), Nat.mod_eq_of_lt (by omega)]
    congr 1; omega
  rw [e2] at e
  have e3 : r = rot r (j - i) := rot_inj (by rw [rot_len]) e
  have := rt_of_rot e3.symm (by omega) (by omega)
  omega
theorem rot_mod {r : List Nat} {m : Nat} (hr : r ≠ []) (hm : m < r.length) : rot r m = rot r (m % rlen r) := by
  have hs := rlen_spec hr
  have hp := rlen_pos hr
  have h0 := List.length_pos_iff.mpr hr
  have hq : r.length / rlen r * rlen r = r.length := Nat.div_mul_cancel (Nat.dvd_of_mod_eq_zero (rlen_dvd hr))
  have hq0 : 0 < r.length / rlen r := Nat.div_pos hs.1 hp
  have hlt : m % rlen r < rlen r := Nat.mod_lt _ hp
  have hroot := root_ne hr
  have hrl := root_len hr
  have e := root_rep hr
  rw [← e]
  rw [rot_repS hroot (by rw [hrl, hq]; omega) hq0]
  have e2 : rlen (repS (rootW r) (r.length / rlen r)) = rlen r := by rw [e]
  rw [e2, rot_repS hroot (by rw [hrl, hq]; omega) hq0, hrl, Nat.mod_mod]
theorem lrot_back {v : List Nat} (hv : v ≠ []) : ∃ m, m < v.length ∧ v = rot (lrot v) m := by
  have h0 := List.length_pos_iff.mpr hv
  obtain ⟨i, hi, e⟩ := mem_rots.mp (lrot_spec hv).1
  refine ⟨(v.length - i) % v.length, Nat.mod_lt _ h0, ?_⟩
  have : rot (lrot v) (v.length - i) = v := by
    rw [e, rot_rot _ _ _ (by omega) (by omega) h0, show i + (v.length - i) = v.length by omega, Nat.mod_self, rot_zero]
  by_cases hi0 : i = 0
  · subst hi0
    rw [Nat.sub_zero, Nat.mod_self, rot_zero, e, rot_zero]
  · rw [Nat.mod_eq_of_lt (by omega), this]
theorem rot_mem {v : List Nat} {i x : Nat} (h : x ∈ rot v i) : x ∈ v := by
  unfold rot at h
  rcases List.mem_append.mp h with h | h
  · exact List.mem_of_mem_drop h
  · exact List.mem_of_mem_take h
theorem cnt_lrot {k : Nat} {r : List Nat} (h1 : 1 ≤ k) (h2 : k ≤ 6) (hr : r ≠ []) (hN : Nk r) (hl : ∀ x ∈ r, 97 ≤ x ∧ x ≤ 96 + k) : cnt k r.length (fun v => lrot v = r) = rlen r := by
  have hs := rlen_spec hr
  have hp := rlen_pos hr
  have h0 := List.length_pos_iff.mpr hr
  have := cnt_eq (k := k) (t := r.length) (p := fun v => lrot v = r) h1 h2 (l := (List.range (rlen r)).map (rot r)) ?_ ?_
  · rw [this]; simp
  · refine List.pairwise_map.mpr ((List.nodup_range (n := rlen r)).imp_of_mem fun {a b} ha hb h e => ?_)
    have ha := List.mem_range.mp ha
    have hb := List.mem_range.mp hb
    by_cases hab : a < b
    · exact rots_ne hab hb hr e
    · exact rots_ne (by omega : b < a) ha hr e.symm
  · intro v
    constructor
    · intro hv
      obtain ⟨i, hi, rfl⟩ := List.mem_map.mp hv
      have hi := List.mem_range.mp hi
      exact ⟨rot_len _ _, fun x hx => hl x (rot_mem hx), by rw [lrot_rot (by omega)]; exact (nk_iff hr).mp hN⟩
    · rintro ⟨hv, hx, e⟩
      have hv0 : v ≠ [] := List.length_pos_iff.mp (by omega)
      obtain ⟨m, hm, e2⟩ := lrot_back hv0
      rw [e] at e2
      rw [e2, rot_mod hr (by omega)]
      exact List.mem_map.mpr ⟨_, List.mem_range.mpr (Nat.mod_lt _ hp), rfl⟩
theorem upW_last {k : Nat} {w f : List Nat} (h1 : 1 ≤ k) (h2 : k ≤ 6) (h0 : w ≠ []) (hf : LastP 97 (96 + k) w.length w f) : upW k f = upW k w := by
  unfold upW
  rw [hf.1.1]
  have hl := List.length_pos_iff.mpr h0
  refine cnt_congr h1 h2 fun v hv hr => ?_
  have hv0 : v ≠ [] := List.length_pos_iff.mp (by omega)
  have hg := good_lrot hv0 hr
  rw [hv] at hg
  constructor
  · exact fun h z => h (lt_of_le hf.2.1 z)
  · exact fun h => hf.2.2 _ hg h
theorem upW_le {k : Nat} {w : List Nat} (h2 : k ≤ 6) : upW k w ≤ k ^ w.length := by
  unfold upW cnt selW
  rw [← allW_len h2 w.length]
  exact List.length_filter_le _ _
theorem upW_ge {k : Nat} {w : List Nat} (h1 : 1 ≤ k) (h2 : k ≤ 6) (h0 : w ≠ []) (hw : ∀ x ∈ w, 97 ≤ x) : 1 ≤ upW k w := by
  unfold upW cnt
  have hl := List.length_pos_iff.mpr h0
  refine List.length_pos_of_mem (a := List.replicate w.length 97) ((mem_selW h1 h2).mpr ⟨by simp, fun x hx => by rw [List.eq_of_mem_replicate hx]; omega, ?_⟩)
  have h3 : List.replicate w.length 97 ≠ [] := List.length_pos_iff.mp (by simp; omega)
  rw [(nk_iff h3).mp (nk_rep _ _)]
  exact low_min hw
theorem upW_none {k : Nat} {w : List Nat} (h1 : 1 ≤ k) (h2 : k ≤ 6) (h0 : w ≠ []) (h : ∀ g, Good 97 (96 + k) w.length g → ¬ w < g) : upW k w = k ^ w.length := by
  unfold upW
  have hl := List.length_pos_iff.mpr h0
  rw [← cnt_all h2]
  refine cnt_congr h1 h2 fun v hv hr => ⟨fun _ => trivial, fun _ => h _ ?_⟩
  have := good_lrot (List.length_pos_iff.mp (by omega)) hr
  rwa [hv] at this
theorem upW_next {k : Nat} {w r : List Nat} (h1 : 1 ≤ k) (h2 : k ≤ 6) (h0 : w ≠ []) (hr : Good 97 (96 + k) w.length r) (hlt : w < r) (hmin : ∀ g, Good 97 (96 + k) w.length g → w < g → ¬ g < r) : upW k r = upW k w + rlen r := by
  have hl := List.length_pos_iff.mpr h0
  have hr0 : r ≠ [] := List.length_pos_iff.mp (by have := hr.1; omega)
  unfold upW
  rw [cnt_split _ (fun v => ¬ w < lrot v), ← cnt_lrot h1 h2 hr0 hr.2.1 hr.2.2, hr.1]
  congr 1
  · refine cnt_congr h1 h2 fun v hv hx => ⟨fun h => h.2, fun h => ⟨fun z => h (List.lt_trans hlt z), h⟩⟩
  · refine cnt_congr h1 h2 fun v hv hx => ?_
    have hv0 : v ≠ [] := List.length_pos_iff.mp (by omega)
    have hg := good_lrot hv0 hx
    rw [hv] at hg
    rw [Classical.not_not]
    constructor
    · rintro ⟨a, b⟩
      rcases lex_tri (lrot v) r with h | h | h
      · exact absurd h (hmin _ hg b)
      · exact h
      · exact absurd h a
    · intro e
      rw [e]
      exact ⟨List.lt_irrefl _, hlt⟩
theorem cnt_low {k j : Nat} (h2 : k ≤ 6) (hj : j < k) (n : Nat) : cnt k n (fun v => ∀ x ∈ v, 97 + j ≤ x) = (k - j) ^ n := by
  have := cnt_eq (k := k) (t := n) (p := fun v => ∀ x ∈ v, 97 + j ≤ x) (by omega) h2 (l := (allW (k - j) n).map fun v => v.map (· + j)) ?_ ?_
  · rw [this, List.length_map, allW_len (by omega)]
  · refine List.pairwise_map.mpr ((nodup_lt (allW_sorted (by omega) (by omega) n)).imp fun {a b} h e => h ?_)
    have e2 : ∀ l : List Nat, (l.map (· + j)).map (· - j) = l := fun l => by
      rw [List.map_map]
      conv => rhs; rw [← List.map_id l]
      refine List.map_congr_left fun x _ => ?_
      show x + j - j = x
      omega
    have := congrArg (List.map (· - j)) e
    rwa [e2, e2] at this
  · intro v
    constructor
    · intro hv
      obtain ⟨w, hw, rfl⟩ := List.mem_map.mp hv
      have hw := (mem_allW (by omega) (by omega)).mp hw
      refine ⟨by simpa using hw.1, fun x hx => ?_, fun x hx => ?_⟩ <;>
      · obtain ⟨y, hy, rfl⟩ := List.mem_map.mp hx
        have := hw.2 y hy
        omega
    · rintro ⟨hv, hx, hp⟩
      refine List.mem_map.mpr ⟨v.map (· - j), (mem_allW (by omega) (by omega)).mpr ⟨by simpa using hv, fun y hy => ?_⟩, ?_⟩
      · obtain ⟨x, h3, rfl⟩ := List.mem_map.mp hy
        have := hx x h3
        have := hp x h3
        omega
      · rw [List.map_map]
        conv => rhs; rw [← List.map_id v]
        refine List.map_congr_left fun x h3 => ?_
        have := hp x h3
        show x - j + j = x
        omega
theorem upW_same {k j n : Nat} (h2 : k ≤ 6) (hj : j < k) (hn : 1 ≤ n) : upW k (List.replicate n (97 + j)) + (k - j) ^ n = k ^ n + 1 := by
  have h1 : 1 ≤ k := by omega
  have e1 := cnt_split (k := k) (t := n) (fun _ => True) (fun v => ∀ x ∈ v, 97 + j ≤ x)
  have e2 := cnt_split (k := k) (t := n) (fun v => ¬ List.replicate n (97 + j) < lrot v) (fun v => ∀ x ∈ v, 97 + j ≤ x)
  have e3 : cnt k n (fun v => True ∧ ∀ x ∈ v, 97 + j ≤ x) = (k - j) ^ n := by
    rw [← cnt_low h2 hj n]
    exact cnt_congr h1 h2 fun v _ _ => by rw [true_and]
  have r0 : List.replicate n (97 + j) ≠ [] := List.length_pos_iff.mp (by simp; omega)
  have e4 : cnt k n (fun v => ¬ List.replicate n (97 + j) < lrot v ∧ ∀ x ∈ v, 97 + j ≤ x) = 1 := by
    refine cnt_eq h1 h2 (l := [List.replicate n (97 + j)]) (by simp) fun v => ?_
    rw [List.mem_singleton]
    constructor
    · rintro rfl
      refine ⟨by simp, fun x hx => by rw [List.eq_of_mem_replicate hx]; omega, ?_, fun x hx => by rw [List.eq_of_mem_replicate hx]; omega⟩
      rw [(nk_iff r0).mp (nk_rep _ _)]
      exact List.lt_irrefl _
    · rintro ⟨hv, hx, hl, hp⟩
      have hv0 : v ≠ [] := List.length_pos_iff.mp (by omega)
      have h3 := low_min (lo := 97 + j) (s := lrot v) fun x h => hp x (lrot_mem hv0 h)
      rw [lrot_len hv0, hv] at h3
      have h4 : lrot v = List.replicate n (97 + j) := by
        rcases lex_tri (lrot v) (List.replicate n (97 + j)) with h | h | h
        · exact absurd h h3
        · exact h
        · exact absurd h hl
      obtain ⟨m, hm, e⟩ := lrot_back hv0
      refine List.eq_replicate_iff.mpr ⟨hv, fun x hx2 => ?_⟩
      rw [e] at hx2
      have := rot_mem hx2
      rw [h4] at this
      exact List.eq_of_mem_replicate this
  have e5 : cnt k n (fun v => ¬ List.replicate n (97 + j) < lrot v ∧ ¬ ∀ x ∈ v, 97 + j ≤ x) = cnt k n (fun v => True ∧ ¬ ∀ x ∈ v, 97 + j ≤ x) := cnt_congr h1 h2 fun v hv hx => by
    rw [true_and]
    refine ⟨fun h => h.2, fun h => ⟨fun hl => h ?_, h⟩⟩
    have hv0 : v ≠ [] := List.length_pos_iff.mp (by omega)
    -- each letter of v begins a turn, which is not less than the least one
    intro x hxv
    obtain ⟨i, hi, rfl⟩ := List.mem_iff_getElem.mp hxv
    have h5 := (lrot_spec hv0).2 (rot v i) (mem_rots.mpr ⟨i, hi, rfl⟩)
    have h6 := lt_of_lt hl h5
    have h7 : rot v i = v[i] :: (v.drop (i + 1) ++ v.take i) := by
      unfold rot
      rw [List.drop_eq_getElem_cons hi]
      rfl
    rw [h7, show n = (n - 1) + 1 by omega, List.replicate_succ, List.cons_lt_cons_iff] at h6
    rcases h6 with h | ⟨h, -⟩ <;> omega
  rw [cnt_all h2, e3] at e1
  rw [e4, e5] at e2
  unfold upW
  rw [List.length_replicate]
  omega
end
end Z
namespace Z
noncomputable section
open PySem PySem.Spec PySem.P PyProof.Rows L2
/-! ### counted by parts -/
theorem repS_add (x : List Nat) (a b : Nat) : repS x (a + b) = repS x a ++ repS x b := by
  unfold repS
  rw [← List.replicate_append_replicate, List.flatten_append]
theorem repS_mul (x : List Nat) (a : Nat) : ∀ b, repS (repS x a) b = repS x (b * a)
  | 0 => by simp [repS]
  | b + 1 => by rw [repS_succ, repS_mul x a b, ← repS_add, Nat.add_mul, Nat.one_mul, Nat.add_comm]
theorem rlen_prim {y : List Nat} (hy : y ≠ []) (hp : rlen y = y.length) (q : Nat) : rlen (repS y (q + 1)) = y.length := by
  have h0 := List.length_pos_iff.mpr hy
  have hl : (repS y (q + 1)).length = (q + 1) * y.length := repS_len _ _
  have hge : y.length ≤ (repS y (q + 1)).length := by rw [hl]; exact Nat.le_mul_of_pos_left _ (by omega)
  have hne : repS y (q + 1) ≠ [] := List.length_pos_iff.mp (by omega)
  have hs := rlen_spec hne
  have htk : (repS y (q + 1)).take y.length = y := by rw [repS_succ]; simp
  have hok : rtOk (repS y (q + 1)) y.length = true := by
    unfold rtOk
    rw [htk, hl, Nat.mul_mod_left, Nat.mul_div_cancel _ h0]
    simp [h0]
  have h1 : rlen (repS y (q + 1)) ≤ y.length := Classical.byContradiction fun z => by
    have := hs.2.2 y.length (by omega)
    rw [hok] at this
    cases this
  by_cases e : rlen (repS y (q + 1)) = y.length
  · exact e
  · exfalso
    have hpos := rlen_pos hne
    have hr := rot_of_rt hs.2.1 (by omega)
    rw [rot_repS hy (by rw [← hl]; exact hs.1) (by omega), Nat.mod_eq_of_lt (by omega)] at hr
    have := rt_of_rot (repS_inj (by rw [rot_len]) hr) hpos (by omega)
    omega
theorem rlen_rot {x : List Nat} {i : Nat} (hx : x ≠ []) (hi : i < x.length) : rlen (rot x i) = rlen x := by
  have h0 := List.length_pos_iff.mpr hx
  have key : ∀ {x : List Nat} {i : Nat}, x ≠ [] → i < x.length → rlen x ≤ rlen (rot x i) := by
    intro x i hx hi
    have h0 := List.length_pos_iff.mpr hx
    have hne : rot x i ≠ [] := List.length_pos_iff.mp (by rw [rot_len]; exact h0)
    have hs := rlen_spec hne
    rw [rot_len] at hs
    by_cases e : rlen (rot x i) = x.length
    · rw [e]; exact (rlen_spec hx).1
    · have hr := rot_of_rt hs.2.1 (by rw [rot_len]; omega)
      have e2 : rot (rot x i) (rlen (rot x i)) = rot (rot x (rlen (rot x i))) i := by
        rw [rot_rot _ _ _ (by omega) (by omega) h0, rot_rot _ _ _ (by omega) (by omega) h0, Nat.add_comm]
      rw [e2] at hr
      exact rt_of_rot (rot_inj (by rw [rot_len]) hr) (rlen_pos hne) (by omega)
  have h1 := key hx hi
  have hne : rot x i ≠ [] := List.length_pos_iff.mp (by rw [rot_len]; exact h0)
  have h2 : rlen (rot x i) ≤ rlen x := by
    by_cases e : i = 0
    · subst e; rw [rot_zero]; exact Nat.le_refl _
    · have := key (x := rot x i) (i := x.length - i) hne (by rw [rot_len]; omega)
      rw [rot_rot _ _ _ (by omega) (by omega) h0, show i + (x.length - i) = x.length by omega, Nat.mod_self, rot_zero] at this
      exact this
  omega
theorem rlen_lrot {x : List Nat} (hx : x ≠ []) : rlen (lrot x) = rlen x := by
  obtain ⟨i, hi, e⟩ := mem_rots.mp (lrot_spec hx).1
  rw [e, rlen_rot hx hi]
theorem lrot_lrot {x : List Nat} (hx : x ≠ []) : lrot (lrot x) = lrot x := (nk_iff (lrot_nil hx)).mp (lrot_nk hx)
theorem prime_lrot {x : List Nat} (hx : x ≠ []) (h : rlen x = x.length) : Pr (lrot x) := by
  refine (pr_iff (lrot_nil hx)).mpr ⟨lrot_lrot hx, ?_⟩
  unfold rootW
  rw [rlen_lrot hx, h, ← lrot_len hx, List.take_length]
theorem prime_rlen {p : List Nat} (h : Pr p) : rlen p = p.length := by
  have := ((pr_iff h.1).mp h).2
  have h2 := root_len h.1
  rw [this] at h2
  exact h2.symm
theorem rlen_root {v : List Nat} (hv : v ≠ []) : rlen (rootW v) = rlen v := by
  have hy := root_ne hv
  have hs := rlen_spec hy
  have hl := root_len hv
  have h0 := List.length_pos_iff.mpr hv
  have hp := rlen_pos hv
  have hpy := rlen_pos hy
  have e1 := root_rep hv
  have e2 := root_rep hy
  obtain ⟨b, hb⟩ : ∃ b, v.length / rlen v = b + 1 := ⟨v.length / rlen v - 1, by have := Nat.div_pos (rlen_spec hv).1 hp; omega⟩
  obtain ⟨a, ha⟩ : ∃ a, (rootW v).length / rlen (rootW v) = a + 1 := ⟨(rootW v).length / rlen (rootW v) - 1, by have := Nat.div_pos hs.1 hpy; omega⟩
  rw [hb] at e1
  rw [ha] at e2
  have e3 : repS (rootW (rootW v)) ((b + 1) * (a + 1)) = v := by
    rw [← repS_mul, e2, e1]
  have hrr := root_len hy
  have hlen : v.length = (b + 1) * (a + 1) * rlen (rootW v) := by
    conv => lhs; rw [← e3]
    rw [repS_len, hrr]
  obtain ⟨c, hc⟩ : ∃ c, (b + 1) * (a + 1) = c + 1 := ⟨(b + 1) * (a + 1) - 1, by have := Nat.mul_pos (show 0 < b + 1 by omega) (show 0 < a + 1 by omega); omega⟩
  have htk : v.take (rlen (rootW v)) = rootW (rootW v) := by
    have hv2 : v = rootW (rootW v) ++ repS (rootW (rootW v)) c := by rw [← repS_succ, ← hc, e3]
    have := congrArg (List.take (rlen (rootW v))) hv2
    rw [this, ← hrr, List.take_left]
  have hok : rtOk v (rlen (rootW v)) = true := by
    unfold rtOk
    rw [htk]
    have h3 : v.length % rlen (rootW v) = 0 := by rw [hlen]; exact Nat.mul_mod_left _ _
    have h4 : v.length / rlen (rootW v) = (b + 1) * (a + 1) := by rw [hlen]; exact Nat.mul_div_cancel _ hpy
    rw [h3, h4, e3]
    simp [hpy]
  have h5 : rlen v ≤ rlen (rootW v) := Classical.byContradiction fun z => by
    have := (rlen_spec hv).2.2 _ (show rlen (rootW v) < rlen v by omega)
    rw [hok] at this
    cases this
  have := hs.1
  omega
/-- the numbers that divide -/
def prop (m : Nat) : List Nat := ((List.range (m - 1)).map (· + 1)).filter fun d => m % d == 0
def prt (m : Nat) : List Nat := ((List.range m).map (· + 1)).filter fun d => m % d == 0
theorem mem_prop {m d : Nat} : d ∈ prop m ↔ 1 ≤ d ∧ d < m ∧ m % d = 0 := by
  unfold prop
  rw [List.mem_filter, List.mem_map]
  constructor
  · rintro ⟨⟨a, h, rfl⟩, h2⟩
    have := List.mem_range.mp h
    exact ⟨by omega, by omega, by simpa using h2⟩
  · rintro ⟨h1, h2, h3⟩
    exact ⟨⟨d - 1, List.mem_range.mpr (by omega), by omega⟩, by simpa using h3⟩
theorem mem_prt {m d : Nat} : d ∈ prt m ↔ 1 ≤ d ∧ d ≤ m ∧ m % d = 0 := by
  unfold prt
  rw [List.mem_filter, List.mem_map]
  constructor
  · rintro ⟨⟨a, h, rfl⟩, h2⟩
    have := List.mem_range.mp h
    exact ⟨by omega, by omega, by simpa using h2⟩
  · rintro ⟨h1, h2, h3⟩
    exact ⟨⟨d - 1, List.mem_range.mpr (by omega), by omega⟩, by simpa using h3⟩
theorem prt_eq {m : Nat} (h : 0 < m) : prt m = prop m ++ [m] := by
  obtain ⟨n, rfl⟩ : ∃ n, m = n + 1 := ⟨m - 1, by omega⟩
  unfold prt prop
  rw [List.range_succ, List.map_append, List.filter_append]
  simp
theorem prt_sorted (m : Nat) : (prt m).Pairwise (· < ·) := by
  unfold prt
  refine List.Pairwise.filter _ (List.pairwise_map.mpr (List.pairwise_lt_range.imp fun {a b} h => by omega))
def boW (k : Nat) (w : List Nat) (m : Nat) : Nat := cnt k m fun x => ¬ w < repS (lrot x) (w.length / m)
def ownW (k : Nat) (w : List Nat) (m : Nat) : Nat := cnt k m fun x => rlen x = x.length ∧ ¬ w < repS (lrot x) (w.length / m)
def prmW (k : Nat) (w : List Nat) (m : Nat) : Nat := cnt k m fun p => Pr p ∧ ¬ w < repS p (w.length / m)
def lstW (k : Nat) (w : List Nat) : Nat := cnt k w.length fun v => Nk v ∧ ¬ w < v
theorem repS_mem {x : List Nat} {a c : Nat} (h : c ∈ repS x a) : c ∈ x := by
  unfold repS at h
  obtain ⟨l, h1, h2⟩ := List.mem_flatten.mp h
  rwa [List.eq_of_mem_replicate h1] at h2
theorem div_parts {n m d : Nat} (hm : n % m = 0) (hd : m % d = 0) (hd0 : 0 < d) (hm0 : 0 < m) : n / m * (m / d) = n / d := by
  obtain ⟨b, rfl⟩ := Nat.dvd_of_mod_eq_zero hm
  obtain ⟨a, rfl⟩ := Nat.dvd_of_mod_eq_zero hd
  rw [Nat.mul_div_cancel_left _ hm0, Nat.mul_div_cancel_left _ hd0, Nat.mul_assoc, Nat.mul_div_cancel_left _ hd0, Nat.mul_comm]
theorem bo_parts {k : Nat} {w : List Nat} {m : Nat} (h1 : 1 ≤ k) (h2 : k ≤ 6) (hm : w.length % m = 0) (hm0 : 0 < m) : boW k w m = ((prt m).map (ownW k w)).sum := by
  have hl : boW k w m = ((prt m).flatMap fun d => (selW k d fun x => rlen x = x.length ∧ ¬ w < repS (lrot x) (w.length / d)).map fun y => repS y (m / d)).length := by
    have fact : ∀ {d : Nat} {y : List Nat}, d ∈ prt m → y.length = d → rlen y = y.length → rlen (repS y (m / d)) = d ∧ (repS y (m / d)).length = m := fun {d y} hd hy hp => by
      obtain ⟨d1, d2, d3⟩ := mem_prt.mp hd
      obtain ⟨q, hq⟩ : ∃ q, m / d = q + 1 := ⟨m / d - 1, by have := Nat.div_pos d2 d1; omega⟩
      refine ⟨?_, ?_⟩
      · rw [hq, rlen_prim (List.length_pos_iff.mp (by omega)) hp, hy]
      · rw [repS_len, hy, Nat.div_mul_cancel (Nat.dvd_of_mod_eq_zero d3)]
    refine cnt_eq h1 h2 ?_ fun v => ?_
    · refine List.pairwise_flatMap.mpr ⟨fun d hd => ?_, ?_⟩
      · obtain ⟨d1, d2, d3⟩ := mem_prt.mp hd
        obtain ⟨q, hq⟩ : ∃ q, m / d = q + 1 := ⟨m / d - 1, by have := Nat.div_pos d2 d1; omega⟩
        refine List.pairwise_map.mpr ((nodup_selW h1 h2).imp_of_mem fun {a b} ha hb h e => h ?_)
        rw [hq] at e
        exact repS_inj (by rw [((mem_selW h1 h2).mp ha).1, ((mem_selW h1 h2).mp hb).1]) e
      · refine (prt_sorted m).imp_of_mem fun {a b} ha hb h x hx y hy e => ?_
        obtain ⟨s, hs, rfl⟩ := List.mem_map.mp hx
        obtain ⟨s', hs', rfl⟩ := List.mem_map.mp hy
        have hs := (mem_selW h1 h2).mp hs
        have hs' := (mem_selW h1 h2).mp hs'
        have f1 := (fact ha hs.1 hs.2.2.1).1
        have f2 := (fact hb hs'.1 hs'.2.2.1).1
        rw [e] at f1
        omega
    · simp only [List.mem_flatMap, List.mem_map, mem_selW h1 h2]
      constructor
      · rintro ⟨d, hd, y, ⟨y1, y2, y3, y4⟩, rfl⟩
        have hf := fact hd y1 y3
        obtain ⟨d1, d2, d3⟩ := mem_prt.mp hd
        obtain ⟨q, hq⟩ : ∃ q, m / d = q + 1 := ⟨m / d - 1, by have := Nat.div_pos d2 d1; omega⟩
        refine ⟨hf.2, fun x hx => y2 x (repS_mem hx), ?_⟩
        rw [hq, lrot_repS (List.length_pos_iff.mp (by omega)), ← hq, repS_mul, div_parts hm d3 d1 hm0]
        exact y4
      · rintro ⟨v1, v2, v3⟩
        have hv : v ≠ [] := List.length_pos_iff.mp (by omega)
        have hs := rlen_spec hv
        have hp := rlen_pos hv
        have hd := rlen_dvd hv
        have hrep := root_rep hv
        have hrl := root_len hv
        obtain ⟨q, hq⟩ : ∃ q, m / rlen v = q + 1 := ⟨m / rlen v - 1, by have := Nat.div_pos hs.1 hp; rw [v1] at this; omega⟩
        rw [v1] at hrep hs hd
        refine ⟨rlen v, mem_prt.mpr ⟨hp, hs.1, hd⟩, rootW v, ⟨hrl, fun x hx => v2 x (List.mem_of_mem_take hx), by rw [rlen_root hv, hrl], ?_⟩, hrep⟩
        rw [← div_parts hm hd hp hm0, ← repS_mul, hq, ← lrot_repS (root_ne hv), ← hq, hrep]
        exact v3
  rw [hl, List.length_flatMap]
  congr 1
  refine List.map_congr_left fun d _ => ?_
  simp [ownW, cnt]
theorem own_prm {k : Nat} {w : List Nat} {m : Nat} (h1 : 1 ≤ k) (h2 : k ≤ 6) (hm0 : 0 < m) : ownW k w m = m * prmW k w m := by
  have hl : ownW k w m = ((selW k m fun p => Pr p ∧ ¬ w < repS p (w.length / m)).flatMap fun p => (List.range m).map (rot p)).length := by
    refine cnt_eq h1 h2 ?_ fun v => ?_
    · refine List.pairwise_flatMap.mpr ⟨fun p hp => ?_, ?_⟩
      · have hp := (mem_selW h1 h2).mp hp
        have hr := prime_rlen hp.2.2.1
        refine List.pairwise_map.mpr ((List.nodup_range (n := m)).imp_of_mem fun {a b} ha hb h e => ?_)
        have ha := List.mem_range.mp ha
        have hb := List.mem_range.mp hb
        by_cases hab : a < b
        · exact rots_ne hab (by omega) hp.2.2.1.1 e
        · exact rots_ne (by omega : b < a) (by omega) hp.2.2.1.1 e.symm
      · refine (nodup_selW h1 h2).imp_of_mem fun {a b} ha hb h x hx y hy e => h ?_
        have ha := (mem_selW h1 h2).mp ha
        have hb := (mem_selW h1 h2).mp hb
        obtain ⟨i, hi, rfl⟩ := List.mem_map.mp hx
        obtain ⟨j, hj, rfl⟩ := List.mem_map.mp hy
        have hi := List.mem_range.mp hi
        have hj := List.mem_range.mp hj
        have e1 := lrot_rot (w := a) (i := i) (by omega)
        have e2 := lrot_rot (w := b) (i := j) (by omega)
        rw [e, e2, (nk_iff ha.2.2.1.1).mp ha.2.2.1.nk, (nk_iff hb.2.2.1.1).mp hb.2.2.1.nk] at e1
        exact e1.symm
    · simp only [List.mem_flatMap, List.mem_map, mem_selW h1 h2, List.mem_range]
      constructor
      · rintro ⟨p, ⟨p1, p2, p3, p4⟩, i, hi, rfl⟩
        refine ⟨by rw [rot_len, p1], fun x hx => p2 x (rot_mem hx), ?_, ?_⟩
        · rw [rlen_rot p3.1 (by omega), rot_len, prime_rlen p3]
        · rw [lrot_rot (by omega), (nk_iff p3.1).mp p3.nk]
          exact p4
      · rintro ⟨v1, v2, v3, v4⟩
        have hv : v ≠ [] := List.length_pos_iff.mp (by omega)
        obtain ⟨i, hi, e⟩ := lrot_back hv
        exact ⟨lrot v, ⟨by rw [lrot_len hv, v1], fun x hx => v2 x (lrot_mem hv hx), prime_lrot hv v3, v4⟩, i, by omega, e.symm⟩
  rw [hl, List.length_flatMap]
  have : (fun p : List Nat => ((List.range m).map (rot p)).length) = fun _ => m := by funext p; simp
  rw [this, sum_const, Nat.mul_comm]
  rfl
theorem lst_prm {k : Nat} {w : List Nat} (h1 : 1 ≤ k) (h2 : k ≤ 6) (h0 : 0 < w.length) : lstW k w = ((prt w.length).map (prmW k w)).sum := by
  have hl : lstW k w = ((prt w.length).flatMap fun d => (selW k d fun p => Pr p ∧ ¬ w < repS p (w.length / d)).map fun y => repS y (w.length / d)).length := by
    have fact : ∀ {d : Nat} {y : List Nat}, d ∈ prt w.length → y.length = d → Pr y → rlen (repS y (w.length / d)) = d ∧ (repS y (w.length / d)).length = w.length := fun {d y} hd hy hp => by
      obtain ⟨d1, d2, d3⟩ := mem_prt.mp hd
      obtain ⟨q, hq⟩ : ∃ q, w.length / d = q + 1 := ⟨w.length / d - 1, by have := Nat.div_pos d2 d1; omega⟩
      refine ⟨?_, ?_⟩
      · rw [hq, rlen_prim hp.1 (prime_rlen hp), hy]
      · rw [repS_len, hy, Nat.div_mul_cancel (Nat.dvd_of_mod_eq_zero d3)]
    refine cnt_eq h1 h2 ?_ fun v => ?_
    · refine List.pairwise_flatMap.mpr ⟨fun d hd => ?_, ?_⟩
      · obtain ⟨d1, d2, d3⟩ := mem_prt.mp hd
        obtain ⟨q, hq⟩ : ∃ q, w.length / d = q + 1 := ⟨w.length / d - 1, by have := Nat.div_pos d2 d1; omega⟩
        refine List.pairwise_map.mpr ((nodup_selW h1 h2).imp_of_mem fun {a b} ha hb h e => h ?_)
        rw [hq] at e
        exact repS_inj (by rw [((mem_selW h1 h2).mp ha).1, ((mem_selW h1 h2).mp hb).1]) e
      · refine (prt_sorted _).imp_of_mem fun {a b} ha hb h x hx y hy e => ?_
        obtain ⟨s, hs, rfl⟩ := List.mem_map.mp hx
        obtain ⟨s', hs', rfl⟩ := List.mem_map.mp hy
        have hs := (mem_selW h1 h2).mp hs
        have hs' := (mem_selW h1 h2).mp hs'
        have f1 := (fact ha hs.1 hs.2.2.1).1
        have f2 := (fact hb hs'.1 hs'.2.2.1).1
        rw [e] at f1
        omega
    · simp only [List.mem_flatMap, List.mem_map, mem_selW h1 h2]
      constructor
      · rintro ⟨d, hd, y, ⟨y1, y2, y3, y4⟩, rfl⟩
        exact ⟨(fact hd y1 y3).2, fun x hx => y2 x (repS_mem hx), nk_repS y3.nk _, y4⟩
      · rintro ⟨v1, v2, v3, v4⟩
        have hv : v ≠ [] := List.length_pos_iff.mp (by omega)
        have hs := rlen_spec hv
        have hd := rlen_dvd hv
        have hrep := root_rep hv
        rw [v1] at hrep hs hd
        refine ⟨rlen v, mem_prt.mpr ⟨rlen_pos hv, hs.1, hd⟩, rootW v, ⟨root_len hv, fun x hx => v2 x (List.mem_of_mem_take hx), root_prime hv ((nk_iff hv).mp v3), by rw [hrep]; exact v4⟩, hrep⟩
  rw [hl, List.length_flatMap]
  congr 1
  refine List.map_congr_left fun d _ => ?_
  simp [prmW, cnt]
/-- what below_or_at tells -/
theorem bo_front {k : Nat} {w : List Nat} {m t : Nat} (h1 : 1 ≤ k) (h2 : k ≤ 6) (hw : ∀ x ∈ w, 97 ≤ x ∧ x ≤ 96 + k) (hm0 : 0 < m) (ht : w.length = m * t) (ht0 : 0 < t) :
    (¬ w < repS (w.take m) t → boW k w m = upW k (w.take m)) ∧ (w < repS (w.take m) t → ¬ Nk (w.take m) → boW k w m = upW k (w.take m)) ∧ (w < repS (w.take m) t → Nk (w.take m) → boW k w m + rlen (w.take m) = upW k (w.take m)) := by
  have hle : m ≤ w.length := by rw [ht]; exact Nat.le_mul_of_pos_right _ ht0
  have hul : (w.take m).length = m := by simp; omega
  have hdiv : w.length / m = t := by rw [ht]; exact Nat.mul_div_cancel_left _ hm0
  obtain ⟨t', rfl⟩ : ∃ t', t = t' + 1 := ⟨t - 1, by omega⟩
  have hwe : w = w.take m ++ w.drop m := (List.take_append_drop _ _).symm
  have hum : ∀ x ∈ w.take m, 97 ≤ x ∧ x ≤ 96 + k := fun x hx => hw x (List.mem_of_mem_take hx)
  have hu0 : w.take m ≠ [] := List.length_pos_iff.mp (by omega)
  unfold boW upW
  rw [hdiv, hul]
  -- the three ways a least turn may stand to the front
  have lo : ∀ {y : List Nat}, y.length = m → y < w.take m → ¬ w < repS y (t' + 1) := fun {y} hy hl h => by
    have : repS y (t' + 1) < w := by
      conv => rhs; rw [hwe]
      rw [repS_succ]
      exact lex_app hl (by omega) _ _
    exact List.lt_irrefl _ (List.lt_trans h this)
  have hi : ∀ {y : List Nat}, y.length = m → w.take m < y → w < repS y (t' + 1) := fun {y} hy hl => by
    conv => lhs; rw [hwe]
    rw [repS_succ]
    exact lex_app hl (by omega) _ _
  refine ⟨fun hn => ?_, fun hn hN => ?_, fun hn hN => ?_⟩
  · refine cnt_congr h1 h2 fun v hv hr => ?_
    have hvl : (lrot v).length = m := by rw [lrot_len (List.length_pos_iff.mp (by omega)), hv]
    rcases lex_tri (lrot v) (w.take m) with h | h | h
    · exact ⟨fun _ z => List.lt_irrefl _ (List.lt_trans h z), fun _ => lo hvl h⟩
    · rw [h]
      exact ⟨fun _ => List.lt_irrefl _, fun _ => hn⟩
    · exact ⟨fun z => absurd (hi hvl h) z, fun z => absurd h z⟩
  · refine cnt_congr h1 h2 fun v hv hr => ?_
    have hv0 : v ≠ [] := List.length_pos_iff.mp (by omega)
    have hvl : (lrot v).length = m := by rw [lrot_len hv0, hv]
    rcases lex_tri (lrot v) (w.take m) with h | h | h
    · exact ⟨fun _ z => List.lt_irrefl _ (List.lt_trans h z), fun _ => lo hvl h⟩
    · have := lrot_nk hv0
      rw [h] at this
      exact absurd this hN
    · exact ⟨fun z => absurd (hi hvl h) z, fun z => absurd h z⟩
  · have hc := cnt_lrot h1 h2 hu0 hN hum
    rw [hul] at hc
    rw [← hc, cnt_split (fun v => ¬ w.take m < lrot v) (fun v => lrot v < w.take m)]
    congr 1
    · refine cnt_congr h1 h2 fun v hv hr => ?_
      have hvl : (lrot v).length = m := by rw [lrot_len (List.length_pos_iff.mp (by omega)), hv]
      rcases lex_tri (lrot v) (w.take m) with h | h | h
      · exact ⟨fun _ => ⟨fun z => List.lt_irrefl _ (List.lt_trans h z), h⟩, fun _ => lo hvl h⟩
      · rw [h]
        exact ⟨fun z => absurd hn z, fun z => absurd z.2 (List.lt_irrefl _)⟩
      · exact ⟨fun z => absurd (hi hvl h) z, fun z => absurd h z.1⟩
    · refine cnt_congr h1 h2 fun v hv hr => ?_
      rcases lex_tri (lrot v) (w.take m) with h | h | h
      · exact ⟨fun z => by rw [z] at h; exact absurd h (List.lt_irrefl _), fun z => absurd h z.2⟩
      · rw [h]
        exact ⟨fun _ => ⟨List.lt_irrefl _, List.lt_irrefl _⟩, fun _ => rfl⟩
      · exact ⟨fun z => by rw [z] at h; exact absurd h (List.lt_irrefl _), fun z => absurd h z.1⟩
end
end Z
namespace Z
noncomputable section
open PySem PySem.Spec PySem.P PyProof.Rows L2
/-! ### dicts of numbers -/
def kI (l : List Nat) : List Key := l.map fun d : Nat => (.inl (d : Int) : Key)
theorem look_kI (f : Nat → D) {d : Nat} : ∀ {l : List Nat}, d ∈ l → look (kI l) (l.map f) (.inl (d : Int)) = some (f d)
  | [], h => by cases h
  | a :: l, h => by
    show (if (Sum.inl (a : Int) : Key) = .inl (d : Int) then some (f a) else look (kI l) (l.map f) (.inl (d : Int))) = some (f d)
    by_cases e : a = d
    · subst e; rw [if_pos rfl]
    · rw [if_neg (fun z => by injection z with z; omega)]
      refine look_kI f ?_
      rcases List.mem_cons.mp h with h | h
      · exact absurd h.symm e
      · exact h
theorem ixD_kI (f : Nat → D) {d : Nat} {l : List Nat} (h : d ∈ l) : ixD (.dic (kI l) (l.map f)) (.int (d : Int)) = .ok (f d) := by
  show (match look (kI l) (l.map f) (.inl (d : Int)) with | some d => R.ok d | none => .bad) = _
  rw [look_kI f h]
theorem putV_new : ∀ {ks : List Key} {vs : List D} {k : Key} {d : D}, vs.length = ks.length → k ∉ ks → putV ks vs k d = vs ++ [d]
  | [], [], k, d, _, _ => rfl
  | [], _ :: _, _, _, h, _ => by cases h
  | _ :: _, [], _, _, h, _ => by cases h
  | a :: ks, v :: vs, k, d, h, hn => by
    show (if a = k then d :: vs else v :: putV ks vs k d) = _
    rw [if_neg (fun z => hn (by rw [z]; exact List.mem_cons_self)), putV_new (by simpa using h) (fun z => hn (List.mem_cons_of_mem _ z))]
    rfl
theorem putKs_new {ks : List Key} {k : Key} (h : k ∉ ks) : putKs ks k = ks ++ [k] := by
  unfold putKs has
  rw [if_neg]
  intro z
  obtain ⟨x, hx, e⟩ := List.any_eq_true.mp z
  have : x = k := by simpa using e
  subst this
  exact h hx
theorem putDS_kI (s : SS) (i : Nat) (f : Nat → D) (l : List Nat) (d : Nat) (hd : d ∉ l) (hl : l.length ≤ 1000) : putDS s i (kI l) (l.map f) (f d) (.int (d : Int)) = .nx (s.set i (.ow (.dic (kI (l ++ [d])) ((l ++ [d]).map f)))) := by
  have hn : (Sum.inl (d : Int) : Key) ∉ kI l := fun z => by
    unfold kI at z
    obtain ⟨a, ha, e⟩ := List.mem_map.mp z
    injection e with e
    have : a = d := by omega
    subst this
    exact hd ha
  have hz : (kI l).length + 1 ≤ SZ := le_sz (by simp [kI]; omega)
  show (if (kI l).length + 1 ≤ SZ then RS.nx (s.set i (.ow (.dic (putKs (kI l) (.inl (d : Int))) (putV (kI l) (l.map f) (.inl (d : Int)) (f d))))) else .bad) = _
  rw [if_pos hz, putKs_new hn, putV_new (by simp [kI]) hn]
  simp [kI]
theorem itD_kI (l : List Nat) (vs : List D) : itD (.dic (kI l) vs) = .ok (l.map fun d : Nat => .int (d : Int)) := by
  have : (kI l).all keyOk = true := by
    unfold kI
    rw [List.all_eq_true]
    intro x hx
    obtain ⟨a, -, rfl⟩ := List.mem_map.mp hx
    rfl
  show (if (kI l).all keyOk = true then R.ok ((kI l).map keyDd) else .bad) = _
  rw [if_pos this]
  unfold kI
  rw [List.map_map]
  rfl
theorem cutL_drop {α : Type} (xs : List α) : cutL xs none (some (-1)) = xs.dropLast := by
  unfold cutL HT.sIx
  simp
  rw [show ((-1 : Int) + (xs.length : Int)).toNat = xs.length - 1 by omega, List.dropLast_eq_take]
theorem prt_drop {m : Nat} (h : 0 < m) : (prt m).dropLast = prop m := by
  rw [prt_eq h, List.dropLast_concat]
end
end Z
namespace Z
noncomputable section
open PySem PySem.Spec PySem.P PyProof.Rows L2
/-! ### told by their numbers -/
theorem filt_idx {p : List Nat → Bool} (hd : ∀ a b, a < b → p b = true → p a = true) : ∀ {L : List (List Nat)} {i : Nat} (hi : i < L.length), L.Pairwise (· < ·) → (i < (L.filter p).length ↔ p L[i] = true)
  | a :: L, i, hi, hs => by
    have hs' := List.pairwise_cons.mp hs
    cases hp : p a with
    | true =>
      cases i with
      | zero => simp [hp]
      | succ i =>
        have ih := filt_idx hd (L := L) (i := i) (by simpa using hi) hs'.2
        simp only [List.filter_cons, hp, if_true, List.length_cons, List.getElem_cons_succ]
        rw [← ih]
        omega
    | false =>
      have h0 : (a :: L).filter p = [] := by
        rw [List.filter_eq_nil_iff]
        intro b hb hpb
        rcases List.mem_cons.mp hb with rfl | hb
        · rw [hp] at hpb; cases hpb
        · have := hd a b (hs'.1 b hb) hpb
          rw [hp] at this; cases this
      rw [h0]
      have hm : (a :: L)[i] ∈ a :: L := List.getElem_mem hi
      have : p (a :: L)[i] ≠ true := fun z => by
        have : (a :: L)[i] ∈ (a :: L).filter p := List.mem_filter.mpr ⟨hm, z⟩
        rw [h0] at this
        cases this
      simp only [List.length_nil]
      constructor
      · intro z; omega
      · intro z; exact absurd z this
def leB (w v : List Nat) : Bool := dcd (¬ w < v)
theorem leB_iff {w v : List Nat} : leB w v = true ↔ ¬ w < v := dcd_iff
theorem cnt_sel {k n : Nat} {w : List Nat} {P : List Nat → Prop} : cnt k n (fun v => P v ∧ ¬ w < v) = ((selW k n P).filter (leB w)).length := by
  unfold cnt selW
  rw [List.filter_filter]
  congr 2
  funext v
  refine dcd_bool ?_
  rw [Bool.and_eq_true, leB_iff, dcd_iff]
  exact and_comm
theorem selW_sorted {k n : Nat} {P : List Nat → Prop} (h1 : 1 ≤ k) (h2 : k ≤ 6) : (selW k n P).Pairwise (· < ·) := (allW_sorted h1 h2 n).filter _
theorem sel_idx {k n i : Nat} {w : List Nat} {P : List Nat → Prop} (h1 : 1 ≤ k) (h2 : k ≤ 6) (hi : i < (selW k n P).length) : i < cnt k n (fun v => P v ∧ ¬ w < v) ↔ ¬ w < (selW k n P)[i] := by
  rw [cnt_sel, filt_idx (fun a b hab hb => leB_iff.mpr fun z => leB_iff.mp hb (List.lt_trans z hab)) hi (selW_sorted h1 h2), leB_iff]
theorem sel_all {k n : Nat} {P : List Nat → Prop} (h1 : 1 ≤ k) (h2 : k ≤ 6) : cnt k n (fun v => P v ∧ ¬ List.replicate n (96 + k) < v) = (selW k n P).length := by
  rw [cnt_sel, List.filter_eq_self.mpr]
  intro v hv
  have hv := (mem_selW h1 h2).mp hv
  rw [leB_iff, ← hv.1]
  exact top_max v fun x hx => (hv.2.1 x hx).2
/-- the number of a listed word -/
theorem sel_num {k n i : Nat} {P : List Nat → Prop} (h1 : 1 ≤ k) (h2 : k ≤ 6) (hi : i < (selW k n P).length) : cnt k n (fun v => P v ∧ ¬ (selW k n P)[i] < v) = i + 1 := by
  have hs := selW_sorted (P := P) (n := n) h1 h2
  have a := (sel_idx (w := (selW k n P)[i]) (P := P) h1 h2 hi).mpr (List.lt_irrefl _)
  have b : ¬ i + 1 < cnt k n (fun v => P v ∧ ¬ (selW k n P)[i] < v) := fun z => by
    by_cases h : i + 1 < (selW k n P).length
    · have := (sel_idx (w := (selW k n P)[i]) (P := P) h1 h2 h).mp z
      exact this (List.pairwise_iff_getElem.mp hs i (i + 1) hi h (by omega))
    · have : cnt k n (fun v => P v ∧ ¬ (selW k n P)[i] < v) ≤ (selW k n P).length := by
        rw [cnt_sel]; exact List.length_filter_le _ _
      omega
  omega
/-- which letter comes next toward a listed word -/
theorem toward {k n : Nat} {t g : List Nat} (hg : Good 97 (96 + k) n g) (hp : t <+: g) (hl : t.length < n) {c : Nat} (hc : c ≤ 96 + k) :
    (c = g.getD t.length 0 → Nk (t ++ c :: List.replicate (n - t.length - 1) (96 + k)) ∧ ¬ (t ++ c :: List.replicate (n - t.length - 1) (96 + k)) < g) ∧ (c < g.getD t.length 0 → t ++ c :: List.replicate (n - t.length - 1) (96 + k) < g) := by
  obtain ⟨s, rfl⟩ := hp
  have hlen := hg.1
  rw [List.length_append] at hlen
  cases s with
  | nil => simp at hlen; omega
  | cons d s =>
    have hd : (t ++ d :: s).getD t.length 0 = d := by simp
    rw [hd]
    have hsl : s.length = n - t.length - 1 := by rw [List.length_cons] at hlen; omega
    constructor
    · rintro rfl
      constructor
      · have : Nk ((t ++ [c]) ++ s) := by simpa using hg.2.1
        have := nk_fill (top := 96 + k) (t := t ++ [c]) (s := s) (by intro x hx; exact (hg.2.2 x (by simpa using hx)).2) this
        rw [hsl] at this
        simpa using this
      · rw [lex_pre, List.cons_lt_cons_iff, ← hsl]
        rintro (h | ⟨-, h⟩)
        · omega
        · exact top_max s (fun x hx => (hg.2.2 x (by simp [hx])).2) h
    · intro h
      rw [lex_pre, List.cons_lt_cons_iff]
      exact .inl h
theorem toward_app {t g : List Nat} (hp : t <+: g) (hl : t.length < g.length) : t ++ [g.getD t.length 0] <+: g := by
  obtain ⟨s, rfl⟩ := hp
  cases s with
  | nil => simp at hl
  | cons d s => exact ⟨s, by simp⟩
theorem pre_full {t g : List Nat} (hp : t <+: g) (hl : g.length ≤ t.length) : t = g := by
  obtain ⟨s, rfl⟩ := hp
  rw [List.length_append] at hl
  have : s = [] := List.eq_nil_of_length_eq_zero (by omega)
  subst this
  simp
end
end Z
namespace Z
noncomputable section
open PySem PySem.Spec PySem.P PyProof.Rows L2
/-- a while loop that only goes on -/
theorem whL_nx {fc : SS → R D} {f : SS → RS} (P : SS → Prop) (mu : SS → Nat) (Q : RS → Prop)
    (hs : ∀ s, P s → ∃ b, fc s = .ok (.bl b) ∧ (b = true → ∃ s', f s = .nx s' ∧ P s' ∧ mu s' < mu s) ∧ (b = false → Q (.nx s))) (n : Nat) (s : SS) (h0 : P s) (hm : mu s < n) : Q (whL fc f n s) :=
  whL_ind P mu Q (fun s hp => by
    obtain ⟨b, e, h1, h2⟩ := hs s hp
    rw [e]
    cases b with
    | true =>
      obtain ⟨s', e2, h3, h4⟩ := h1 rfl
      dsimp only
      rw [e2]
      exact ⟨h3, h4⟩
    | false => exact h2 rfl) n s h0 hm
theorem prmW_top {k : Nat} {w : List Nat} (h1 : 1 ≤ k) (h2 : k ≤ 6) (h0 : 0 < w.length) : prmW k w w.length = cnt k w.length fun p => Pr p ∧ ¬ w < p := by
  unfold prmW
  refine cnt_congr h1 h2 fun v _ _ => ?_
  rw [Nat.div_self h0, show repS v 1 = v by simp [repS]]
theorem cnt_len {k n : Nat} {P : List Nat → Prop} : cnt k n P = (selW k n P).length := rfl
end
end Z
namespace Z
noncomputable section
open PySem PySem.Spec PySem.P PyProof.Rows L2
/-! ### all words, by their roots -/
def piW (k d : Nat) : Nat := cnt k d Pr
theorem below_top {k n : Nat} {v : List Nat} (hl : v.length = n) (hv : ∀ x ∈ v, x ≤ 96 + k) : ¬ List.replicate n (96 + k) < v := by
  rw [← hl]; exact top_max v hv
theorem prm_all {k n d : Nat} (h1 : 1 ≤ k) (h2 : k ≤ 6) (hd : d ∈ prt n) : prmW k (List.replicate n (96 + k)) d = piW k d := by
  obtain ⟨d1, d2, d3⟩ := mem_prt.mp hd
  unfold prmW piW
  refine cnt_congr h1 h2 fun v hv hr => ⟨fun h => h.1, fun h => ⟨h, ?_⟩⟩
  rw [List.length_replicate]
  refine below_top (by rw [repS_len, hv, Nat.div_mul_cancel (Nat.dvd_of_mod_eq_zero d3)]) fun x hx => (hr x (repS_mem hx)).2
theorem words_by_roots {k n : Nat} (h1 : 1 ≤ k) (h2 : k ≤ 6) (hn : 0 < n) : ((prt n).map fun d => d * piW k d).sum = k ^ n := by
  have h := bo_parts (w := List.replicate n (96 + k)) (m := n) h1 h2 (by simp) hn
  have e : boW k (List.replicate n (96 + k)) n = k ^ n := by
    unfold boW
    rw [← cnt_all h2 n]
    refine cnt_congr h1 h2 fun v hv hr => ⟨fun _ => trivial, fun _ => ?_⟩
    have hv0 : v ≠ [] := List.length_pos_iff.mp (by omega)
    rw [List.length_replicate, Nat.div_self hn]
    refine below_top (by rw [repS_len, lrot_len hv0, hv, Nat.one_mul]) fun x hx => (hr x (lrot_mem hv0 (repS_mem hx))).2
  rw [e] at h
  rw [h]
  congr 1
  refine List.map_congr_left fun d hd => ?_
  rw [own_prm h1 h2 (mem_prt.mp hd).1, prm_all h1 h2 hd]
theorem leasts_by_roots {k n : Nat} (h1 : 1 ≤ k) (h2 : k ≤ 6) (hn : 0 < n) : lstW k (List.replicate n (96 + k)) = ((prt n).map (piW k)).sum := by
  rw [lst_prm h1 h2 (by simpa using hn), List.length_replicate]
  congr 1
  exact List.map_congr_left fun d hd => prm_all h1 h2 hd
theorem pi_top {k n : Nat} (h1 : 1 ≤ k) (h2 : k ≤ 6) (hn : 0 < n) : prmW k (List.replicate n (96 + k)) n = piW k n := prm_all h1 h2 (mem_prt.mpr ⟨hn, Nat.le_refl _, Nat.mod_self _⟩)
theorem prt_take_sum (n : Nat) (f : Nat → Nat) : ∀ i, ((((List.range (i + 1)).map (· + 1)).filter fun d => n % d == 0).map f).sum = ((((List.range i).map (· + 1)).filter fun d => n % d == 0).map f).sum + if n % (i + 1) = 0 then f (i + 1) else 0 := fun i => by
  rw [List.range_succ, List.map_append, List.filter_append, List.map_append, List.sum_append]
  congr 1
  by_cases h : n % (i + 1) = 0
  · simp [h]
  · simp [h]
end
end Z
namespace Z
noncomputable section
open PySem PySem.Spec PySem.P PyProof.Rows L2
/-! ### x.count(y), a list -/
def cntL (x : D) : List D → R D
  | [y] => match x with
    | .lst zs => if depL zs ≤ 63 ∧ dep y ≤ 64 then .ok (.int (zs.countP (fun z => eqv z y) : Nat)) else .bad
    | _ => .bad
  | _ => .bad
theorem cntL_ne : NoExM cntL := fun x xs c vs h => by
  unfold cntL at h
  split at h
  · split at h
    · split at h <;> cases h
    · cases h
  · cases h
theorem pyL_count (y : D) (hy : dep y ≤ 64) : ∀ zs : List D, depL zs ≤ 63 → (pyL zs).countP (fun z => PyData.eqv z (py y)) = zs.countP fun z => eqv z y
  | [], _ => rfl
  | a :: zs, h => by
    have h1 := depL_mem (ds := a :: zs) (d := a) (by simp)
    have h2 : depL zs ≤ 63 := by
      unfold depL at h
      omega
    show (py a :: pyL zs).countP _ = _
    rw [List.countP_cons, List.countP_cons, pyL_count y hy zs h2, py_eqv _ _ (by omega) hy]
section
variable {X : Cx} {C : CT} {W : WX} {a e : Expr} {fa : SS → R D} {fs : SS → R (List D)} {pos apos : Pos}
theorem mt_cntL (v : Pq X C W) : MtR X "list.count" (rM C.G cntL) := by
  intro pins s σ H x xs u us Q I rx rs h
  obtain ⟨F, d, ds, S, b1, r, p⟩ := h
  unfold cntL at p
  split at p
  · rename_i y
    obtain ⟨w, rfl, b2⟩ := pair1 r
    split at p
    · rename_i zs
      split at p
      · rename_i hz
        obtain ⟨a1, a2⟩ := bor_dp v.K S (d := .lst zs) (by unfold dep; omega) b1
        obtain ⟨c1, c2⟩ := bor_dp v.K S hz.2 b2
        obtain ⟨ad, vs, rfl, _, _⟩ := bor_lst S b1
        unfold py at a1 a2
        cases rx
        cases rs with
        | cons ry rt =>
          rename_i uy ut
          cases rt
          obtain ⟨bs, r1⟩ := Dp.reads I _ w uy c1 ry
          have hxs : PyData.canLayAll0 (pyL zs) = true := SeqAt.canLay_of_shaped a2
          have hroom : X.A.units + 1 + min (PyData.depthAll (pyL zs)) (py y).depth < cLine := room_in_shaped c2 v.hu
          cases a1 with
          | lst hs ha =>
            obtain ⟨its, rv, ⟨⟨cls, dd, data, sls⟩, n, ho, hc, hdn, hdt⟩, hlen⟩ := I.list hs
            simp only at hc hdt
            subst hc hdt
            obtain ⟨as, h4⟩ := Dp.readsAll I (pyL zs) _ its ha rv
            have hmap : its.map (SeqAt.readOf s.heap) = pyL zs := SeqAt.readsAll_map (pyL zs) its as hxs h4
            refine call_meets PySem.F.slot_list_count ⟨_, ho, rfl⟩ PySem.F.entry_list_count (PySem.F.args_list_count_2 _ _)
              (SeqAt.list_countAt ad its.toArray n dd sls uy (fun u => PyData.eqv (SeqAt.readOf s.heap u) (py y))) ⟨ho, SeqAt.items_eqAt (vs := its.toArray) (show ReadsAll s.heap its.toArray.toList (pyL zs) as from h4) r1 hxs (SeqAt.canLay_of_shaped c2) hroom, ?_⟩
            have ec : its.toArray.toList.countP (fun u => PyData.eqv (SeqAt.readOf s.heap u) (py y)) = zs.countP fun z => eqv z y := by
              rw [← pyL_count y hz.2 zs hz.1, ← hmap, List.countP_map]
              rfl
            rw [ec]
            exact ⟨.int (zs.countP (fun z => eqv z y) : Nat), H, I.tok _, ⟨_, rfl⟩, p.int S⟩
      · exact p.elim
    · exact p.elim
  · exact p.elim
theorem s_cntL (v : Pq X C W) (ho : PE X a (tB C W fa)) (ha : PA X [e] (tAB C W fs))
    (hbase : attributeBase a "count" X.env (eval a X.env) = eval a X.env := by rfl)
    (hfew : ((backTo pos (starEach [e] X.env)).all (fun x => !x.1) && (backToKw pos (keywordEach [] X.env)).all (fun x => x.1.isSome)
      && decide (([e] : List Expr).length + ([] : List Keyword).length + (if ([] : List Keyword).isEmpty then 0 else 1) < 30)) = true := by rfl)
    (hline : (apos.endLine == pos.line) = true := by rfl) (hs : starEach [e] X.env = (false, eval e X.env) :: starEach [] X.env := by rfl) (hplain : (backTo pos (starEach [] X.env)).any (·.1) = false := by rfl) :
    PE X (.Call (.Attribute a "count" apos) [e] [] pos) (tD C W (eM "list" cntL fa fs)) :=
  s_me v (.inr rfl) cntL_ne PySem.F.plainAttrs_list PySem.F.slot_list_count PySem.F.type_list_count (mt_cntL v) ho ha hbase hfew hline hs hplain
end
end
end Z
namespace Z
noncomputable section
open PySem PySem.Spec PySem.P PyProof.Rows L2
/-! ### x.clear(), x an own list -/
def sClr (i : Nat) : SS → RS := fun s => match owL s i with
  | some _ => .nx (s.set i (.ow (.lst [])))
  | none => .bad
section
variable {X : Cx} {C : CT} {W : WX} {x : Str} {p apos pos pos' : Pos}
theorem s_clr (i : Nat) (hN : X.N[i]? = some x := by rfl) (hv : Vis X.env.scope x := by first | exact Or.inl rfl | exact Or.inr (Or.inl rfl) | exact Or.inr (Or.inr rfl)) (hd : (x == ("__debug__" : Str)) = false := by decide)
    (hcd : (x == ("__classdict__" : Str)) = false := by decide)
    (hbase : attributeBase (.Name x p) "clear" X.env (eval (.Name x p) X.env) = eval (.Name x p) X.env := by rfl) (hline : (apos.endLine == pos.line) = true := by rfl)
    (hsw : swapsWith (.Call (.Attribute (.Name x p) "clear" apos) [] [] pos) none pos'.line X.env = pure false := by rfl) :
    PS X (.Expr (.Call (.Attribute (.Name x p) "clear" apos) [] [] pos) pos') (tS C W (sClr i)) := by
  refine ps_imp (ps_expr (pe_bm0 PySem.F.plainAttrs_list PySem.F.slot_list_clear PySem.F.type_list_clear mt_clear (pe_var (i := i) hN hv hd hcd) hbase hline) hsw) fun En σ H ⟨F, sd, S, h⟩ => ?_
  unfold sClr at h
  split at h
  · rename_i xs hx
    have ho := owL_some hx
    obtain ⟨a, e2, e3, e4, vs, e5, r⟩ := S.ow i _ (.inl ho)
    refine ⟨_, e2, .inl ⟨rfl, vs, SqL.of e5⟩, a, vs, rfl, rfl, e5, ?_⟩
    have S1 := S.upOw (o := .lst []) (d' := .lst []) ho e2 ⟨_, upd_same, RepL.nil⟩
    exact h F _ _ S1 (Same.refl F) (lk_ow ho)
  · exact h.elim
end
def rClr (s : SS) (i : Nat) : Option (List D) → RS
  | some _ => .nx (s.set i (.ow (.lst [])))
  | none => .bad
@[simp] theorem sClr_s (s : SS) (i : Nat) : sClr i s = rClr s i (getOw s[i]?) := by
  unfold sClr rClr
  rw [owL_s]
@[simp] theorem rClr_s (s : SS) (i : Nat) (xs : List D) : rClr s i (some xs) = .nx (s.set i (.ow (.lst []))) := rfl
theorem idxL_b (a b c : Bool) (h : a = true ∨ b = true ∨ c = true) : idxL (.lst [.bl a, .bl b, .bl c]) [.bl true] = .ok (.int (if a = true then 0 else if b = true then 1 else 2)) := by
  cases a <;> cases b <;> cases c <;> simp at h <;> rfl
end
end Z
namespace Z
noncomputable section
open PySem PySem.Spec PySem.P PyProof.Rows L2
theorem cntL_b3 (a b c : Bool) : cntL (.lst [.bl a, .bl b, .bl c]) [.bl true] = .ok (.int ((if a = true then 1 else 0) + (if b = true then 1 else 0) + (if c = true then 1 else 0))) := by
  cases a <;> cases b <;> cases c <;> rfl
theorem cntL_b4 (a b c d : Bool) : cntL (.lst [.bl a, .bl b, .bl c, .bl d]) [.bl true] = .ok (.int ((if a = true then 1 else 0) + (if b = true then 1 else 0) + (if c = true then 1 else 0) + (if d = true then 1 else 0))) := by
  cases a <;> cases b <;> cases c <;> cases d <;> rfl
theorem idxL_b4 (a b c d : Bool) (h : a = true ∨ b = true ∨ c = true ∨ d = true) : idxL (.lst [.bl a, .bl b, .bl c, .bl d]) [.bl true] = .ok (.int (if a = true then 0 else if b = true then 1 else if c = true then 2 else 3)) := by
  cases a <;> cases b <;> cases c <;> cases d <;> simp at h <;> rfl
/-- a member by a number brought within -/
theorem pick_mod (xs : List D) (n i : Int) (hl : (xs.length : Int) = n) (h : 0 < n) : ∃ x, x ∈ xs ∧ ixD (.lst xs) (.int (i % n)) = .ok x := by
  have h1 := Int.emod_nonneg i (show n ≠ 0 by omega)
  have h2 := Int.emod_lt_of_pos i h
  have h3 : (i % n).toNat < xs.length := by omega
  exact ⟨xs[(i % n).toNat], List.getElem_mem h3, ixD_l _ _ h1 _ (List.getElem?_eq_getElem h3)⟩
end
end Z
namespace Z
noncomputable section
open PySem PySem.Spec PySem.P PyProof.Rows L2
/-! ### the ring of the roots of all least words from a first on -/
def nextP' (lo top n : Nat) (w : List Nat) (o : Option (List Nat)) : Prop := NextP lo top n w o
theorem last_not' {lo : Nat} : ∀ (v : List Nat), (∃ x ∈ v, x ≠ lo) → ∃ j, j < v.length ∧ v.getD j 0 ≠ lo ∧ ∀ i, j < i → i < v.length → v.getD i 0 = lo
  | [], h => by obtain ⟨x, hx, _⟩ := h; cases hx
  | a :: v, h => by
    by_cases hv : ∃ x ∈ v, x ≠ lo
    · obtain ⟨j, h1, h2, h3⟩ := last_not' v hv
      refine ⟨j + 1, by simp; omega, by simpa using h2, fun i hi hl => ?_⟩
      obtain ⟨i, rfl⟩ : ∃ i', i = i' + 1 := ⟨i - 1, by omega⟩
      simpa using h3 i (by omega) (by simpa using hl)
    · obtain ⟨x, hx, hne⟩ := h
      rcases List.mem_cons.mp hx with rfl | hx
      · refine ⟨0, by simp, by simpa using hne, fun i hi hl => ?_⟩
        obtain ⟨i, rfl⟩ : ∃ i', i = i' + 1 := ⟨i - 1, by omega⟩
        have hl' : i < v.length := by simpa using hl
        have hm : v.getD i 0 ∈ v := by
          rw [List.getD_eq_getElem?_getD, List.getElem?_eq_getElem hl']; simp
        have : ¬ (v.getD i 0 ≠ lo) := fun z => hv ⟨_, hm, z⟩
        simpa using this
      · exact absurd ⟨x, hx, hne⟩ hv
theorem getD_in {w : List Nat} {j : Nat} (h : j < w.length) : w.getD j 0 ∈ w := by
  rw [List.getD_eq_getElem?_getD, List.getElem?_eq_getElem h]; simp
theorem split_at {w : List Nat} {j : Nat} (h : j < w.length) : w = w.take j ++ w.getD j 0 :: w.drop (j + 1) := by
  rw [List.getD_eq_getElem?_getD, List.getElem?_eq_getElem h]
  simp
/-- the last letter that is not the top -/
def LastB (top : Nat) (y : List Nat) (j : Nat) : Prop := j < y.length ∧ y.getD j 0 < top ∧ ∀ i, j < i → i < y.length → y.getD i 0 = top
/-- how the next least word differs -/
theorem step_next {lo top n : Nat} {y z : List Nat} (hlo : lo ≤ top) (hy : Good lo top n y) (hz : Good lo top n z) (hlt : y < z) (hmin : ∀ g, Good lo top n g → y < g → ¬ g < z) :
    ∃ j, LastB top y j ∧ z.take j = y.take j ∧ z.getD j 0 = y.getD j 0 + 1 := by
  have hne : ∃ x ∈ y, x ≠ top := Classical.byContradiction fun q => by
    have e : y = List.replicate y.length top := List.eq_replicate_iff.mpr ⟨rfl, fun x hx => Classical.byContradiction fun z2 => q ⟨x, hx, z2⟩⟩
    rw [e, hy.1, ← hz.1] at hlt
    exact top_max z hz.below hlt
  obtain ⟨j, h1, h2, h3⟩ := last_not' (lo := top) y hne
  have hjt := (hy.2.2 _ (getD_in h1)).2
  have hyn := hy.1
  have hsp := split_at h1
  have hG : Good lo top n (y.take j ++ y.getD j 0 :: y.drop (j + 1)) := by rw [← hsp]; exact hy
  have hfl := firstL_le hG
  have hB := (Good.beg (lo := lo) (t := y.take j) (s := y.getD j 0 :: y.drop (j + 1)) hG).up (lo := lo) (e := y.getD j 0 + 1) (by simp; omega) (by omega) (by omega)
  have hg := hB.good (lo := lo) (fun x hx => by
    rcases List.mem_append.mp hx with h | h
    · exact hy.2.2 x (List.mem_of_mem_take h)
    · rw [List.mem_singleton.mp h]
      have := (hy.2.2 _ (getD_in h1)).1
      omega) hlo
  have hgl : (y.take j ++ [y.getD j 0 + 1]).length = j + 1 := by simp; omega
  rw [hgl, List.append_assoc, List.singleton_append] at hg
  have hgy := split_gt (s := List.replicate (n - (j + 1)) top) h1 (show y.getD j 0 < y.getD j 0 + 1 by omega)
  have hgz := hmin _ hg hgy
  refine ⟨j, ⟨h1, by omega, h3⟩, ?_⟩
  obtain ⟨j', c', s, i1, i2, rfl⟩ := gt_split (by rw [hyn, hz.1]) hlt
  have hct := (hz.2.2 c' (by simp)).2
  have hjj : j' ≤ j := Classical.byContradiction fun q => by
    have := h3 j' (by omega) i1
    omega
  by_cases e : j' = j
  · subst e
    rw [lex_pre, List.cons_lt_cons_iff] at hgz
    have : c' = y.getD j' 0 + 1 := Classical.byContradiction fun q => hgz (.inl (by omega))
    have htl : (y.take j').length = j' := by simp; omega
    refine ⟨by rw [List.take_append_of_le_length (by omega), List.take_take, Nat.min_self], ?_⟩
    rw [List.getD_eq_getElem?_getD, List.getElem?_append_right (by omega), htl, Nat.sub_self]
    simpa using this
  · exfalso
    apply hgz
    rw [take_at (i := j') (j := j) (by omega) (by omega), List.append_assoc, lex_pre, List.cons_append, List.cons_lt_cons_iff]
    exact .inl i2
theorem lastB_uniq {top : Nat} {y : List Nat} {j j' : Nat} (a : LastB top y j) (b : LastB top y j') : j = j' := by
  by_cases h : j < j'
  · have := a.2.2 j' h b.1
    have := b.2.1
    omega
  · by_cases h2 : j' < j
    · have := b.2.2 j h2 a.1
      have := a.2.1
      omega
    · omega
/-- the period of a word -/
theorem period {v : List Nat} (hv : v ≠ []) {i : Nat} (hi : i + rlen v < v.length) : v.getD i 0 = v.getD (i + rlen v) 0 := by
  have h := (rtOk_iff.mp (rlen_spec hv).2.1).2.2
  rw [List.getD_eq_getElem?_getD, List.getD_eq_getElem?_getD, h i (by omega), h (i + rlen v) hi, Nat.add_mod_right]
theorem lastB_ge {top : Nat} {v : List Nat} {j : Nat} (hv : v ≠ []) (h : LastB top v j) : v.length - rlen v ≤ j := Classical.byContradiction fun q => by
  have hp := rlen_pos hv
  have e := period hv (i := j) (by omega)
  have := h.2.2 (j + rlen v) (by omega) (by omega)
  have := h.2.1
  omega
theorem root_cycle {v : List Nat} (hv : v ≠ []) : v = rootW v ++ v.take (v.length - rlen v) ∧ v = v.take (v.length - rlen v) ++ rootW v := by
  have hs := rlen_spec hv
  have hp := rlen_pos hv
  have hl := root_len hv
  have hrep := root_rep hv
  obtain ⟨q, hq⟩ : ∃ q, v.length / rlen v = q + 1 := ⟨v.length / rlen v - 1, by have := Nat.div_pos hs.1 hp; omega⟩
  have hlen : v.length = (q + 1) * rlen v := by rw [← hq, Nat.div_mul_cancel (Nat.dvd_of_mod_eq_zero (rlen_dvd hv))]
  have hm : v.length - rlen v = q * rlen v := by rw [hlen, Nat.add_mul, Nat.one_mul]; omega
  rw [hq] at hrep
  have hql : (repS (rootW v) q).length = q * rlen v := by rw [repS_len, hl]
  have e2 : v = repS (rootW v) q ++ rootW v := by
    have : repS (rootW v) (q + 1) = repS (rootW v) q ++ repS (rootW v) 1 := repS_add _ _ _
    rw [show repS (rootW v) 1 = rootW v by simp [repS], hrep] at this
    exact this
  have e1 : v = rootW v ++ repS (rootW v) q := by
    rw [← repS_succ]; exact hrep.symm
  have ht : v.take (v.length - rlen v) = repS (rootW v) q := by
    have := congrArg (List.take (v.length - rlen v)) e2
    rw [hm, ← hql, List.take_left] at this
    rw [hm, ← hql]; exact this
  rw [ht]
  exact ⟨e1, e2⟩
theorem top_root {n top : Nat} (hn : 1 ≤ n) : rootW (List.replicate n top) = [top] := by
  have h0 : List.replicate n top ≠ [] := List.length_pos_iff.mp (by simp; omega)
  have hs := rlen_spec h0
  have hok : rtOk (List.replicate n top) 1 = true := by
    refine rtOk_iff.mpr ⟨by omega, Nat.mod_one _, fun i hi => ?_⟩
    rw [List.length_replicate] at hi
    rw [Nat.mod_one, List.getElem?_replicate, List.getElem?_replicate, if_pos hi, if_pos (by omega)]
  have h1 : rlen (List.replicate n top) = 1 := by
    have hp := rlen_pos h0
    exact Classical.byContradiction fun q => by
      have := hs.2.2 1 (by omega)
      rw [hok] at this
      cases this
  unfold rootW
  rw [h1, List.take_replicate, Nat.min_eq_left hn]
  rfl
theorem good_top {lo top n : Nat} {v : List Nat} (hv : Good lo top n v) (h0 : v.getD 0 0 = top) (hn : 1 ≤ n) : v = List.replicate n top := by
  cases v with
  | nil => have := hv.1; simp at this; omega
  | cons a v =>
    have ha : a = top := by simpa using h0
    have := nk_top hv.2.1 (fun x hx => (hv.2.2 x hx).2) ha
    rw [this]
    congr 1
    have := hv.1
    simpa using this
structure Rg (lo top n : Nat) (f : List Nat) (L : List (List Nat)) : Prop where
  lt : lo ≤ top
  n1 : 1 ≤ n
  good : ∀ v ∈ L, Good lo top n v
  first : L[0]? = some f
  next : ∀ i v, L[i]? = some v → NextP lo top n v L[i + 1]?
def XL (L : List (List Nat)) (i : Nat) : List Nat := ((L.drop i).map rootW).flatten
def YL (L : List (List Nat)) (i : Nat) : List Nat := ((L.take i).map rootW).flatten
theorem xl_cons {L : List (List Nat)} {i : Nat} {v : List Nat} (h : L[i]? = some v) : XL L i = rootW v ++ XL L (i + 1) := by
  obtain ⟨hi, rfl⟩ := List.getElem?_eq_some_iff.mp h
  unfold XL
  rw [List.drop_eq_getElem_cons hi, List.map_cons, List.flatten_cons]
theorem yl_succ {L : List (List Nat)} {i : Nat} {v : List Nat} (h : L[i]? = some v) : YL L (i + 1) = YL L i ++ rootW v := by
  unfold YL
  rw [List.take_succ, h]
  simp
theorem yx (L : List (List Nat)) (i : Nat) : YL L i ++ XL L i = XL L 0 := by
  unfold YL XL
  rw [List.drop_zero, ← List.flatten_append, ← List.map_append, List.take_append_drop]
section
variable {lo top n : Nat} {f : List Nat} {L : List (List Nat)}
theorem Rg.gd (h : Rg lo top n f L) {i : Nat} {v : List Nat} (e : L[i]? = some v) : Good lo top n v := h.good v (List.mem_of_getElem? e)
/-- a word that is not the last has a next one -/
theorem Rg.nx (h : Rg lo top n f L) {i : Nat} {v : List Nat} (e : L[i]? = some v) (hne : v ≠ List.replicate n top) :
    ∃ z j, L[i + 1]? = some z ∧ v < z ∧ LastB top v j ∧ z.take j = v.take j ∧ z.getD j 0 = v.getD j 0 + 1 ∧ (z = List.replicate n top → j = 0) := by
  have hv := h.gd e
  have hn := h.next i v e
  cases q : L[i + 1]? with
  | none =>
    rw [q] at hn
    exfalso
    refine hn (List.replicate n top) ⟨by simp, nk_rep _ _, fun x hx => by rw [List.eq_of_mem_replicate hx]; exact ⟨h.lt, Nat.le_refl _⟩⟩ ?_
    rcases lex_tri v (List.replicate n top) with z | z | z
    · exact z
    · exact absurd z hne
    · rw [← hv.1] at z; exact absurd z (top_max v hv.below)
  | some z =>
    rw [q] at hn
    obtain ⟨j, h1, h2, h3⟩ := step_next h.lt hv hn.1 hn.2.1 hn.2.2
    refine ⟨z, j, rfl, hn.2.1, h1, h2, h3, fun hz => Classical.byContradiction fun hj => hne (good_top hv ?_ h.n1)⟩
    have h4 : (v.take j).getD 0 0 = (z.take j).getD 0 0 := by rw [h2]
    have g0 : ∀ u : List Nat, (u.take j).getD 0 0 = u.getD 0 0 := fun u => by
      rw [List.getD_eq_getElem?_getD, List.getD_eq_getElem?_getD, List.getElem?_take, if_pos (by omega)]
    rw [g0, g0, hz] at h4
    rw [h4, List.getD_eq_getElem?_getD, List.getElem?_replicate, if_pos (by have := h.n1; omega)]
    rfl
theorem Rg.ne (h : Rg lo top n f L) {i : Nat} {v : List Nat} (e : L[i]? = some v) : v ≠ [] := List.length_pos_iff.mp (by have := (h.gd e).1; have := h.n1; omega)
/-- A: the ring goes on with the word from its place -/
theorem Rg.pre (h : Rg lo top n f L) : ∀ (m i : Nat) (v : List Nat), L.length - i = m → L[i]? = some v → v ≠ List.replicate n top → v <+: XL L i
  | 0, i, v, hm, e, _ => by
    obtain ⟨hi, _⟩ := List.getElem?_eq_some_iff.mp e
    omega
  | m + 1, i, v, hm, e, hne => by
    have hv := h.gd e
    have hv0 := h.ne e
    obtain ⟨z, j, ez, hlt, hj, hz1, hz2, hz3⟩ := h.nx e hne
    rw [xl_cons e]
    have hc := root_cycle hv0
    have hs := rlen_spec hv0
    have hge := lastB_ge hv0 hj
    by_cases hp : rlen v = n
    · rw [hv.1, hp, Nat.sub_self, List.take_zero, List.append_nil] at hc
      rw [← hc.1]
      exact List.prefix_append _ _
    · have hzn : z ≠ List.replicate n top := fun q => by
        have := hz3 q
        have := hv.1
        omega
      have ih := h.pre m (i + 1) z (by omega) ez hzn
      conv => lhs; rw [hc.1]
      refine (List.prefix_append_right_inj _).mpr ((?_ : v.take (v.length - rlen v) <+: z).trans ih)
      have e2 : v.take (v.length - rlen v) = z.take (v.length - rlen v) := by
        have := congrArg (List.take (v.length - rlen v)) hz1
        rw [List.take_take, List.take_take, Nat.min_eq_left hge] at this
        exact this.symm
      rw [e2]
      exact List.take_prefix _ _
theorem Rg.preA (h : Rg lo top n f L) {i : Nat} {v : List Nat} (e : L[i]? = some v) (hne : v ≠ List.replicate n top) : v <+: XL L i := h.pre _ i v rfl e hne
/-- B: turned by less than up to the tops behind -/
theorem Rg.mid (h : Rg lo top n f L) {i a j : Nat} {v : List Nat} (e : L[i]? = some v) (hne : v ≠ List.replicate n top) (hj : LastB top v j) (ha : a < rlen v) (haj : n - rlen v + a ≤ j) : rot v a <+: (XL L i).drop a := by
  have hv := h.gd e
  have hv0 := h.ne e
  by_cases h0 : a = 0
  · subst h0; rw [rot_zero, List.drop_zero]; exact h.preA e hne
  · obtain ⟨z, j', ez, hlt, hj', hz1, hz2, hz3⟩ := h.nx e hne
    have := lastB_uniq hj hj'
    subst this
    have hzn : z ≠ List.replicate n top := fun q => by have := hz3 q; omega
    have hpz := h.preA ez hzn
    have hrl := root_len hv0
    have hs := rlen_spec hv0
    have hc := root_cycle hv0
    rw [hv.1] at hc hs
    rw [xl_cons e, List.drop_append_of_le_length (by omega)]
    have e1 : v.take (n - rlen v + a) = v.take (n - rlen v) ++ v.take a := by
      rw [List.take_add]
      congr 1
      have h5 : v.drop (n - rlen v) = rootW v := by
        have := congrArg (List.drop (n - rlen v)) hc.2
        rw [List.drop_append_of_le_length (by rw [List.length_take, hv.1]; omega), List.drop_take, Nat.sub_self, List.take_zero, List.nil_append] at this
        exact this
      rw [h5]
      unfold rootW
      rw [List.take_take, Nat.min_eq_left (by omega)]
    have e2 : rot v a = (rootW v).drop a ++ v.take (n - rlen v + a) := by
      unfold rot
      rw [e1, ← List.append_assoc]
      congr 1
      have := congrArg (List.drop a) hc.1
      rw [List.drop_append_of_le_length (by omega)] at this
      exact this
    rw [e2]
    refine (List.prefix_append_right_inj _).mpr ((?_ : v.take (n - rlen v + a) <+: z).trans hpz)
    have e3 : v.take (n - rlen v + a) = z.take (n - rlen v + a) := by
      have := congrArg (List.take (n - rlen v + a)) hz1
      rw [List.take_take, List.take_take, Nat.min_eq_left haj] at this
      exact this.symm
    rw [e3]
    exact List.take_prefix _ _
/-- tops ahead of a word that is the first one of its beginning -/
theorem Rg.tops (h : Rg lo top n f L) {i s : Nat} {y z : List Nat} (e : L[i]? = some y) (ez : L[i + 1]? = some z) (hn : ¬ z.take (n - s) <+: y) (hs : s < n) : List.replicate s top <:+ rootW y := by
  have hy := h.gd e
  have hy0 := h.ne e
  have hne : y ≠ List.replicate n top := fun q => by
    have hN := h.next i y e
    rw [ez] at hN
    have h2 := hN.2.1
    rw [q, ← hN.1.1] at h2
    exact top_max z hN.1.below h2
  obtain ⟨z', j, ez', hlt, hj, hz1, hz2, hz3⟩ := h.nx e hne
  rw [ez] at ez'
  cases ez'
  have hj2 : j < n - s := Classical.byContradiction fun q => hn (by
    have := congrArg (List.take (n - s)) hz1
    rw [List.take_take, List.take_take, Nat.min_eq_left (by omega)] at this
    rw [this]
    exact List.take_prefix _ _)
  have hge := lastB_ge hy0 hj
  have hrl := root_len hy0
  have hc := (root_cycle hy0).2
  have hpn := (rlen_spec hy0).1
  rw [hy.1] at hc hge hpn
  have hsuf : (rootW y).drop (rlen y - s) = List.replicate s top := by
    refine List.eq_replicate_iff.mpr ⟨by rw [List.length_drop, hrl]; omega, fun x hx => ?_⟩
    obtain ⟨q, hq, rfl⟩ := List.mem_iff_getElem.mp hx
    rw [List.length_drop, hrl] at hq
    rw [List.getElem_drop]
    have h6 : y.getD (n - rlen y + (rlen y - s + q)) 0 = top := hj.2.2 _ (by omega) (by rw [hy.1]; omega)
    have h7 : y[n - rlen y + (rlen y - s + q)]? = (y.take (n - rlen y) ++ rootW y)[n - rlen y + (rlen y - s + q)]? := by rw [← hc]
    rw [List.getElem?_append_right (by rw [List.length_take, hy.1]; omega), List.length_take, hy.1, Nat.min_eq_left (by omega), Nat.add_sub_cancel_left, List.getElem?_eq_getElem (l := rootW y) (by rw [hrl]; omega)] at h7
    rw [List.getD_eq_getElem?_getD, h7] at h6
    simpa using h6
  rw [← hsuf]
  exact List.drop_suffix _ _
/-- the last one -/
theorem Rg.end_ (h : Rg lo top n f L) {v : List Nat} (e : L[L.length - 1]? = some v) : v = List.replicate n top := Classical.byContradiction fun hne => by
  obtain ⟨z, j, ez, _⟩ := h.nx e hne
  obtain ⟨hi, _⟩ := List.getElem?_eq_some_iff.mp ez
  obtain ⟨hi2, _⟩ := List.getElem?_eq_some_iff.mp e
  omega
/-- the ring ends with tops -/
theorem Rg.ends (h : Rg lo top n f L) (h2 : 2 ≤ L.length) : List.replicate n top <:+ XL L 0 := by
  obtain ⟨m, hm⟩ : ∃ m, L.length = m + 2 := ⟨L.length - 2, by omega⟩
  obtain ⟨y, ey⟩ : ∃ y, L[m]? = some y := ⟨_, List.getElem?_eq_getElem (by omega)⟩
  obtain ⟨t, et⟩ : ∃ t, L[m + 1]? = some t := ⟨_, List.getElem?_eq_getElem (by omega)⟩
  have htop := h.end_ (v := t) (by rw [hm]; exact et)
  have hN := h.next m _ ey
  rw [et] at hN
  have hne : y ≠ List.replicate n top := fun q => by
    have h3 := hN.2.1
    rw [q, htop] at h3
    exact List.lt_irrefl _ h3
  obtain ⟨z, j, ez, hlt, hj, hz1, hz2, hz3⟩ := h.nx ey hne
  rw [et] at ez
  cases ez
  have hj0 := hz3 htop
  subst hj0
  have hy := h.gd ey
  have hy0 := h.ne ey
  have hge := lastB_ge hy0 hj
  have hpn := (rlen_spec hy0).1
  have hp : rlen y = n := by rw [hy.1] at hge hpn; omega
  have hr : rootW y = y := by
    unfold rootW
    rw [hp, ← hy.1, List.take_length]
  have e0 := yx L (m + 2)
  have e1 := yl_succ ey
  have e2 := yl_succ et
  have e3 : XL L (m + 2) = [] := by
    unfold XL
    rw [List.drop_of_length_le (by omega)]
    rfl
  rw [e3, List.append_nil, e2, e1, htop, top_root h.n1, hr] at e0
  rw [← e0]
  have e4 : y = y.getD 0 0 :: List.replicate (n - 1) top := by
    have hsp := split_at hj.1
    rw [List.take_zero, List.nil_append, Nat.zero_add] at hsp
    conv => lhs; rw [hsp]
    congr 1
    refine List.eq_replicate_iff.mpr ⟨by rw [List.length_drop, hy.1], fun x hx => ?_⟩
    obtain ⟨q, hq, rfl⟩ := List.mem_iff_getElem.mp hx
    rw [List.length_drop] at hq
    have h6 := hj.2.2 (1 + q) (by omega) (by omega)
    rw [List.getD_eq_getElem?_getD, List.getElem?_eq_getElem (by omega)] at h6
    rw [List.getElem_drop]
    simpa using h6
  rw [e4]
  refine ⟨YL L m ++ [y.getD 0 0], ?_⟩
  have : List.replicate n top = List.replicate (n - 1) top ++ [top] := by
    have := h.n1
    rw [show n = (n - 1) + 1 by omega, List.replicate_succ', Nat.add_sub_cancel]
  rw [this]
  simp
end
end
end Z
namespace Z
noncomputable section
open PySem PySem.Spec PySem.P PyProof.Rows L2
/-! ### windows of the ring -/
def cyc (r : List Nat) (P m : Nat) : List Nat := (List.range m).map fun j => r.getD ((P + j) % r.length) 0
theorem cyc_len (r : List Nat) (P m : Nat) : (cyc r P m).length = m := by simp [cyc]
theorem cyc_get {r : List Nat} {P m j : Nat} (h : j < m) : (cyc r P m)[j]? = some (r.getD ((P + j) % r.length) 0) := by
  unfold cyc
  rw [List.getElem?_map, List.getElem?_range h]
  rfl
theorem getD_some {w : List Nat} {j : Nat} (h : j < w.length) : w[j]? = some (w.getD j 0) := by
  rw [List.getD_eq_getElem?_getD, List.getElem?_eq_getElem h]; rfl
theorem cyc_ext {r w : List Nat} {P : Nat} (h : ∀ j, j < w.length → r.getD ((P + j) % r.length) 0 = w.getD j 0) : cyc r P w.length = w := by
  apply List.ext_getElem?
  intro j
  by_cases hj : j < w.length
  · rw [cyc_get hj, getD_some hj, h j hj]
  · rw [List.getElem?_eq_none (by rw [cyc_len]; omega), List.getElem?_eq_none (by omega)]
theorem pre_get {w r : List Nat} (h : w <+: r) {j : Nat} (hj : j < w.length) : r.getD j 0 = w.getD j 0 := by
  obtain ⟨s, rfl⟩ := h
  rw [List.getD_eq_getElem?_getD, List.getD_eq_getElem?_getD, List.getElem?_append_left hj]
theorem suf_get {a r : List Nat} (h : a <:+ r) {j : Nat} (hj : j < a.length) : r.getD (r.length - a.length + j) 0 = a.getD j 0 := by
  obtain ⟨s, rfl⟩ := h
  rw [List.getD_eq_getElem?_getD, List.getD_eq_getElem?_getD, List.length_append, List.getElem?_append_right (by omega)]
  congr 2
  omega
theorem cyc_lin {r w : List Nat} {P : Nat} (h : w <+: r.drop P) (hP : P ≤ r.length) : cyc r P w.length = w := by
  refine cyc_ext fun j hj => ?_
  have hl := h.length_le
  rw [List.length_drop] at hl
  rw [Nat.mod_eq_of_lt (by omega), ← pre_get h hj, List.getD_eq_getElem?_getD, List.getD_eq_getElem?_getD, List.getElem?_drop]
theorem cyc_wrap {r a b : List Nat} (ha : a <:+ r) (hb : b <+: r) : cyc r (r.length - a.length) (a.length + b.length) = a ++ b := by
  rw [← List.length_append]
  have hal := ha.length_le
  have hbl := hb.length_le
  refine cyc_ext fun j hj => ?_
  rw [List.length_append] at hj
  by_cases h : j < a.length
  · rw [Nat.mod_eq_of_lt (by omega), suf_get ha h, List.getD_eq_getElem?_getD, List.getD_eq_getElem?_getD, List.getElem?_append_left h]
  · have e : (r.length - a.length + j) % r.length = j - a.length := by
      rw [show r.length - a.length + j = (j - a.length) + r.length by omega, Nat.add_mod_right, Nat.mod_eq_of_lt (by omega)]
    rw [e, pre_get hb (by omega), List.getD_eq_getElem?_getD, List.getD_eq_getElem?_getD, List.getElem?_append_right (by omega)]
section
variable {lo top n : Nat} {f : List Nat} {L : List (List Nat)}
theorem ring_len (L : List (List Nat)) (i : Nat) : (YL L i).length + (XL L i).length = (XL L 0).length := by
  rw [← yx L i, List.length_append]
theorem ring_drop (L : List (List Nat)) (i a : Nat) : (XL L 0).drop ((YL L i).length + a) = (XL L i).drop a := by
  rw [← yx L i, ← List.drop_drop, List.drop_left]
theorem Rg.placeB (h : Rg lo top n f L) {i a j : Nat} {v : List Nat} (e : L[i]? = some v) (hne : v ≠ List.replicate n top) (hj : LastB top v j) (ha : a < rlen v) (haj : n - rlen v + a ≤ j) :
    cyc (XL L 0) ((YL L i).length + a) n = rot v a ∧ (YL L i).length + a < (XL L 0).length := by
  have hm := h.mid e hne hj ha haj
  have hl := hm.length_le
  have hv := (h.gd e).1
  have h1 := h.n1
  rw [rot_len, hv, List.length_drop] at hl
  have hr := ring_len L i
  rw [← ring_drop] at hm
  have := cyc_lin hm (by omega)
  rw [rot_len, hv] at this
  exact ⟨this, by omega⟩
theorem Rg.placeT (h : Rg lo top n f L) (h2 : 2 ≤ L.length) : cyc (XL L 0) ((XL L 0).length - n) n = List.replicate n top ∧ n ≤ (XL L 0).length := by
  have he := h.ends h2
  have hl := he.length_le
  rw [List.length_replicate] at hl
  have := cyc_wrap he (b := []) List.nil_prefix
  rw [List.length_replicate, List.length_nil, Nat.add_zero, List.append_nil] at this
  exact ⟨this, hl⟩
theorem suf_rep {s n top : Nat} {r : List Nat} (h : List.replicate n top <:+ r) (hs : s ≤ n) : List.replicate s top <:+ r := by
  refine List.IsSuffix.trans ⟨List.replicate (n - s) top, ?_⟩ h
  rw [List.replicate_append_replicate]
  congr 1
  omega
theorem Rg.placeC0 (h : Rg lo top n f L) {s : Nat} {z : List Nat} (h2 : 2 ≤ L.length) (e : L[0]? = some z) (hne : z ≠ List.replicate n top) (hs : s ≤ n) : cyc (XL L 0) ((XL L 0).length - s) n = List.replicate s top ++ z.take (n - s) := by
  have hsuf := suf_rep (h.ends h2) hs
  have hp := (List.take_prefix (n - s) z).trans (h.preA e hne)
  have := cyc_wrap hsuf hp
  rw [List.length_replicate, List.length_take, (h.gd e).1, Nat.min_eq_left (by omega), show s + (n - s) = n by omega] at this
  exact this
theorem Rg.placeC (h : Rg lo top n f L) {s i : Nat} {y z : List Nat} (e : L[i]? = some y) (ez : L[i + 1]? = some z) (hne : z ≠ List.replicate n top) (hn : ¬ z.take (n - s) <+: y) (hs : s < n) :
    cyc (XL L 0) ((YL L (i + 1)).length - s) n = List.replicate s top ++ z.take (n - s) ∧ s ≤ (YL L (i + 1)).length ∧ (YL L (i + 1)).length < (XL L 0).length := by
  have ht := h.tops e ez hn hs
  have hp := h.preA ez hne
  have hz := (h.gd ez).1
  have h1 := h.n1
  obtain ⟨u, hu⟩ := ht
  have hy : YL L (i + 1) = YL L i ++ u ++ List.replicate s top := by rw [yl_succ e, ← hu, List.append_assoc]
  have hyl : (YL L (i + 1)).length = (YL L i ++ u).length + s := by rw [hy, List.length_append, List.length_replicate]
  have hr := ring_len L (i + 1)
  have hpl := hp.length_le
  have hd : (XL L 0).drop ((YL L (i + 1)).length - s) = List.replicate s top ++ XL L (i + 1) := by
    rw [hyl, Nat.add_sub_cancel, ← yx L (i + 1), hy, List.append_assoc, List.append_assoc, ← List.append_assoc, List.drop_left]
  have hq : List.replicate s top ++ z.take (n - s) <+: (XL L 0).drop ((YL L (i + 1)).length - s) := by
    rw [hd]
    exact (List.prefix_append_right_inj _).mpr ((List.take_prefix _ _).trans hp)
  have := cyc_lin hq (by omega)
  rw [List.length_append, List.length_replicate, List.length_take, hz, Nat.min_eq_left (by omega), show s + (n - s) = n by omega] at this
  exact ⟨this, by omega, by omega⟩
end
/-! ### all of them -/
theorem perm_of_sub : ∀ {l m : List (List Nat)}, l.Nodup → (∀ x ∈ l, x ∈ m) → m.length ≤ l.length → l.Perm m
  | [], m, _, _, hl => by
    have : m = [] := List.eq_nil_of_length_eq_zero (by simpa using hl)
    subst this
    exact .refl _
  | a :: l, m, hn, hs, hl => by
    obtain ⟨m1, m2, rfl⟩ := List.append_of_mem (hs a (by simp))
    have hn' := List.nodup_cons.mp hn
    have ih := perm_of_sub (l := l) (m := m1 ++ m2) hn'.2 (fun x hx => by
      have := hs x (by simp [hx])
      simp at this ⊢
      rcases this with h | h | h
      · exact .inl h
      · subst h; exact absurd hx hn'.1
      · exact .inr h) (by simp at hl ⊢; omega)
    exact (List.Perm.cons a ih).trans List.perm_middle.symm
/-- the least words from a first on -/
def lsL (k n : Nat) (f : List Nat) : List (List Nat) := (selW k n Nk).filter fun v => dcd (¬ v < f)
section
variable {k n : Nat} {f : List Nat}
theorem mem_lsL (h1 : 1 ≤ k) (h2 : k ≤ 6) {v : List Nat} : v ∈ lsL k n f ↔ Good 97 (96 + k) n v ∧ ¬ v < f := by
  unfold lsL
  rw [List.mem_filter, mem_selW h1 h2, dcd_iff]
  constructor
  · rintro ⟨⟨a, b, c⟩, d⟩; exact ⟨⟨a, c, b⟩, d⟩
  · rintro ⟨⟨a, c, b⟩, d⟩; exact ⟨⟨a, b, c⟩, d⟩
theorem lsL_sorted (h1 : 1 ≤ k) (h2 : k ≤ 6) : (lsL k n f).Pairwise (· < ·) := (selW_sorted h1 h2).filter _
theorem lsL_rg (h1 : 1 ≤ k) (h2 : k ≤ 6) (hn : 1 ≤ n) (hf : Good 97 (96 + k) n f) : Rg 97 (96 + k) n f (lsL k n f) where
  lt := by omega
  n1 := hn
  good := fun v hv => ((mem_lsL h1 h2).mp hv).1
  first := by
    have := filter_head (p := fun _ => true) (r := f) (lsL_sorted (n := n) (f := f) h1 h2) ((mem_lsL h1 h2).mpr ⟨hf, List.lt_irrefl _⟩) rfl fun w hw _ => ((mem_lsL h1 h2).mp hw).2
    rwa [filter_true] at this
  next := fun i v e => by
    have hs := lsL_sorted (n := n) (f := f) h1 h2
    obtain ⟨hi, hv⟩ := List.getElem?_eq_some_iff.mp e
    have hvm := (mem_lsL h1 h2).mp (List.mem_of_getElem? e)
    have ix : ∀ g, Good 97 (96 + k) n g → v < g → ∃ q, ∃ hq : q < (lsL k n f).length, i < q ∧ (lsL k n f)[q] = g := fun g hg hlt => by
      have hgm : g ∈ lsL k n f := (mem_lsL h1 h2).mpr ⟨hg, fun z => hvm.2 (List.lt_trans hlt z)⟩
      obtain ⟨q, hq, hqe⟩ := List.mem_iff_getElem.mp hgm
      refine ⟨q, hq, Classical.byContradiction fun z => ?_, hqe⟩
      by_cases e2 : q = i
      · subst e2
        rw [hv] at hqe
        rw [hqe] at hlt
        exact List.lt_irrefl _ hlt
      · have := List.pairwise_iff_getElem.mp hs q i hq hi (by omega)
        rw [hv, hqe] at this
        exact List.lt_irrefl _ (List.lt_trans this hlt)
    cases q : (lsL k n f)[i + 1]? with
    | none =>
      intro g hg hlt
      obtain ⟨m, hm, him, -⟩ := ix g hg hlt
      have := List.getElem?_eq_none_iff.mp q
      omega
    | some z =>
      obtain ⟨hi1, hz⟩ := List.getElem?_eq_some_iff.mp q
      have hzm := (mem_lsL h1 h2).mp (List.mem_of_getElem? q)
      refine ⟨hzm.1, ?_, fun g hg hlt hgz => ?_⟩
      · have := List.pairwise_iff_getElem.mp hs i (i + 1) hi hi1 (by omega)
        rwa [hv, hz] at this
      · obtain ⟨m, hm, him, hme⟩ := ix g hg hlt
        by_cases e2 : m = i + 1
        · subst e2
          rw [hz] at hme
          rw [hme] at hgz
          exact List.lt_irrefl _ hgz
        · have := List.pairwise_iff_getElem.mp hs (i + 1) m hi1 hm (by omega)
          rw [hz, hme] at this
          exact List.lt_irrefl _ (List.lt_trans this hgz)
/-- the ring of a first -/
def ringW (k n : Nat) (f : List Nat) : List Nat := XL (lsL k n f) 0
theorem pos_up (h1 : 1 ≤ k) (h2 : k ≤ 6) (hn : 1 ≤ n) (hf : Good 97 (96 + k) n f) : ∀ (i : Nat) (v : List Nat), (lsL k n f)[i]? = some v → upW k v + rlen f = upW k f + (YL (lsL k n f) i).length + rlen v
  | 0, v, e => by
    have := (lsL_rg h1 h2 hn hf).first
    rw [e] at this
    cases this
    simp [YL]
  | i + 1, v, e => by
    have R := lsL_rg h1 h2 hn hf
    obtain ⟨hi, _⟩ := List.getElem?_eq_some_iff.mp e
    have ey : (lsL k n f)[i]? = some (lsL k n f)[i] := List.getElem?_eq_getElem (by omega)
    have ih := pos_up h1 h2 hn hf i _ ey
    have hN := R.next i _ ey
    rw [e] at hN
    have hyl := (R.gd ey).1
    have hy0 := R.ne ey
    have hN2 : NextP 97 (96 + k) ((lsL k n f)[i]).length (lsL k n f)[i] (some v) := by rw [hyl]; exact hN
    have hu := upW_next h1 h2 hy0 hN2.1 hN2.2.1 hN2.2.2
    rw [yl_succ ey, List.length_append, root_len hy0]
    omega
theorem ring_total (h1 : 1 ≤ k) (h2 : k ≤ 6) (hn : 1 ≤ n) (hf : Good 97 (96 + k) n f) : k ^ n + rlen f = upW k f + (ringW k n f).length := by
  have R := lsL_rg h1 h2 hn hf
  have hL : 0 < (lsL k n f).length := by
    obtain ⟨h, _⟩ := List.getElem?_eq_some_iff.mp R.first
    omega
  have et : (lsL k n f)[(lsL k n f).length - 1]? = some (lsL k n f)[(lsL k n f).length - 1] := List.getElem?_eq_getElem (by omega)
  have htop := R.end_ et
  have hp := pos_up h1 h2 hn hf _ _ et
  rw [htop, upTo_full h1 h2 hn] at hp
  have hy := yl_succ et
  rw [htop, top_root hn] at hy
  have hr : rlen (List.replicate n (96 + k)) = 1 := by
    have := root_len (w := List.replicate n (96 + k)) (List.length_pos_iff.mp (by simp; omega))
    rw [top_root hn] at this
    simpa using this.symm
  have hx := yx (lsL k n f) ((lsL k n f).length - 1 + 1)
  have hx0 : XL (lsL k n f) ((lsL k n f).length - 1 + 1) = [] := by
    unfold XL
    rw [List.drop_of_length_le (by omega)]
    rfl
  rw [hx0, List.append_nil, hy] at hx
  unfold ringW
  rw [← hx, List.length_append]
  rw [hr] at hp
  simp
  omega
theorem ring_cnt (h1 : 1 ≤ k) (h2 : k ≤ 6) (hn : 1 ≤ n) (hf : Good 97 (96 + k) n f) : cnt k n (fun v => ¬ lrot v < f) = (ringW k n f).length := by
  have ht := ring_total h1 h2 hn hf
  have hf0 : f ≠ [] := List.length_pos_iff.mp (by have := hf.1; omega)
  have hc := cnt_lrot h1 h2 hf0 hf.2.1 hf.2.2
  have e1 := cnt_split (k := k) (t := n) (fun _ => True) (fun v => ¬ f < lrot v)
  have e2 := cnt_split (k := k) (t := n) (fun v => ¬ lrot v < f) (fun v => lrot v = f)
  rw [cnt_all h2] at e1
  have a1 : cnt k n (fun v => True ∧ ¬ f < lrot v) = upW k f := by
    unfold upW
    rw [hf.1]
    exact cnt_congr h1 h2 fun v _ _ => by rw [true_and]
  have a2 : cnt k n (fun v => True ∧ ¬ ¬ f < lrot v) = cnt k n (fun v => ¬ lrot v < f ∧ ¬ lrot v = f) := cnt_congr h1 h2 fun v _ _ => by
    rw [true_and, Classical.not_not]
    constructor
    · intro h; exact ⟨fun z => List.lt_irrefl _ (List.lt_trans h z), fun z => by rw [z] at h; exact List.lt_irrefl _ h⟩
    · rintro ⟨a, b⟩
      rcases lex_tri f (lrot v) with h | h | h
      · exact h
      · exact absurd h.symm b
      · exact absurd h a
  have a3 : cnt k n (fun v => ¬ lrot v < f ∧ lrot v = f) = rlen f := by
    rw [← hc, hf.1]
    exact cnt_congr h1 h2 fun v _ _ => ⟨fun h => h.2, fun h => ⟨by rw [h]; exact List.lt_irrefl _, h⟩⟩
  omega
end
end
end Z
namespace Z
noncomputable section
open PySem PySem.Spec PySem.P PyProof.Rows L2
/-! ### where a word stands on the ring -/
section
variable {lo top n : Nat} {f : List Nat} {L : List (List Nat)}
theorem Rg.two (h : Rg lo top n f L) {i : Nat} {v : List Nat} (e : L[i]? = some v) (hne : v ≠ List.replicate n top) : 2 ≤ L.length := by
  obtain ⟨z, j, ez, _⟩ := h.nx e hne
  obtain ⟨hi, _⟩ := List.getElem?_eq_some_iff.mp ez
  omega
theorem lastB_ex {lo top n : Nat} {v : List Nat} (hv : Good lo top n v) (hne : v ≠ List.replicate n top) : ∃ j, LastB top v j := by
  have : ∃ x ∈ v, x ≠ top := Classical.byContradiction fun q => hne (by
    rw [← hv.1]
    exact List.eq_replicate_iff.mpr ⟨rfl, fun x hx => Classical.byContradiction fun z2 => q ⟨x, hx, z2⟩⟩)
  obtain ⟨j, h1, h2, h3⟩ := last_not' (lo := top) v this
  have := (hv.2.2 _ (getD_in h1)).2
  exact ⟨j, h1, by omega, h3⟩
/-- turned into the tops behind -/
theorem turn_tops {lo top n : Nat} {v : List Nat} {a j : Nat} (hv : Good lo top n v) (hn : 1 ≤ n) (hj : LastB top v j) (ha : a < rlen v) (haj : ¬ n - rlen v + a ≤ j) :
    rot v a = List.replicate (rlen v - a) top ++ v.take (n - (rlen v - a)) ∧ rlen v - a < n ∧ j < n - (rlen v - a) := by
  have hv0 : v ≠ [] := List.length_pos_iff.mp (by have := hv.1; omega)
  have hrl := root_len hv0
  have hs := rlen_spec hv0
  have hc := root_cycle hv0
  rw [hv.1] at hc hs
  have hjn := hj.1
  rw [hv.1] at hjn
  refine ⟨?_, by omega, by omega⟩
  have e1 : v.take (n - rlen v + a) = v.take (n - rlen v) ++ v.take a := by
    rw [List.take_add]
    congr 1
    have h5 : v.drop (n - rlen v) = rootW v := by
      have := congrArg (List.drop (n - rlen v)) hc.2
      rw [List.drop_append_of_le_length (by rw [List.length_take, hv.1]; omega), List.drop_take, Nat.sub_self, List.take_zero, List.nil_append] at this
      exact this
    rw [h5]
    unfold rootW
    rw [List.take_take, Nat.min_eq_left (by omega)]
  have e2 : rot v a = (rootW v).drop a ++ v.take (n - rlen v + a) := by
    unfold rot
    rw [e1, ← List.append_assoc]
    congr 1
    have := congrArg (List.drop a) hc.1
    rw [List.drop_append_of_le_length (by omega)] at this
    exact this
  rw [e2, show n - (rlen v - a) = n - rlen v + a by omega]
  congr 1
  refine List.eq_replicate_iff.mpr ⟨by rw [List.length_drop, hrl], fun x hx => ?_⟩
  obtain ⟨q, hq, rfl⟩ := List.mem_iff_getElem.mp hx
  rw [List.length_drop, hrl] at hq
  rw [List.getElem_drop]
  have h6 : v.getD (n - rlen v + (a + q)) 0 = top := hj.2.2 _ (by omega) (by rw [hv.1]; omega)
  have h7 : v[n - rlen v + (a + q)]? = (v.take (n - rlen v) ++ rootW v)[n - rlen v + (a + q)]? := by rw [← hc.2]
  rw [List.getElem?_append_right (by rw [List.length_take, hv.1]; omega), List.length_take, hv.1, Nat.min_eq_left (by omega), Nat.add_sub_cancel_left, List.getElem?_eq_getElem (l := rootW v) (by rw [hrl]; omega)] at h7
  rw [List.getD_eq_getElem?_getD, h7] at h6
  simpa using h6
theorem Rg.placeD (h : Rg lo top n f L) {i i' a j : Nat} {v z : List Nat} (e : L[i]? = some v) (hne : v ≠ List.replicate n top) (hj : LastB top v j) (ha : a < rlen v) (haj : ¬ n - rlen v + a ≤ j)
    (ez : L[i']? = some z) (hp : v.take (n - (rlen v - a)) <+: z) (hno : ∀ i0 y, i0 < i' → L[i0]? = some y → ¬ v.take (n - (rlen v - a)) <+: y) :
    cyc (XL L 0) (((YL L i').length + (XL L 0).length - (rlen v - a)) % (XL L 0).length) n = rot v a ∧ ((YL L i').length + (XL L 0).length - (rlen v - a)) % (XL L 0).length < (XL L 0).length ∧ rlen v - a ≤ (XL L 0).length := by
  have hv := h.gd e
  obtain ⟨t1, t2, t3⟩ := turn_tops hv h.n1 hj ha haj
  have h2 := h.two e hne
  have hT := h.placeT h2
  have hn := h.n1
  have hzt : z.take (n - (rlen v - a)) = v.take (n - (rlen v - a)) := by
    have hl : (v.take (n - (rlen v - a))).length = n - (rlen v - a) := by rw [List.length_take, hv.1]; omega
    have := List.prefix_iff_eq_take.mp hp
    rw [hl] at this
    exact this.symm
  have hzne : z ≠ List.replicate n top := fun q => hne (good_top hv (by
    have g0 : ∀ u : List Nat, (u.take (n - (rlen v - a))).getD 0 0 = u.getD 0 0 := fun u => by
      rw [List.getD_eq_getElem?_getD, List.getD_eq_getElem?_getD, List.getElem?_take, if_pos (by omega)]
    rw [← g0 v, ← hzt, g0, q, List.getD_eq_getElem?_getD, List.getElem?_replicate, if_pos (by omega)]
    rfl) hn)
  have hlt : ((YL L i').length + (XL L 0).length - (rlen v - a)) % (XL L 0).length < (XL L 0).length := Nat.mod_lt _ (by omega)
  refine ⟨?_, hlt, by omega⟩
  cases i' with
  | zero =>
    have := h.placeC0 h2 ez hzne (show rlen v - a ≤ n by omega)
    rw [hzt, ← t1] at this
    rw [show (YL L 0).length = 0 by simp [YL], Nat.zero_add, Nat.mod_eq_of_lt (by omega)]
    exact this
  | succ i' =>
    obtain ⟨hi1, _⟩ := List.getElem?_eq_some_iff.mp ez
    have ey : L[i']? = some L[i'] := List.getElem?_eq_getElem (by omega)
    obtain ⟨c1, c2, c3⟩ := h.placeC ey ez hzne (by rw [hzt]; exact hno i' _ (by omega) ey) t2
    rw [hzt, ← t1] at c1
    have e4 : ((YL L (i' + 1)).length + (XL L 0).length - (rlen v - a)) % (XL L 0).length = (YL L (i' + 1)).length - (rlen v - a) := by
      rw [show (YL L (i' + 1)).length + (XL L 0).length - (rlen v - a) = ((YL L (i' + 1)).length - (rlen v - a)) + (XL L 0).length by omega, Nat.add_mod_right, Nat.mod_eq_of_lt (by omega)]
    rw [e4]
    exact c1
theorem first_idx {P : List Nat → Prop} : ∀ {L : List (List Nat)} {i : Nat} {v : List Nat}, L[i]? = some v → P v → ∃ i' z, i' ≤ i ∧ L[i']? = some z ∧ P z ∧ ∀ i0 y, i0 < i' → L[i0]? = some y → ¬ P y
  | a :: L, 0, v, e, hp => ⟨0, v, Nat.le_refl _, e, hp, fun i0 y h => by omega⟩
  | a :: L, i + 1, v, e, hp => by
    by_cases ha : P a
    · exact ⟨0, a, by omega, rfl, ha, fun i0 y h => by omega⟩
    · obtain ⟨i', z, h1, h2, h3, h4⟩ := first_idx (L := L) (i := i) (by simpa using e) hp
      refine ⟨i' + 1, z, by omega, by simpa using h2, h3, fun i0 y h hy => ?_⟩
      cases i0 with
      | zero => simp at hy; subst hy; exact ha
      | succ i0 => exact h4 i0 y (by omega) (by simpa using hy)
end
theorem rot_top {n top i : Nat} : rot (List.replicate n top) i = List.replicate n top := by
  unfold rot
  rw [List.drop_replicate, List.take_replicate, List.replicate_append_replicate]
  congr 1
  omega
section
variable {k n : Nat} {f : List Nat}
/-- each word whose least turn is not less stands there -/
theorem word_stands (h1 : 1 ≤ k) (h2 : k ≤ 6) (hn : 1 ≤ n) (hf : Good 97 (96 + k) n f) {w : List Nat} (hl : w.length = n) (hr : ∀ x ∈ w, 97 ≤ x ∧ x ≤ 96 + k) (hw : ¬ lrot w < f) : ∃ P, P < (ringW k n f).length ∧ cyc (ringW k n f) P n = w := by
  have R := lsL_rg h1 h2 hn hf
  have hw0 : w ≠ [] := List.length_pos_iff.mp (by omega)
  have hg := good_lrot hw0 hr
  rw [hl] at hg
  obtain ⟨i, hi, hie⟩ := List.mem_iff_getElem.mp ((mem_lsL (k := k) (n := n) (f := f) h1 h2).mpr ⟨hg, hw⟩)
  have e : (lsL k n f)[i]? = some (lrot w) := by rw [List.getElem?_eq_getElem hi, hie]
  obtain ⟨m, hm, hwm⟩ := lrot_back hw0
  by_cases hne : lrot w = List.replicate n (96 + k)
  · rw [hne, rot_top] at hwm
    by_cases h3 : 2 ≤ (lsL k n f).length
    · obtain ⟨t1, t2⟩ := R.placeT h3
      exact ⟨(XL (lsL k n f) 0).length - n, by unfold ringW; omega, by unfold ringW; rw [t1, hwm]⟩
    · have hL1 : (lsL k n f).length = 1 := by omega
      have e0 := xl_cons e
      have hi0 : i = 0 := by omega
      subst hi0
      have hx : XL (lsL k n f) (0 + 1) = [] := by
        unfold XL
        rw [List.drop_of_length_le (by omega)]
        rfl
      rw [hx, List.append_nil, hne, top_root hn] at e0
      unfold ringW
      rw [e0]
      refine ⟨0, by simp, ?_⟩
      conv => lhs; rw [← hl]
      refine cyc_ext fun j hj => ?_
      rw [hwm, List.length_singleton, Nat.mod_one, List.getD_eq_getElem?_getD, List.getD_eq_getElem?_getD, List.getElem?_replicate, if_pos (by omega)]
      rfl
  · have hv0 := R.ne e
    obtain ⟨j, hj⟩ := lastB_ex hg hne
    have hp := rlen_pos hv0
    rw [rot_mod hv0 (by rw [hg.1]; omega)] at hwm
    have ha : m % rlen (lrot w) < rlen (lrot w) := Nat.mod_lt _ hp
    generalize m % rlen (lrot w) = a at hwm ha
    by_cases haj : n - rlen (lrot w) + a ≤ j
    · obtain ⟨t1, t2⟩ := R.placeB e hne hj ha haj
      exact ⟨_, t2, by rw [← hwm] at t1; exact t1⟩
    · obtain ⟨i', z, -, c2, c3, c4⟩ := first_idx (P := fun y => (lrot w).take (n - (rlen (lrot w) - a)) <+: y) e (List.take_prefix _ _)
      obtain ⟨t1, t2, -⟩ := R.placeD e hne hj ha haj c2 c3 c4
      exact ⟨_, t2, by rw [← hwm] at t1; exact t1⟩
/-- the windows of the ring are these words, each once -/
theorem ring_windows (h1 : 1 ≤ k) (h2 : k ≤ 6) (hn : 1 ≤ n) (hf : Good 97 (96 + k) n f) : (selW k n fun v => ¬ lrot v < f).Perm ((List.range (ringW k n f).length).map fun P => cyc (ringW k n f) P n) := by
  refine perm_of_sub (nodup_selW h1 h2) (fun w hw => ?_) ?_
  · obtain ⟨a, b, c⟩ := (mem_selW h1 h2).mp hw
    obtain ⟨P, hP, e⟩ := word_stands h1 h2 hn hf a b c
    exact List.mem_map.mpr ⟨P, List.mem_range.mpr hP, e⟩
  · rw [List.length_map, List.length_range, ← ring_cnt h1 h2 hn hf]
    exact Nat.le_refl _
theorem ring_inj (h1 : 1 ≤ k) (h2 : k ≤ 6) (hn : 1 ≤ n) (hf : Good 97 (96 + k) n f) {P Q : Nat} (hP : P < (ringW k n f).length) (hQ : Q < (ringW k n f).length) (e : cyc (ringW k n f) P n = cyc (ringW k n f) Q n) : P = Q := by
  have hp := ring_windows h1 h2 hn hf
  have hnd := (hp.nodup_iff).mp (nodup_selW h1 h2)
  have := List.pairwise_map.mp hnd
  by_cases h : P < Q
  · exact absurd e (List.pairwise_iff_getElem.mp this P Q (by simpa using hP) (by simpa using hQ) h |> (by simpa using ·))
  · by_cases h' : Q < P
    · exact absurd e.symm (List.pairwise_iff_getElem.mp this Q P (by simpa using hQ) (by simpa using hP) h' |> (by simpa using ·))
    · omega
theorem ring_word (h1 : 1 ≤ k) (h2 : k ≤ 6) (hn : 1 ≤ n) (hf : Good 97 (96 + k) n f) {P : Nat} (hP : P < (ringW k n f).length) : (∀ x ∈ cyc (ringW k n f) P n, 97 ≤ x ∧ x ≤ 96 + k) ∧ ¬ lrot (cyc (ringW k n f) P n) < f := by
  have hp := ring_windows h1 h2 hn hf
  have : cyc (ringW k n f) P n ∈ selW k n fun v => ¬ lrot v < f := hp.mem_iff.mpr (List.mem_map.mpr ⟨P, List.mem_range.mpr hP, rfl⟩)
  exact ((mem_selW h1 h2).mp this).2
end
end
end Z
namespace Z
noncomputable section
open PySem PySem.Spec PySem.P PyProof.Rows L2
theorem NextP.uniq {lo top n : Nat} {w : List Nat} {o o' : Option (List Nat)} (a : NextP lo top n w o) (b : NextP lo top n w o') : o = o' := by
  cases o with
  | none =>
    cases o' with
    | none => rfl
    | some r => exact absurd b.2.1 (a r b.1)
  | some x =>
    cases o' with
    | none => exact absurd a.2.1 (b x a.1)
    | some r =>
      rcases lex_tri x r with h | h | h
      · exact absurd h (b.2.2 x a.1 a.2.1)
      · rw [h]
      · exact absurd h (a.2.2 r b.1 b.2.1)
theorem repS_cyc {t : List Nat} {m n P : Nat} (h : t.length + n ≤ m * t.length) (hP : P < t.length) : ((repS t m).drop P).take n = cyc t P n := by
  apply List.ext_getElem?
  intro j
  by_cases hj : j < n
  · rw [List.getElem?_take, if_pos hj, List.getElem?_drop, repS_get _ _ _ (by omega), cyc_get hj, getD_some (Nat.mod_lt _ (by omega))]
  · rw [List.getElem?_take, if_neg hj, List.getElem?_eq_none (by rw [cyc_len]; omega)]
theorem upW_root {k : Nat} {v : List Nat} (h1 : 1 ≤ k) (h2 : k ≤ 6) (h0 : v ≠ []) (hN : Nk v) (hl : ∀ x ∈ v, 97 ≤ x ∧ x ≤ 96 + k) : rlen v ≤ upW k v := by
  rw [← cnt_lrot h1 h2 h0 hN hl]
  unfold upW
  rw [cnt_split (fun u => ¬ v < lrot u) (fun u => lrot u = v)]
  have : cnt k v.length (fun u => lrot u = v) = cnt k v.length (fun u => ¬ v < lrot u ∧ lrot u = v) := cnt_congr h1 h2 fun u _ _ => ⟨fun h => ⟨by rw [h]; exact List.lt_irrefl _, h⟩, fun h => h.2⟩
  omega
theorem good_iff_goodW {f : List Nat} {k : Nat} : (goodW f k = true ∧ Nk f) ↔ (1 ≤ f.length ∧ f.length ≤ 24 ∧ Good 97 (96 + k) f.length f) := by
  constructor
  · rintro ⟨a, b⟩
    obtain ⟨g1, g2, g3⟩ := goodW_iff.mp a
    exact ⟨g1, g2, rfl, b, fun x hx => by have := g3 x hx; omega⟩
  · rintro ⟨a, b, c⟩
    exact ⟨goodW_iff.mpr ⟨a, b, fun x hx => by have := c.2.2 x hx; omega⟩, c.2.1⟩
end
end Z
namespace Z
noncomputable section
open PySem PySem.Spec PySem.P PyProof.Rows L2
/-! ### pieces of the ring -/
theorem cnt_mono {k t : Nat} (h1 : 1 ≤ k) (h2 : k ≤ 6) {p q : List Nat → Prop} (h : ∀ v, v.length = t → (∀ x ∈ v, 97 ≤ x ∧ x ≤ 96 + k) → p v → q v) : cnt k t p ≤ cnt k t q := by
  rw [cnt_split q p, cnt_congr h1 h2 (p := p) (q := fun v => q v ∧ p v) fun v a b => ⟨fun c => ⟨h v a b c, c⟩, fun c => c.2⟩]
  omega
theorem cyc_take {r : List Nat} {P c m : Nat} (h : m ≤ c) : (cyc r P c).take m = cyc r P m := by
  unfold cyc
  rw [← List.map_take, List.take_range, Nat.min_eq_left h]
theorem cyc_add {r : List Nat} {P a b : Nat} : cyc r P (a + b) = cyc r P a ++ cyc r ((P + a) % r.length) b := by
  apply List.ext_getElem?
  intro j
  by_cases hj : j < a
  · rw [cyc_get (by omega), List.getElem?_append_left (by rw [cyc_len]; exact hj), cyc_get hj]
  · rw [List.getElem?_append_right (by rw [cyc_len]; omega), cyc_len]
    by_cases hj2 : j < a + b
    · rw [cyc_get hj2, cyc_get (by omega), Nat.mod_add_mod, show P + a + (j - a) = P + j by omega]
    · rw [List.getElem?_eq_none (by rw [cyc_len]; omega), List.getElem?_eq_none (by rw [cyc_len]; omega)]
section
variable {lo top n : Nat} {f : List Nat} {L : List (List Nat)}
theorem pos_find (L : List (List Nat)) {Q : Nat} (hQ : Q < (XL L 0).length) : ∃ i v, L[i]? = some v ∧ (YL L i).length ≤ Q ∧ Q < (YL L (i + 1)).length := by
  obtain ⟨p, hp, h1, h2⟩ := max_nat (P := fun i => (YL L i).length ≤ Q) L.length (by simp [YL])
  have hend : (YL L L.length).length = (XL L 0).length := by
    have := yx L L.length
    have hx : XL L L.length = [] := by
      unfold XL
      rw [List.drop_of_length_le (Nat.le_refl _)]
      rfl
    rw [hx, List.append_nil] at this
    rw [this]
  have hpl : p < L.length := Classical.byContradiction fun q => by
    have : p = L.length := by omega
    subst this
    omega
  refine ⟨p, L[p], List.getElem?_eq_getElem hpl, h1, Classical.byContradiction fun q => ?_⟩
  have := h2 (p + 1) (by omega) (by omega)
  omega
theorem root_there {i : Nat} {v : List Nat} (e : L[i]? = some v) : cyc (XL L 0) (YL L i).length (rootW v).length = rootW v := by
  refine cyc_lin ?_ ?_
  · have := ring_drop L i 0
    rw [Nat.add_zero, List.drop_zero] at this
    rw [this, xl_cons e]
    exact List.prefix_append _ _
  · have := ring_len L i
    omega
theorem root_part {i : Nat} {v : List Nat} (e : L[i]? = some v) {a : Nat} (ha : a ≤ (rootW v).length) : cyc (XL L 0) ((YL L i).length + a) ((rootW v).length - a) = (rootW v).drop a := by
  have h := cyc_lin (r := XL L 0) (w := (rootW v).drop a) (P := (YL L i).length + a) ?_ ?_
  · rw [List.length_drop] at h; exact h
  · rw [ring_drop, xl_cons e, List.drop_append_of_le_length ha]
    exact List.prefix_append _ _
  · have := ring_len L i
    rw [xl_cons e, List.length_append] at this
    omega
end
section
variable {k n : Nat} {f : List Nat}
/-- what is counted up to a word, and the place -/
theorem up_place (h1 : 1 ≤ k) (h2 : k ≤ 6) (hn : 1 ≤ n) (hf : Good 97 (96 + k) n f) {i Q : Nat} {g : List Nat} (e : (lsL k n f)[i]? = some g) (hQ1 : (YL (lsL k n f) i).length ≤ Q) (hQ2 : Q < (YL (lsL k n f) (i + 1)).length) {w : List Nat} (hw : w.length = n) :
    upW k f + Q < upW k w + rlen f ↔ ¬ w < g := by
  have R := lsL_rg h1 h2 hn hf
  have hg := R.gd e
  have hg0 := R.ne e
  have hp := pos_up h1 h2 hn hf i g e
  have hy := congrArg List.length (yl_succ e)
  rw [List.length_append, root_len hg0] at hy
  constructor
  · intro h hlt
    have : upW k w + rlen g ≤ upW k g := by
      have hc := cnt_lrot h1 h2 hg0 hg.2.1 hg.2.2
      rw [hg.1] at hc
      unfold upW
      rw [← hc, hw, hg.1, cnt_split (fun v => ¬ g < lrot v) (fun v => lrot v < g)]
      refine Nat.add_le_add (cnt_mono h1 h2 fun v _ _ hv => ?_) (cnt_mono h1 h2 fun v _ _ hv => ?_)
      · have h5 : lrot v < g := lt_of_le hv hlt
        exact ⟨fun z => List.lt_irrefl _ (List.lt_trans z h5), h5⟩
      · rw [hv]
        exact ⟨List.lt_irrefl _, List.lt_irrefl _⟩
    omega
  · intro h
    have : upW k g ≤ upW k w := by
      unfold upW
      rw [hw, hg.1]
      exact cnt_mono h1 h2 fun v _ _ hv z => hv (lt_of_le h z)
    omega
end
/-! ### turned by -/
theorem turn_facts {w : List Nat} (hw : w ≠ []) (tb : Nat) (htb : tb = (rots w).findIdx (· == lrot w)) : tb < rlen (lrot w) ∧ w = rot (lrot w) ((rlen (lrot w) - tb) % rlen (lrot w)) := by
  have h0 := List.length_pos_iff.mpr hw
  have hr := rlen_lrot hw
  have hs := rlen_spec hw
  have hp := rlen_pos hw
  have hmem : ∃ x ∈ rots w, (x == lrot w) = true := ⟨_, (lrot_spec hw).1, by simp⟩
  have hlt := List.findIdx_lt_length_of_exists hmem
  rw [← htb] at hlt
  have hl := hlt
  rw [rots_len] at hlt
  have get : ∀ i, i < w.length → ∃ h : i < (rots w).length, (rots w)[i] = rot w i := fun i hi => ⟨by rw [rots_len]; exact hi, by unfold rots; simp⟩
  have heq : rot w tb = lrot w := by
    have := List.findIdx_getElem (w := by rw [← htb]; exact hl) (xs := rots w) (p := (· == lrot w))
    obtain ⟨h, e⟩ := get tb hlt
    simp only [← htb] at this
    rw [e] at this
    simpa using this
  have hmin : ∀ i, i < tb → rot w i ≠ lrot w := fun i hi e => by
    have h3 : i < (rots w).findIdx (· == lrot w) := by rw [← htb]; exact hi
    have := List.not_of_lt_findIdx h3
    obtain ⟨h, e2⟩ := get i (by omega)
    rw [e2, e] at this
    simp at this
  have htp : tb < rlen w := Classical.byContradiction fun q => by
    have := rot_mod hw hlt
    rw [heq] at this
    exact hmin (tb % rlen w) (by have := Nat.mod_lt tb hp; omega) this.symm
  rw [hr]
  refine ⟨htp, ?_⟩
  have hv0 := lrot_nil hw
  have hvl := lrot_len hw
  by_cases e : tb = 0
  · subst e
    rw [Nat.sub_zero, Nat.mod_self, rot_zero]
    rw [rot_zero] at heq
    exact heq
  · have h5 : rot (lrot w) (w.length - tb) = w := by
      rw [← heq, rot_rot _ _ _ (by omega) (by omega) h0, show tb + (w.length - tb) = w.length by omega, Nat.mod_self, rot_zero]
    have h6 := rot_mod hv0 (m := w.length - tb) (by omega)
    rw [hr, h5] at h6
    obtain ⟨c, hc⟩ := Nat.dvd_of_mod_eq_zero (rlen_dvd hw)
    have h7 : (w.length - tb) % rlen w = (rlen w - tb) % rlen w := by
      cases c with
      | zero => rw [Nat.mul_zero] at hc; omega
      | succ c =>
        rw [Nat.mul_succ] at hc
        rw [show w.length - tb = (rlen w - tb) + rlen w * c by omega, Nat.add_mul_mod_self_left]
    rw [h7] at h6
    exact h6
theorem root_top_iff {lo top n : Nat} {v : List Nat} (hv : Good lo top n v) (hn : 1 ≤ n) : rootW v = [top] ↔ v = List.replicate n top := by
  have hv0 : v ≠ [] := List.length_pos_iff.mp (by have := hv.1; omega)
  constructor
  · intro h
    have hr := root_rep hv0
    have hl := root_len hv0
    rw [h] at hr hl
    rw [← hl] at hr
    simp at hr
    rw [← hr, repS_one, hv.1]
  · intro h
    rw [h, top_root hn]
theorem root_lastB {lo top n j : Nat} {v : List Nat} (hv : Good lo top n v) (hn : 1 ≤ n) (hj : LastB top v j) : LastB top (rootW v) (j - (n - rlen v)) ∧ n - rlen v ≤ j := by
  have hv0 : v ≠ [] := List.length_pos_iff.mp (by have := hv.1; omega)
  have hge := lastB_ge hv0 hj
  have hs := rlen_spec hv0
  have hrl := root_len hv0
  have hc := (root_cycle hv0).2
  rw [hv.1] at hc hge hs
  have hjn := hj.1
  rw [hv.1] at hjn
  have gt : ∀ q, q < rlen v → (rootW v).getD q 0 = v.getD (n - rlen v + q) 0 := fun q hq => by
    have h7 : v[n - rlen v + q]? = (v.take (n - rlen v) ++ rootW v)[n - rlen v + q]? := by rw [← hc]
    rw [List.getElem?_append_right (by rw [List.length_take, hv.1]; omega), List.length_take, hv.1, Nat.min_eq_left (by omega), Nat.add_sub_cancel_left] at h7
    rw [List.getD_eq_getElem?_getD, List.getD_eq_getElem?_getD, h7]
  refine ⟨⟨by omega, ?_, fun i hi hl => ?_⟩, hge⟩
  · rw [gt _ (by omega), show n - rlen v + (j - (n - rlen v)) = j by omega]
    exact hj.2.1
  · rw [hrl] at hl
    rw [gt _ hl]
    exact hj.2.2 _ (by omega) (by rw [hv.1]; omega)
/-! ### the first one of a beginning -/
theorem after_facts {f v t r : List Nat} (hl : t.length < f.length) (hvf : ¬ v < f) (htv : t <+: v) (htf : ¬ t <+: f) (htr : t <+: r) : ¬ t < f ∧ ¬ r < f := by
  obtain ⟨s, rfl⟩ := htv
  obtain ⟨s', rfl⟩ := htr
  have a : ¬ t < f := fun h => by
    rcases lex_iff.mp h with ⟨z, hz, e⟩ | ⟨p, c, d, x, y, e1, e2, hcd⟩
    · exact htf ⟨z, e.symm⟩
    · apply hvf
      rw [e1, e2, List.append_assoc, lex_pre, List.cons_append, List.cons_lt_cons_iff]
      exact .inl hcd
  refine ⟨a, fun h => ?_⟩
  have hft : f < t := by
    rcases lex_tri t f with h3 | h3 | h3
    · exact absurd h3 a
    · rw [h3] at hl; omega
    · exact h3
  rcases lex_iff.mp hft with ⟨z, hz, e⟩ | ⟨p, c, d, x, y, e1, e2, hcd⟩
  · have := congrArg List.length e
    rw [List.length_append] at this
    omega
  · have : f < t ++ s' := by
      rw [e1, e2, List.append_assoc, lex_pre, List.cons_append, List.cons_lt_cons_iff]
      exact .inl hcd
    exact List.lt_irrefl _ (List.lt_trans this h)
end
end Z
namespace Z
open PySem PySem.Spec PySem.Calls PyProof.Rows L2

/-! ### xs[lo:hi:step] of a list -/
def stL {α : Type} (xs : List α) (lo hi : Option Int) (c : Int) : List α :=
  (sliceRange (sliceBounds lo hi (some c) xs.length).1 (sliceBounds lo hi (some c) xs.length).2.1 (sliceBounds lo hi (some c) xs.length).2.2).filterMap (fun i => xs[i]?)
def slsD (x : D) (lo hi : Option Int) (c : Int) : R D := match x with
  | .lst xs => if c = 0 then .bad else .ok (.lst (stL xs lo hi c))
  | _ => .bad
def eSls (fa : SS → R D) (fl fh : SS → R (Option Int)) (c : Int) : SS → R D := fun s => (fa s).bind fun x => (fl s).bind fun l => (fh s).bind fun h => slsD x l h c
theorem stL_mem {α : Type} {xs : List α} {lo hi : Option Int} {c : Int} {x : α} (h : x ∈ stL xs lo hi c) : x ∈ xs := by
  unfold stL at h
  obtain ⟨i, -, hi⟩ := List.mem_filterMap.mp h
  exact List.mem_of_getElem? hi
theorem stL_map {α β : Type} (f : α → β) (xs : List α) (lo hi : Option Int) (c : Int) : stL (xs.map f) lo hi c = (stL xs lo hi c).map f := by
  unfold stL
  rw [List.length_map, List.map_filterMap]
  congr 1
  funext i
  rw [List.getElem?_map]
theorem vals_pick {xs : List V} {its : List Value} (r : Vals xs its) : ∀ ix : List Nat, Vals (ix.filterMap (fun i => xs[i]?)) (ix.filterMap (fun i => its[i]?))
  | [] => .nil
  | i :: ix => by
    have ih := vals_pick r ix
    rw [List.filterMap_cons, List.filterMap_cons]
    cases h : xs[i]? with
    | none => rw [Vals.none_of r h]; exact ih
    | some x =>
      obtain ⟨u, h2, h3⟩ := Vals.get r h
      rw [h2]
      exact .cons h3 ih
theorem RepL.pick {G : GE} {F : Hp} {ds : List D} {vs : List V} (r : RepL G F ds vs) : ∀ ix : List Nat, RepL G F (ix.filterMap (fun i => ds[i]?)) (ix.filterMap (fun i => vs[i]?))
  | [] => .nil
  | i :: ix => by
    have ih := r.pick ix
    rw [List.filterMap_cons, List.filterMap_cons]
    cases h : ds[i]? with
    | none =>
      have hl := r.length
      rw [List.getElem?_eq_none (by have := List.getElem?_eq_none_iff.mp h; omega)]
      exact ih
    | some x =>
      obtain ⟨u, h2, h3⟩ := r.get h
      rw [h2]
      exact .cons h3 ih
theorem stL_len {α : Type} (xs : List α) (lo hi : Option Int) (c : Int) : (stL xs lo hi c).length ≤ xs.length := by
  unfold stL
  refine Nat.le_trans (List.length_filterMap_le _ _) (sliceRange_length_le _ _ _ _ (fun hc => ?_) fun hc => ?_)
  · simp only [sliceBounds] at hc ⊢
    simp only [hc, if_true]
    constructor
    · cases lo with
      | none => simp
      | some i => dsimp only; omega
    · cases hi with
      | none => simp
      | some i => dsimp only; omega
  · simp only [sliceBounds] at hc ⊢
    simp only [hc, if_false]
    constructor
    · cases lo with
      | none => simp
      | some i => dsimp only; omega
    · cases hi with
      | none => simp
      | some i => dsimp only; omega
theorem slsD_ne {x : D} {lo hi : Option Int} {c : Int} : ∀ e vs, slsD x lo hi c = .ex e vs → False := fun e vs h => by
  unfold slsD at h
  split at h
  · split at h <;> cases h
  · cases h
section
variable {X : Cx} {C : CT} {W : WX} {a : Expr} {fa : SS → R D} {k : Nat} {c : Int} {pos p1 p2 : Pos}
theorem s_sls (hK : X.K = C.G.K) {lo hi : Option Expr} {fl fh : SS → R (Option Int)} (ha : PE X a (tB C W fa)) (hl : PO X lo (tO C W fl)) (hh : PO X hi (tO C W fh)) :
    PE X (.Subscript a (.Slice lo hi (some (.Constant (.int c) k p1)) p2) pos) (tD C W (eSls fa fl fh c)) := by
  refine ⟨fun pins s σ H Q I ⟨F, sd, S, h⟩ => ?_⟩
  refine Subscript_ (thn (ha.run pins s σ H _ I ⟨F, sd, S, PostE.bind (Q1 := fun x H1 => ∃ d F1, Ext F H F1 H1 ∧ Bor C.G F1 H1 d x ∧ PostE C W F1 H1 σ _ Q ((fl sd).bind fun l => (fh sd).bind fun h => slsD d l h c)) h fun d v F1 H1 e1 b1 h1 => ⟨d, F1, e1, b1, h1⟩⟩) fun v s1 ⟨x, H1, I1, r1, d, F1, e1, b1, h1⟩ => ?_)
  refine wpAny_Slice (thn (hl.run pins s1 σ H1 (fun l H2 => ∃ F2, Ext F1 H1 F2 H2 ∧ PostE C W F2 H2 σ _ Q ((fh sd).bind fun h => slsD d l h c)) I1 ⟨F1, sd, S.mono e1, PostE.bindO h1 fun l F2 H2 e2 h2 => ⟨F2, e2, h2⟩⟩) fun vl s2 ⟨l, H2, I2, pl, F2, e2, h2⟩ => ?_)
  refine thn (hh.run pins s2 σ H2 (fun u H3 => ∃ F3, Ext F2 H2 F3 H3 ∧ PostE C W F3 H3 σ _ Q (slsD d l u c)) I2 ⟨F2, sd, (S.mono e1).mono e2, PostE.bindO h2 fun u F3 H3 e3 h3 => ⟨F3, e3, h3⟩⟩) fun vu s3 ⟨u, H3, I3, pu, F3, e3, h3⟩ => ?_
  refine thn ((po_some (pe_int (i := c))).run pins s3 σ H3 (fun o H4 => o = some c ∧ H4 = H3) I3 ⟨c, rfl, rfl, rfl⟩) fun vs s4 ⟨o, H4, I4, ps, eo, e4⟩ => ?_
  subst eo e4
  have I5 : Inv X pins σ H4 { s4 with heap := s4.heap.push { cls := .type "slice", data := .fields #[vl, vu, vs] } } := I4.kept (t' := s4.toks) fun b ob q => Heap.get?_push_of_some _ q
  have bd := Bor.mono (e2.trans e3) b1
  have p := h3.toV fun c vs z => slsD_ne c vs z
  have hd : ∃ xs, d = .lst xs ∧ c ≠ 0 := by
    cases d with
    | lst xs =>
      refine ⟨xs, rfl, fun hc => ?_⟩
      rw [show slsD (.lst xs) l u c = .bad from if_pos hc] at p
      exact p.elim
    | _ => exact p.elim
  obtain ⟨xs, rfl, hc⟩ := hd
  rw [show slsD (.lst xs) l u c = _ from if_neg hc] at p
  obtain ⟨a, vs', rfl, q, r⟩ := bor_lst e3.fh bd
  rw [← hK] at q
  cases r1
  obtain ⟨its, rv, ht, hz⟩ := I5.list q
  have hlen := rv.length
  show wpAny (model X.prog X.w) X.A (subscriptTail _ _ (.ref a) (.ref s4.heap.objs.size)) (EP X pins σ Q) X.xe { s4 with heap := s4.heap.push { cls := .type "slice", data := .fields #[vl, vu, vs] } }
  refine tail_any (ops := [.ref a, .ref s4.heap.objs.size]) ht.isList.typeIs (PySem.slot_list_getitem.lookup) ?_ (by with_unfolding_all rfl)
  refine wpAny_getItem_list_slice ht.isList (Heap.IsSliceOf.new _ vl vu vs) pl pu ps (by simpa using hc) ?_ (by rw [List.size_toArray]; omega)
  have hl2 := r.length
  have pp := p.lst e3.fh (ds := stL xs l u c) (vs := (sliceRange (sliceBounds l u (some c) xs.length).1 (sliceBounds l u (some c) xs.length).2.1 (sliceBounds l u (some c) xs.length).2.2).filterMap (fun i => vs'[i]?)) (r.pick _)
  refine ⟨.ref _, _, I5.laid (t' := s4.toks) (o := .lst _) (fun b ob q => Heap.get?_push_of_some _ q) (Nat.le_refl _) ?_, rfl, pp _ (I5.hok.fresh (Nat.le_refl _))⟩
  refine ⟨?_, _, 0, vals_pick rv _, ?_⟩
  · have := stL_len vs' l u c
    unfold stL at this
    rw [hl2] at this
    omega
  · rw [← hl2, hlen]
    exact (Heap.get?_push_size _ rfl).trans (by unfold slicePick; simp)
end
end Z
namespace Z
open PySem PySem.Spec PySem.Calls PyProof.Rows L2

section
variable {k n : Nat} {f : List Nat}
/-- where a least word's root stands -/
theorem root_place (h1 : 1 ≤ k) (h2 : k ≤ 6) (hn : 1 ≤ n) (hf : Good 97 (96 + k) n f) {v : List Nat} (hv : Good 97 (96 + k) n v) (hvf : ¬ v < f) :
    ∃ i, (lsL k n f)[i]? = some v ∧ upW k v + rlen f = upW k f + (YL (lsL k n f) i).length + rlen v ∧ (YL (lsL k n f) i).length < (ringW k n f).length := by
  obtain ⟨i, hi, hie⟩ := List.mem_iff_getElem.mp ((mem_lsL (k := k) (n := n) (f := f) h1 h2).mpr ⟨hv, hvf⟩)
  have e : (lsL k n f)[i]? = some v := by rw [List.getElem?_eq_getElem hi, hie]
  refine ⟨i, e, pos_up h1 h2 hn hf i v e, ?_⟩
  have hv0 : v ≠ [] := List.length_pos_iff.mp (by have := hv.1; omega)
  have := ring_len (lsL k n f) i
  rw [xl_cons e, List.length_append, root_len hv0] at this
  have := rlen_pos hv0
  unfold ringW
  omega
theorem good_tops {lo top n : Nat} (h : lo ≤ top) : Good lo top n (List.replicate n top) := ⟨by simp, nk_rep _ _, fun x hx => by rw [List.eq_of_mem_replicate hx]; omega⟩
/-- a least word that is not all tops stands where its root begins -/
theorem stand0 (h1 : 1 ≤ k) (h2 : k ≤ 6) (hn : 1 ≤ n) (hf : Good 97 (96 + k) n f) {v : List Nat} (hv : Good 97 (96 + k) n v) (hvf : ¬ v < f) (hne : v ≠ List.replicate n (96 + k)) :
    ∃ P, P < (ringW k n f).length ∧ cyc (ringW k n f) P n = v ∧ upW k v + rlen f = upW k f + P + rlen v := by
  obtain ⟨i, e, hu, hP⟩ := root_place h1 h2 hn hf hv hvf
  have R := lsL_rg h1 h2 hn hf
  obtain ⟨j, hj⟩ := lastB_ex hv hne
  have hv0 : v ≠ [] := List.length_pos_iff.mp (by have := hv.1; omega)
  have := R.placeB e hne hj (rlen_pos hv0) (root_lastB hv hn hj).2
  rw [rot_zero, Nat.add_zero] at this
  exact ⟨_, hP, this.1, hu⟩
theorem lex_top {lo top n : Nat} {g : List Nat} (hg : Good lo top n g) (h : List.replicate n top < g) : False := by
  by_cases q : g < List.replicate n top
  · exact List.lt_irrefl _ (List.lt_trans q h)
  · have := top_eq (top := top) (w := g) (fun x hx => (hg.2.2 x hx).2) (by rw [hg.1]; exact q)
    rw [hg.1] at this
    rw [this] at h
    exact List.lt_irrefl _ h
theorem first0 (h1 : 1 ≤ k) (h2 : k ≤ 6) (hn : 1 ≤ n) (hf : Good 97 (96 + k) n f) : 0 < (ringW k n f).length ∧ cyc (ringW k n f) 0 n = f := by
  have hf0 : f ≠ [] := List.length_pos_iff.mp (by have := hf.1; omega)
  by_cases hne : f = List.replicate n (96 + k)
  · have hrl : rlen f = 1 := by
      rw [← root_len hf0, hne, top_root hn]; rfl
    have hup : upW k f = k ^ f.length := upW_none h1 h2 hf0 fun g hg hlt => by
      rw [hf.1] at hg
      have := lex_top hg (by rw [← hne]; exact hlt)
      exact this
    have ht := ring_total h1 h2 hn hf
    rw [hup, hrl, hf.1] at ht
    obtain ⟨P, hP, hc⟩ := word_stands h1 h2 hn hf hf.1 hf.2.2 (by rw [(nk_iff hf0).mp hf.2.1]; exact List.lt_irrefl _)
    have : P = 0 := by omega
    subst this
    exact ⟨hP, hc⟩
  · obtain ⟨P, hP, hc, hu⟩ := stand0 h1 h2 hn hf hf (List.lt_irrefl _) hne
    have : P = 0 := by omega
    subst this
    exact ⟨hP, hc⟩
theorem rlen_tops {n top : Nat} (hn : 1 ≤ n) : rlen (List.replicate n top) = 1 := by
  have h0 : List.replicate n top ≠ [] := List.length_pos_iff.mp (by simp; omega)
  rw [← root_len h0, top_root hn]; rfl
theorem next_no (h1 : 1 ≤ k) {v : List Nat} (hv : Good 97 (96 + k) n v) (h : NextP 97 (96 + k) n v none) : v = List.replicate n (96 + k) := by
  have h2 := h _ (good_tops (by omega))
  have := top_eq (top := 96 + k) (w := v) (fun x hx => (hv.2.2 x hx).2) (by rw [hv.1]; exact h2)
  rwa [hv.1] at this
theorem tops_place (h1 : 1 ≤ k) (h2 : k ≤ 6) (hn : 1 ≤ n) (hf : Good 97 (96 + k) n f) :
    (∃ q : Nat, q < (ringW k n f).length ∧ ((0 : Int) - n) % ((ringW k n f).length : Nat) = (q : Nat) ∧ cyc (ringW k n f) q n = List.replicate n (96 + k)) ∧
      ∃ q : Nat, ((0 : Int) - (min n (ringW k n f).length : Nat)) % ((ringW k n f).length : Nat) = (q : Nat) ∧ cyc (ringW k n f) q (min n (ringW k n f).length) = List.replicate (min n (ringW k n f).length) (96 + k) := by
  have R := lsL_rg h1 h2 hn hf
  obtain ⟨hN, h0⟩ := first0 h1 h2 hn hf
  by_cases h : 2 ≤ (lsL k n f).length
  · have he := R.ends h
    have hle := he.length_le
    rw [List.length_replicate] at hle
    have hc : cyc (ringW k n f) ((ringW k n f).length - n) n = List.replicate n (96 + k) := by
      obtain ⟨t, ht⟩ := he
      have e : ringW k n f = t ++ List.replicate n (96 + k) := ht.symm
      have := cyc_lin (r := ringW k n f) (w := List.replicate n (96 + k)) (P := (ringW k n f).length - n) (by
        rw [e, List.length_append, List.length_replicate, Nat.add_sub_cancel, List.drop_left]
        exact List.prefix_rfl) (by omega)
      rwa [List.length_replicate] at this
    have hmin : min n (ringW k n f).length = n := Nat.min_eq_left hle
    rw [hmin]
    generalize hNN : (ringW k n f).length = N at *
    have key : ∃ q : Nat, q < N ∧ ((0 : Int) - n) % (N : Nat) = (q : Nat) ∧ cyc (ringW k n f) q n = List.replicate n (96 + k) := by
      by_cases hq : n = N
      · refine ⟨0, hN, ?_, ?_⟩
        · subst hq; simp
        · rw [show N - n = 0 by omega] at hc
          exact hc
      · refine ⟨N - n, by omega, ?_, hc⟩
        rw [show (0 : Int) - n = ((N - n : Nat) : Int) + (N : Int) * (-1) by omega, Int.add_mul_emod_self_left, Int.emod_eq_of_lt (by omega) (by omega)]
    exact ⟨key, by obtain ⟨q, a, b, c⟩ := key; exact ⟨q, b, c⟩⟩
  · have hL : 0 < (lsL k n f).length := by
      obtain ⟨h, _⟩ := List.getElem?_eq_some_iff.mp R.first
      omega
    have hft : f = List.replicate n (96 + k) := R.end_ (by rw [show (lsL k n f).length - 1 = 0 by omega]; exact R.first)
    have hN1 : (ringW k n f).length = 1 := by
      unfold ringW
      rw [xl_cons R.first, List.length_append, hft, top_root hn]
      unfold XL
      rw [List.drop_of_length_le (by rw [← hft]; omega)]
      rfl
    rw [hN1]
    refine ⟨⟨0, by omega, by simp [Int.emod_one], by rw [h0, hft]⟩, 0, by simp [Int.emod_one], ?_⟩
    have := congrArg (List.take (min n 1)) h0
    rw [cyc_take (Nat.min_le_left _ _), hft, List.take_replicate, ← hft] at this
    rw [this]
    congr 1
    omega
end
end Z
namespace Z
open PySem PySem.Spec PySem.Calls PyProof.Rows L2
theorem dedT_id : ∀ (r : List (List Nat)), r.Nodup → dedT r = r
  | [], _ => rfl
  | y :: r, h => by
    obtain ⟨a, b⟩ := List.nodup_cons.mp h
    unfold dedT
    rw [if_neg a, dedT_id r b]
theorem nodup_len : ∀ {l m : List (List Nat)}, l.Nodup → (∀ x ∈ l, x ∈ m) → l.length ≤ m.length
  | [], m, _, _ => Nat.zero_le _
  | a :: l, m, hn, hs => by
    obtain ⟨m1, m2, rfl⟩ := List.append_of_mem (hs a (by simp))
    have hn' := List.nodup_cons.mp hn
    have ih := nodup_len (l := l) (m := m1 ++ m2) hn'.2 (fun x hx => by
      have := hs x (by simp [hx])
      simp at this ⊢
      rcases this with h | h | h
      · exact .inl h
      · subst h; exact absurd hx hn'.1
      · exact .inr h)
    simp at ih ⊢
    omega
/-- the ring from a..a on has all words -/
theorem ring_as {k n : Nat} (h1 : 1 ≤ k) (h2 : k ≤ 6) (hn : 1 ≤ n) : (ringW k n (List.replicate n 97)).length = k ^ n := by
  have hf : Good 97 (96 + k) n (List.replicate n 97) := ⟨by simp, nk_rep _ _, fun x hx => by rw [List.eq_of_mem_replicate hx]; omega⟩
  have a := ring_total h1 h2 hn hf
  have b := upW_same (k := k) (j := 0) (n := n) h2 (by omega) hn
  have c : rlen (List.replicate n 97) = 1 := rlen_tops hn
  simp only [Nat.add_zero, Nat.sub_zero] at b
  omega
theorem ring_a6b : 4096 < (ringW 4 7 [97, 97, 97, 97, 97, 97, 98]).length := by
  have hf0 : Good 97 (96 + 4) 7 (List.replicate 7 97) := ⟨by simp, nk_rep _ _, fun x hx => by rw [List.eq_of_mem_replicate hx]; omega⟩
  have hf : Good 97 (96 + 4) 7 [97, 97, 97, 97, 97, 97, 98] := ⟨rfl, (nk_iff (by simp)).mpr (by decide), by decide⟩
  have a := ring_total (by omega) (by omega) (by omega) hf
  have b := upW_same (k := 4) (j := 0) (n := 7) (by omega) (by omega) (by omega)
  have c := upW_next (k := 4) (w := List.replicate 7 97) (r := [97, 97, 97, 97, 97, 97, 98]) (by omega) (by omega) (by simp) hf (by decide) (fun g hg h1 h2 => by
    obtain ⟨j, c, s, hj, hc, e⟩ := lt_split (by rw [hg.1]; rfl) h2
    have hl := congrArg List.length e
    have hcg : c ∈ g := by rw [e]; simp
    have := (hg.2.2 c hcg).1
    have h6 : j = 6 := by
      have : j = 0 ∨ j = 1 ∨ j = 2 ∨ j = 3 ∨ j = 4 ∨ j = 5 ∨ j = 6 := by
        simp at hj
        omega
      rcases this with rfl | rfl | rfl | rfl | rfl | rfl | rfl
      all_goals simp at hc
      all_goals omega
    subst h6
    simp at hc
    have : c = 97 := by omega
    subst this
    rw [hg.1] at hl
    simp at hl
    have : s = [] := by first | exact hl | exact hl.symm | exact List.eq_nil_of_length_eq_zero (by omega) | (simp_all)
    subst this
    rw [e] at h1
    exact absurd h1 (by decide))
  simp only [Nat.add_zero, Nat.sub_zero] at b
  have p : (4 : Nat) ^ 7 = 16384 := rfl
  rw [p] at a b
  omega
def qB (v : List Nat) : Bool := match v with
  | a :: b :: c :: d :: e :: f :: _ => !(a == 97 && b == 97) && !(c == 97 && d == 97) && !(e == 97 && f == 97)
  | _ => false
theorem qcount : ((allW 2 13).filter qB).length ≤ 4000 := by decide +kernel
def aabs : List Nat := [97, 97, 98, 98, 98, 98, 98, 98, 98, 98, 98, 98, 98]
theorem aabs_good : Good 97 (96 + 2) 13 aabs := ⟨rfl, (nk_iff (by decide)).mpr (by decide), by decide⟩
theorem ring_aabs : (ringW 2 13 aabs).length ≤ 4096 := by
  rw [← ring_cnt (by omega) (by omega) (by omega) aabs_good, cnt_len]
  have key : ∀ v ∈ selW 2 13 (fun v => ¬ lrot v < aabs), v ∈ (allW 2 13).filter qB ++ [aabs, aabs.drop 11 ++ aabs.take 11, aabs.drop 9 ++ aabs.take 9] := fun v hv => by
    obtain ⟨hl, hr, hP⟩ := (mem_selW (by omega) (by omega)).mp hv
    have h0 : v ≠ [] := List.length_pos_iff.mp (by omega)
    have hrot : ∀ i, i < 13 → ∀ s, rot v i = 97 :: 97 :: s → rot v i = aabs := fun i hi s e => by
      have h1 : ¬ rot v i < lrot v := (lrot_spec h0).2 _ (mem_rots.mpr ⟨i, by omega, rfl⟩)
      have h2 : ¬ rot v i < aabs := fun z => hP (lt_of_le h1 z)
      have hs : s.length = 11 := by
        have := congrArg List.length e
        rw [rot_len] at this
        simp at this
        omega
      have h3 : s = List.replicate s.length 98 := top_eq (top := 98) (fun x hx => by
        have : x ∈ rot v i := by rw [e]; simp [hx]
        unfold rot at this
        rcases List.mem_append.mp this with h | h
        · exact (hr x (List.mem_of_mem_drop h)).2
        · exact (hr x (List.mem_of_mem_take h)).2) fun z => h2 (by
        rw [e, show aabs = 97 :: 97 :: List.replicate s.length 98 by rw [hs]; rfl]
        rcases lex_iff.mp z with ⟨y, hy, ey⟩ | ⟨p, c, d, x, y, e1, e2, hcd⟩
        · exact lex_iff.mpr (.inl ⟨y, hy, by rw [List.cons_append, List.cons_append, ← ey]⟩)
        · exact lex_iff.mpr (.inr ⟨97 :: 97 :: p, c, d, x, y, by rw [List.cons_append, List.cons_append, ← e1], by rw [List.cons_append, List.cons_append, ← e2], hcd⟩))
      rw [e, h3, hs]
      rfl
    have back : ∀ i, i < 13 → rot v i = aabs → v = aabs.drop (13 - i) ++ aabs.take (13 - i) := fun i hi e => by
      have hd : (v.drop i).length = 13 - i := by rw [List.length_drop, hl]
      rw [← e]
      unfold rot
      rw [List.drop_left' hd, List.take_left' hd, List.take_append_drop]
    rw [List.mem_append, List.mem_filter]
    by_cases hq : qB v = true
    · exact .inl ⟨(mem_allW (by omega) (by omega)).mpr ⟨hl, hr⟩, hq⟩
    · refine .inr ?_
      match v, hl with
      | a :: b :: c :: d :: e :: g :: t, hl =>
        simp [qB] at hq
        by_cases q1 : a = 97 ∧ b = 97
        · obtain ⟨rfl, rfl⟩ := q1
          have := back 0 (by omega) (hrot 0 (by omega) _ (rot_zero _))
          rw [this]
          decide
        · by_cases q2 : c = 97 ∧ d = 97
          · obtain ⟨rfl, rfl⟩ := q2
            have := back 2 (by omega) (hrot 2 (by omega) (e :: g :: t ++ [a, b]) (by simp [rot]))
            rw [this]
            decide
          · have q3 := hq (by omega) (by omega)
            obtain ⟨rfl, rfl⟩ := q3
            have := back 4 (by omega) (hrot 4 (by omega) (t ++ [a, b, c, d]) (by simp [rot]))
            rw [this]
            decide
  have := nodup_len (nodup_selW (by omega) (by omega)) key
  rw [List.length_append] at this
  have q := qcount
  simp only [List.length_cons, List.length_nil] at this
  omega
end Z
namespace ZV
open PySem PySem.Spec PyProof.Rows L2 RT
open Builtin Builtin.Str Builtin.Int
theorem norev_str : typeLookup (.type "str") "__reversed__" = pure none := by rw [typeLookup_type, builtinLookup_eq_fast]; kernel_rfl
theorem get_str : typeLookup (.type "str") "__getitem__" = pure (some (.builtin "str.__getitem__")) := by rw [typeLookup_type, builtinLookup_eq_fast]; kernel_rfl
theorem sub_str_dict : isSubtype (.type "str") (.type "dict") = pure false := by rw [isSubtype_type]; kernel_rfl
theorem nolen_rt : typeLookup (.type "reversed") "__len__" = pure none := by rw [typeLookup_type, builtinLookup_eq_fast]; kernel_rfl
theorem hint_rt : typeLookup (.type "reversed") "__length_hint__" = pure (some (.builtin "reversed.__length_hint__")) := by rw [typeLookup_type, builtinLookup_eq_fast]; kernel_rfl
theorem slot_rt_hint : Slot "reversed" "__length_hint__" "reversed.__length_hint__" :=
  .of (owner := "reversed") (n := "__length_hint__") (by rw [typeLookup_type, builtinLookup_eq_fast]; kernel_rfl) (by decide +kernel) (by decide +kernel) (by decide +kernel)
    (by first | exact .inl (by decide +kernel) | exact .inr (by decide +kernel)) (by rw [isSubtype_type]; kernel_rfl)
theorem entry_rt_hint : entryFor table "reversed.__length_hint__" = some Builtin.«reversed.__length_hint__» := entryFor_of_tree (by kernel_rfl)
theorem args_rt_hint (a : Value) : argsOk "reversed.__length_hint__" ⟨[a], []⟩ := by
  unfold argsOk; rw [signature?_of (id := "reversed.__length_hint__") (n := ['_', '_', 't', 'n', 'i', 'h', '_', 'h', 't', 'g', 'n', 'e', 'l', '_', '_']) (o := ['d', 'e', 's', 'r', 'e', 'v', 'e', 'r']) (by kernel_rfl) owner_rt]; kernel_rfl
def rtS (x : Str) (t : Tok) (i : Int) : Obj := { cls := .type "reversed", data := .fields #[.str x t, rawInt i] }
def IsRtS (h : Heap) (a : Addr) (x : Str) (t : Tok) (i : Int) : Prop := ∃ o, h.get? a = some o ∧ o.cls = .type "reversed" ∧ o.data = .fields #[.str x t, rawInt i]
theorem IsRtS.at {h h' : Heap} {a : Addr} {x : Str} {t : Tok} {i : Int} (y : IsRtS h a x t i) (e : ∀ o, h.get? a = some o → h'.get? a = some o) : IsRtS h' a x t i := let ⟨o, ho, r⟩ := y; ⟨o, e _ ho, r⟩
section
variable {prog : Program} {w : World} {A : Around} {E : Value → Shared → Prop} {s : Shared} {x : Str} {t : Tok}
theorem IsRtS.typeIs {a : Addr} {i : Int} (y : IsRtS s.heap a x t i) : s.TypeIs (.ref a) "reversed" := let ⟨o, ho, hc, _⟩ := y; ⟨o, ho, hc⟩
theorem code_reversed_str {Q₁ : Value → Shared → Prop} (hz : x.length ≤ sizeLine)
    (h : Q₁ (.ref s.heap.objs.size) { s with heap := s.heap.push (rtS x t ((x.length : Int) - 1)), toks := s.toks + 1 + 1 }) :
    codeAny (model prog w) A (.call (.builtin "reversed.__new__") ⟨[.type "reversed", .str x t], []⟩) (wants Q₁ E) s := by
  have hT : s.TypeIs (.str x t) "str" := typeIs_str s x t
  refine codeAny_of_tree ?_
  show wpAny _ A.in1 (do checkBuiltinCall "reversed.__new__" ⟨[.type "reversed", .str x t], []⟩; again (.builtin "reversed.__new__" ⟨[.type "reversed", .str x t], []⟩)) _ _ s
  refine wpAny_bind (wpAny_of_eq (F.newCall_reversed_1 _) (wpAny_pure ⟨plainId_quiet F.plain_reversed_new _, codeAny_builtin F.entry_reversed_new ?_⟩))
  rw [Around.under_plainId F.plain_reversed_new _]
  unfold Builtin.«reversed.__new__»
  refine wpAny_bind (wpAny_of_eq (newClass_reversed _) ?_)
  try dsimp only
  refine wpAny_bind (wpAny_of_eq (a := ()) (by first | rfl | kernel_rfl) ?_)
  try dsimp only
  refine wpAny_bind (wpAny_of_eq (a := ()) (by first | rfl | kernel_rfl) ?_)
  try dsimp only
  refine wpAny_bind (wpAny_specialOf hT norev_str ?_)
  try dsimp only
  refine wpAny_bind ?_
  wp_delta
  refine wpAny_bind (wpAny_isInstance (T := "str") (U := "dict") (b := false) hT sub_str_dict ?_)
  try dsimp only
  try rw [if_neg Bool.false_ne_true]
  try dsimp only
  refine wpAny_bind (wpAny_specialOf hT get_str ?_)
  try dsimp only
  try rw [if_pos (by decide +kernel)]
  refine wpAny_pure ?_
  try dsimp only
  try rw [if_neg (by decide)]
  try dsimp only
  rw [sizeLine_eq] at hz
  refine wpAny_bind (len_str (by omega) ?_)
  refine wpAny_bind (wpAny_of_eq (a := some ((x.length : Nat) : Int)) rfl ?_)
  try dsimp only
  refine wpAny_bind ?_
  show wpAny _ _ (newObj (.type "reversed") (.fields #[.str x t, rawInt ((x.length : Int) - 1)])) _ _ _
  refine wpAny_newObj_type ?_
  exact wpAny_pure h
theorem call_reversed_str {Q : Value → Shared → Prop} (hz : x.length ≤ sizeLine)
    (h : Q (.ref s.heap.objs.size) { s with heap := s.heap.push (rtS x t ((x.length : Int) - 1)), toks := s.toks + 1 + 1 }) : wpAny (model prog w) A (call (.type "reversed") [.str x t]) Q E s := by
  refine callType_codes (Q₁ := fun obj s₁ => s₁.TypeIs obj "reversed" ∧ Q obj s₁) called_rt (F.typeCall_reversed_1 _) F.entry_object_init
    (code_reversed_str (A := A.in1) hz ⟨⟨_, Heap.get?_push_size _ rfl, rfl⟩, h⟩) fun obj s₁ h₁ => ?_
  exact ⟨h₁.1, F.args_object_init_2 obj _, object_init_meets called_rt.init.lookup called_rt.made (by decide) prog w A.in1 _ s₁ ⟨h₁.1, rfl, h₁.2⟩⟩
theorem next_rs_item {it : Addr} {i c : Nat} {Q : Option Value → Shared → Prop} (hit : IsRtS s.heap it x t (i : Int)) (hx : x.cps[i]? = some c) (hsz : x.length ≤ sizeLine)
    (hQ : ∀ h' tk, IsRtS h' it x t ((i : Int) - 1) → Heap.SameBut it s.heap h' → s.toks ≤ tk → Q (some (.str ⟨#[c]⟩ (s.toks + 1))) { s with heap := h', toks := tk }) : wpAny (model prog w) A (pyNext (.ref it)) Q E s := by
  obtain ⟨o, ho, hc, hd⟩ := id hit
  have hi : i < x.cps.size := (Array.getElem?_eq_some_iff.mp hx).1
  have hi2 : i < x.length := hi
  have hT : s.TypeIs (.str x t) "str" := typeIs_str s x t
  rw [sizeLine_eq] at hsz
  unfold pyNext
  refine wpAny_bind (wpAny_attempt (wpAny_callSpecial?_slot (name := Str.ofString "__next__") hit.typeIs slot_rt_next
    (wpAny_call_entry slot_rt_next hit.typeIs entry_rt_next ?_ (args_rt_next _))))
  unfold Builtin.«reversed.__next__»
  refine wpAny_bind (wpAny_of_eq (a := (Value.ref it, [])) rfl ?_)
  try dsimp only
  refine wpAny_bind (wpAny_field ho hd (x := .str x t) rfl ?_)
  try dsimp only
  refine wpAny_bind (wpAny_field ho hd (x := rawInt (i : Int)) rfl ?_)
  show wpAny _ _ (if (i : Int) < 0 then _ else _) _ _ s
  rw [if_neg (by omega)]
  try dsimp only
  refine wpAny_bind (wpAny_specialOf hT get_str ?_)
  try dsimp only
  try rw [if_neg (by decide)]
  try dsimp only
  refine wpAny_bind (wpAny_mkInt ?_)
  refine wpAny_bind (wpAny_attempt ?_)
  have fin : seqIndex? (i : Int) x.length = some i := seqIndex_of (by omega) (by omega)
  refine PyProof.Rows.getItem_str (s := { s with toks := s.toks + 1 }) (i := (i : Int)) (c := c) (by rw [Bool.or_eq_false_iff]; exact ⟨decide_eq_false (by omega), decide_eq_false (by omega)⟩) (by rw [fin]; exact hx) ?_
  try dsimp only
  refine wpAny_bind (wpAny_field (s := { s with toks := s.toks + 1 + 1 }) ho hd (x := rawInt (i : Int)) rfl ?_)
  try dsimp only
  refine wpAny_bind (wpAny_setField (s := { s with toks := s.toks + 1 + 1 }) ho hd (by simp) ?_)
  first
  | refine wpAny_pure ⟨_, rfl, wpAny_pure (hQ _ _ ?_ (Heap.SameBut.update ..) (by show s.toks ≤ s.toks + 1 + 1; omega))⟩
  | refine wpAny_bind (wpAny_pure (wpAny_pure ⟨_, rfl, wpAny_pure (hQ _ _ ?_ (Heap.SameBut.update ..) (by show s.toks ≤ s.toks + 1 + 1; omega))⟩))
  exact ⟨_, Heap.get?_update_self _ ho (Obj.isFreed_of_fields (Obj.data_mapFields hd _)), (Obj.cls_mapFields ..).trans hc, by
    rw [Obj.data_mapFields hd]; simp⟩
theorem next_rs_end {it : Addr} {Q : Option Value → Shared → Prop} (hh : A.handled = none) (hit : IsRtS s.heap it x t (-1))
    (hQ : ∀ h', Heap.ExtBut it s.heap h' → Q none { s with heap := h' }) : wpAny (model prog w) A (pyNext (.ref it)) Q E s := by
  obtain ⟨o, ho, hc, hd⟩ := id hit
  unfold pyNext
  refine wpAny_bind (wpAny_attempt (wpAny_callSpecial?_slot (name := Str.ofString "__next__") hit.typeIs slot_rt_next
    (wpAny_call_entry slot_rt_next hit.typeIs entry_rt_next ?_ (args_rt_next _))))
  unfold Builtin.«reversed.__next__»
  refine wpAny_bind (wpAny_of_eq (a := (Value.ref it, [])) rfl ?_)
  try dsimp only
  refine wpAny_bind (wpAny_field ho hd (x := .str x t) rfl ?_)
  try dsimp only
  refine wpAny_bind (wpAny_field ho hd (x := rawInt (-1)) rfl ?_)
  show wpAny _ _ (if (-1 : Int) < 0 then _ else _) _ _ s
  rw [if_pos (by decide)]
  try dsimp only
  refine wpAny_bind (wpAny_rule ?_)
  refine wpAny_bind ?_
  wp_delta
  refine wpAny_bind (wpAny_setField ho hd (by simp) ?_)
  have ho2 := Heap.get?_update_self (Obj.mapFields (·.setIfInBounds 1 (rawInt (-1)))) ho (Obj.isFreed_of_fields (Obj.data_mapFields hd _))
  refine wpAny_setField (s := { s with heap := s.heap.update it (Obj.mapFields (·.setIfInBounds 1 (rawInt (-1)))) }) ho2 (Obj.data_mapFields hd _) (by simp) ?_
  try dsimp only
  first
  | show wpAny _ _ (newExc (.type "StopIteration") [] >>= _) _ _ _
  | (refine wpAny_bind ?_; show wpAny _ _ (newExc (.type "StopIteration") [] >>= _) _ _ _)
  | (refine wpAny_bind ?_; wp_delta; show wpAny _ _ (newExc (.type "StopIteration") [] >>= _) _ _ _)
  refine wpAny_bind ?_
  simp only [newExc, newTuple]
  refine wpAny_bind (wpAny_newObj_type ?_ (by size_fits))
  refine wpAny_bind (m := firstArgMember _ _) (wpAny_of_eq (a := Value.none) (by first | rfl | (simp only [firstArgMember]; rfl)) ?_)
  refine wpAny_newObj_type ?_ (by size_fits)
  simp only [raiseNew]
  refine wpAny_bind (wpAny_handled ?_)
  first | rw [show A.in1.handled = none from hh] | rw [hh]
  refine wpAny_bind (wpAny_pure (wpAny_throw ?_))
  refine wpAny_bind (wpAny_isInstance (T := "StopIteration") (b := true) ⟨_, Heap.get?_push_size _ rfl, rfl⟩ isSubtype_stop ?_)
  refine wpAny_pure (hQ _ ?_)
  refine ((?_ : Heap.ExtBut it s.heap _).push _).push _
  exact fun b ob hb e => (Heap.get?_update_other _ _ (Ne.symm hb)).trans ((Heap.get?_update_other _ _ (Ne.symm hb)).trans e)
theorem iter_rs {it : Addr} {i : Int} {Q : Value → Shared → Prop} (hit : IsRtS s.heap it x t i) (h : Q (.ref it) s) : wpAny (model prog w) A (pyIter (.ref it)) Q E s := by
  refine wpAny_pyIter_slot hit.typeIs slot_rt_iter (wpAny_call_entry slot_rt_iter hit.typeIs entry_rt_iter ?_ (args_rt_iter _))
  show wpAny _ _ (ret (.ref it)) _ _ s
  exact wpAny_pure ⟨_, rfl, "reversed", _, hit.typeIs, slot_rt_next.lookup, h⟩
def RevItem (x : Str) (i : Nat) (v : Value) : Prop := ∃ c tk, x.cps[x.length - 1 - i]? = some c ∧ v = .str ⟨#[c]⟩ tk
theorem walks_rs (hh : A.handled = none) (I : Addr) (hsz : x.length ≤ sizeLine) :
    Walks prog w A I [I] [I] x.length (RevItem x) (fun i h => i ≤ x.length ∧ IsRtS h I x t ((x.length : Int) - 1 - (i : Int))) where
  sub := fun b hb => hb
  frame := fun _ _ _ y hk => ⟨y.1, y.2.at fun o e => hk I (by simp) o e⟩
  item := fun i s Q E hi y hQ => by
    have e : (x.length : Int) - 1 - (i : Int) = ((x.length - 1 - i : Nat) : Int) := by omega
    have hit := y.2
    rw [e] at hit
    have hlt : x.length - 1 - i < x.cps.size := by show x.length - 1 - i < x.length; omega
    have hx : x.cps[x.length - 1 - i]? = some (x.cps[x.length - 1 - i]'hlt) := Array.getElem?_eq_getElem hlt
    refine next_rs_item hit hx hsz fun h' tk hit' hs' _ => ?_
    have e2 : ((x.length - 1 - i : Nat) : Int) - 1 = (x.length : Int) - 1 - ((i + 1 : Nat) : Int) := by omega
    rw [e2] at hit'
    exact hQ _ h' tk ⟨_, _, hx, rfl⟩ ⟨hi, hit'⟩ fun b o hb eo => hs'.extBut b o (fun h => hb (by simp [h])) eo
  done := fun s Q E y hQ => by
    have e : (x.length : Int) - 1 - (x.length : Int) = -1 := by omega
    have hit := y.2
    rw [e] at hit
    exact next_rs_end hh hit fun h' he' => hQ h' s.toks fun b o hb eo => he' b o (fun h => hb (by simp [h])) eo
  self := fun _ _ _ _ y hQ => iter_rs y.2 hQ
theorem hint_rs {it : Addr} {i : Int} {Q : Value → Shared → Prop} (hit : IsRtS s.heap it x t i) (hz : x.length ≤ sizeLine) (hi : i + 1 ≤ x.length)
    (hQ : ∀ tk, Q (.int (i + 1) (s.toks + 1 + 1)) { s with toks := tk }) : wpAny (model prog w) A (call (.builtin "reversed.__length_hint__") [.ref it]) Q E s := by
  obtain ⟨o, ho, hc, hd⟩ := id hit
  refine wpAny_call_entry slot_rt_hint hit.typeIs entry_rt_hint ?_ (args_rt_hint _)
  unfold Builtin.«reversed.__length_hint__»
  refine wpAny_bind (wpAny_of_eq (a := Value.ref it) rfl ?_)
  try dsimp only
  refine wpAny_bind (wpAny_field ho hd (x := .str x t) rfl ?_)
  try dsimp only
  rw [if_neg (show ¬ (Value.str x t == Value.none) = true from Bool.false_ne_true)]
  try dsimp only
  rw [sizeLine_eq] at hz
  refine wpAny_bind (len_str (by omega) ?_)
  refine wpAny_bind (wpAny_of_eq (a := some ((x.length : Nat) : Int)) rfl ?_)
  try dsimp only
  refine wpAny_bind (wpAny_field (s := { s with toks := s.toks + 1 + 1 }) ho hd (x := rawInt i) rfl ?_)
  show wpAny _ _ (if ((x.length : Nat) : Int) < i + 1 then _ else _) _ _ _
  rw [if_neg (by omega)]
  unfold retInt
  refine wpAny_bind (wpAny_mkInt ?_)
  exact wpAny_pure ⟨_, rfl, hQ _⟩
theorem collect_rs {it : Addr} {Q : List Value → Shared → Prop} (hh : A.handled = none) (hit : IsRtS s.heap it x t ((x.length : Int) - 1)) (hn : x.length ≤ sizeLine)
    (hQ : ∀ (h' : Heap) (tk : Nat) (acc : Array Value), (∀ b o, b ≠ it → s.heap.get? b = some o → h'.get? b = some o) → ItemsOf (RevItem x) acc x.length → Q acc.toList { s with heap := h', toks := tk }) :
    wpAny (model prog w) A (collect (.ref it)) Q E s := by
  have W := (walks_rs (prog := prog) (w := w) (A := A.in1) (x := x) (t := t) hh it hn).toS
  obtain ⟨oi, hoi, _⟩ := id hit
  have hSi : s.heap.objs.size ≠ it := Nat.ne_of_gt (Heap.lt_size hoi)
  have hSf : s.heap.objs.size ∉ [it] := by simp only [List.mem_cons, List.not_mem_nil, or_false]; exact hSi
  unfold collect
  refine wpAny_bind (wpAny_runValue (codeAny_builtin F.entry_proto_collect ?_))
  rw [Around.under_plainId F.plain_proto_collect _]
  show wpAny _ A.in1 (newList [] >>= fun l' => again (.builtin "list.__iadd__" ⟨[l', .ref it], []⟩)) _ _ s
  refine wpAny_bind (wpAny_newObj_type ?_)
  refine wpAny_pure ⟨plainId_quiet F.plain_list_iadd _, codeAny_builtin F.entry_list_iadd ?_⟩
  rw [Around.under_plainId F.plain_list_iadd _]
  have hS₁ : (s.heap.push { cls := .type "list", data := .seq ([] : List Value).toArray }).get? s.heap.objs.size = some { cls := .type "list", data := .seq ([] : List Value).toArray } := Heap.get?_push_size _ rfl
  have hit1 : IsRtS (s.heap.push { cls := .type "list", data := .seq ([] : List Value).toArray }) it x t ((x.length : Int) - 1) := hit.at fun o e => Heap.get?_push_of_some _ e
  have hT : ({ s with heap := s.heap.push { cls := .type "list", data := .seq ([] : List Value).toArray } } : Shared).TypeIs (.ref it) "reversed" := IsRtS.typeIs (s := { s with heap := s.heap.push { cls := .type "list", data := .seq ([] : List Value).toArray } }) hit1
  have h1 : Builtin.List.listSameRef (.ref s.heap.objs.size) (.ref it) = false := by simp [Builtin.List.listSameRef, hSi]
  show wpAny _ A.in1 (Builtin.List.listExtendWith (.ref s.heap.objs.size) (.ref it) (.ref s.heap.objs.size)) _ _ _
  unfold Builtin.List.listExtendWith
  refine wpAny_bind (wpAny_typeOf hT ?_)
  rw [if_neg (by rw [h1]; decide)]
  refine wpAny_bind (iter_rs (s := { s with heap := s.heap.push { cls := .type "list", data := .seq ([] : List Value).toArray } }) hit1 ?_)
  refine wpAny_bind (wpAny_holding ?_)
  unfold Builtin.List.listLengthHint
  refine wpAny_bind (wpAny_specialOf hT nolen_rt ?_)
  show wpAny _ A.in1 (specialOf (Value.ref it) (Str.ofString "__length_hint__") >>= _) _ _ _
  refine wpAny_bind (wpAny_specialOf hT hint_rt ?_)
  generalize hid : ("reversed.__length_hint__" : String) = id0
  wp_delta
  rw [show splitId id0 = some ("reversed", "__length_hint__") from by subst hid; decide +kernel]
  subst hid
  refine wpAny_bind (wpAny_isInstance (b := true) hT (by rw [isSubtype_type]; kernel_rfl) ?_)
  rw [if_neg (by decide)]
  try dsimp only
  rw [if_neg (by decide +kernel)]
  refine wpAny_bind (wpAny_rule ?_)
  refine wpAny_bind (wpAny_of_eq (slot_rt_hint.bind _) ?_)
  try dsimp only
  refine wpAny_bind (wpAny_attempt (hint_rs (s := { s with heap := s.heap.push { cls := .type "list", data := .seq ([] : List Value).toArray } }) hit1 hn (by omega) fun tk0 => ?_))
  try dsimp only
  refine wpAny_bind (wpAny_of_eq (a := some ((x.length : Int) - 1 + 1)) rfl ?_)
  try dsimp only
  have hn2 := hn
  rw [sizeLine_eq] at hn2
  rw [if_neg (by
    have : Builtin.List.listFitsIndex ((x.length : Int) - 1 + 1) = true := by
      unfold Builtin.List.listFitsIndex
      rw [Bool.and_eq_true, decide_eq_true_eq, decide_eq_true_eq]
      omega
    rw [this]; decide), if_neg (by omega), if_neg (by rw [notLongL (by rw [sizeLine_eq]; omega)]; decide)]
  refine wpAny_pure ?_
  have e0 : ((x.length : Nat) : Int) - 1 - ((0 : Nat) : Int) = (x.length : Int) - 1 := by omega
  by_cases hx0 : x.length = 0
  · rw [show ((x.length : Int) - 1 + 1 != 0) = false by rw [hx0]; rfl]
    rw [if_neg (by decide)]
    refine wpAny_pure ⟨plainId_quiet F.plain_extend_loop _, codeAny_extend_loopS W hn _ hSf _ x.length 0 _ _ _ rfl (Nat.zero_le _) ⟨Nat.zero_le _, by rw [e0]; exact hit1⟩ hS₁ (ItemsOf.nil _) fun s' acc' c' hm hS' hacc => ?_⟩
    show wpAny _ A (load s.heap.objs.size >>= _) _ _ s'
    refine wpAny_bind (wpAny_load hS' ?_)
    refine wpAny_pure ?_
    rw [Moved.eq_with hm]
    refine hQ s'.heap s'.toks acc' (fun b o hb e => hm.heap b o (fun hmem => ?_) (Heap.get?_push_of_some _ e)) hacc
    rcases List.mem_cons.mp hmem with e' | hmem
    · exact absurd (Heap.lt_size e) (by rw [e']; exact Nat.lt_irrefl _)
    · exact hb (List.mem_singleton.mp hmem)
  · rw [show ((x.length : Int) - 1 + 1 != 0) = true by
      rw [bne_iff_ne]
      omega]
    show wpAny _ A.in1 (rule "list.extend.makes-room" >>= fun _ => Builtin.List.listTouch (.ref s.heap.objs.size) >>= fun _ =>
      again (.builtin "list.extend.loop" ⟨[.ref s.heap.objs.size, .ref it, .ref s.heap.objs.size], []⟩)) _ _ _
    refine wpAny_bind (wpAny_rule ?_)
    refine wpAny_bind ?_
    show wpAny _ A.in1 (updateSeq s.heap.objs.size (·.push .none) >>= fun _ => updateSeq s.heap.objs.size (·.pop)) _ _ _
    refine wpAny_bind (wpAny_updateSeq hS₁ rfl ?_)
    have hS₂ := Heap.get?_update_self (Obj.mapSeq (·.push Value.none)) hS₁ rfl
    refine wpAny_updateSeq hS₂ rfl ?_
    have hS₃ := Heap.get?_update_self (Obj.mapSeq (·.pop)) hS₂ rfl
    have oth : ∀ b o, b ≠ s.heap.objs.size → (s.heap.push { cls := .type "list", data := .seq ([] : List Value).toArray }).get? b = some o →
        (((s.heap.push { cls := .type "list", data := .seq ([] : List Value).toArray }).update s.heap.objs.size (Obj.mapSeq (·.push Value.none))).update s.heap.objs.size (Obj.mapSeq (·.pop))).get? b = some o :=
      fun b o hb e => (Heap.get?_update_other _ _ (Ne.symm hb)).trans ((Heap.get?_update_other _ _ (Ne.symm hb)).trans e)
    refine wpAny_pure ⟨plainId_quiet F.plain_extend_loop _, codeAny_extend_loopS W hn _ hSf _ x.length 0 _ _ _ rfl (Nat.zero_le _) ⟨Nat.zero_le _, by rw [e0]; exact hit1.at fun o e => oth it o (Ne.symm hSi) e⟩ hS₃ (ItemsOf.nil _) fun s' acc' c' hm hS' hacc => ?_⟩
    show wpAny _ A (load s.heap.objs.size >>= _) _ _ s'
    refine wpAny_bind (wpAny_load hS' ?_)
    refine wpAny_pure ?_
    rw [Moved.eq_with hm]
    refine hQ s'.heap s'.toks acc' (fun b o hb e => hm.heap b o (fun hmem => ?_) (oth b o (fun h => ?_) (Heap.get?_push_of_some _ e))) hacc
    · rcases List.mem_cons.mp hmem with e' | hmem
      · exact absurd (Heap.lt_size e) (by rw [e']; exact Nat.lt_irrefl _)
      · exact hb (List.mem_singleton.mp hmem)
    · exact absurd (Heap.lt_size e) (by rw [h]; exact Nat.lt_irrefl _)
theorem strsAre_at : ∀ {vs : List Value} {ys : List Str}, vs.length = ys.length → (∀ (j : Nat) (v : Value), vs[j]? = some v → ∃ y t, ys[j]? = some y ∧ v = .str y t) → StrsAre vs ys
  | [], [], _, _ => .nil
  | [], _ :: _, h, _ => by simp at h
  | _ :: _, [], h, _ => by simp at h
  | v :: vs, y :: ys, h, hp => by
    obtain ⟨y', t, e1, e2⟩ := hp 0 v rfl
    have e3 : y = y' := by simpa using e1
    subst e3
    subst e2
    exact .cons y t (strsAre_at (by simpa using h) fun j v hj => hp (j + 1) v hj)
theorem strs_rs {y : List Nat} {acc : Array Value} (h : ItemsOf (RevItem ⟨y.toArray⟩) acc (⟨y.toArray⟩ : Str).length) : StrsAre acc.toList ((y.reverse.map fun c => [c]).map Z.toS) := by
  have hl : (⟨y.toArray⟩ : Str).length = y.length := List.size_toArray
  rw [hl] at h
  refine strsAre_at (by rw [Array.length_toList, h.1]; simp) fun j v hj => ?_
  have hj2 : acc[j]? = some v := by rw [← Array.getElem?_toList]; exact hj
  have hjl : j < y.length := by
    have := (Array.getElem?_eq_some_iff.mp hj2).1
    rw [h.1] at this
    exact this
  obtain ⟨c, tk, e1, e2⟩ := h.2 j v hj2
  rw [hl] at e1
  refine ⟨_, tk, ?_, e2⟩
  rw [List.getElem?_map, List.getElem?_map, List.getElem?_reverse hjl]
  have e3 : y[y.length - 1 - j]? = some c := by simpa using e1
  rw [e3]
  rfl
theorem join_rs {it : Addr} {y : Str} {u : Tok} {Q : Value → Shared → Prop} {ys : List Str} (hh : A.handled = none) (hit : IsRtS s.heap it y u ((y.length : Int) - 1)) (hn : y.length ≤ sizeLine)
    (hP : ∀ acc : Array Value, ItemsOf (RevItem y) acc y.length → StrsAre acc.toList ys) (hok : (ys.map (·.length)).sum + ys.length * x.length ≤ 16777216)
    (hq : ∀ h' t' k, (∀ b o, b ≠ it → s.heap.get? b = some o → h'.get? b = some o) → Q (.str (Txt.join x ys) t') { s with heap := h', toks := k }) :
    wpAny (model prog w) A (call (.builtin "str.join") [.str x t, .ref it]) Q E s := by
  refine wpAny_call (codeAny_call_builtin F.slot_str_join.plain F.entry_str_join (F.slot_str_join.check _ _ _ _ _ _ _ _ (typeIs_str _ _ _) (F.args_str_join_2 _ _) ?_))
  rw [join_tree_other]
  refine wpAny_bind (wpAny_typeOf hit.typeIs ?_)
  show wpAny _ A.in1 ((pyIter (.ref it)).tryCatch _ >>= fun it => collect it >>= fun items => joinTail x items) _ _ s
  refine wpAny_bind (wpAny_tryCatch (iter_rs hit ?_))
  refine wpAny_bind (collect_rs (A := A.in1) hh hit hn fun h' tk acc hk hacc => ?_)
  obtain ⟨l2, hl2, ht⟩ := strsAre_values (hP acc hacc)
  subst ht
  rw [hl2]
  have hok' := joinOk_of hok
  unfold JoinOk at hok'
  rw [Bool.not_eq_true'] at hok'
  have g : Gives (joinTail x (strValues l2)) (joinMade x l2) := by
    have g0 := gives_joinTail x l2 hok'
    cases l2 with
    | nil => exact g0
    | cons p r => cases r with
      | nil => exact g0
      | cons q r' => exact g0
  exact g prog w A (wants Q E) _ (post_join l2 ⟨joinFit_length hok', fun t' k => hq h' t' k hk⟩)
end
end ZV
namespace Z
noncomputable section
open PySem PySem.Spec PySem.P PyProof.Rows L2
/-- sep.join(reversed(xs)), xs a list or a text -/
def joinRevM2 (x : D) : List D → R D
  | [.lst xs] => joinRevM x [.lst xs]
  | [.str y] => match x with
    | .str a => if y.length + y.length * a.length ≤ SZ then .ok (.str (TL.joinL a (y.reverse.map fun c => [c]))) else .bad
    | _ => .bad
  | _ => .bad
theorem joinRevM2_ne : NoExM joinRevM2 := fun x xs c vs h => by
  unfold joinRevM2 at h
  split at h
  · exact joinRevM_ne x _ c vs h
  · split at h
    · split at h <;> cases h
    · cases h
  · cases h
@[simp] theorem joinRevM2_l (x : D) (xs : List D) : joinRevM2 x [.lst xs] = joinRevM x [.lst xs] := rfl
theorem joinRevM2_s (y : List Nat) (h : y.length ≤ SZ) : joinRevM2 (.str []) [.str y] = .ok (.str y.reverse) := by
  unfold joinRevM2
  dsimp only
  rw [if_pos (by simpa using h)]
  have : ∀ r : List Nat, TL.joinL [] (r.map fun c => [c]) = r := fun r => by
    induction r with
    | nil => rfl
    | cons c r ih =>
      cases r with
      | nil => rfl
      | cons d r => 
        rw [List.map_cons]
        simp only [List.map_cons] at ih ⊢
        show [c] ++ [] ++ TL.joinL [] ([d] :: r.map fun c => [c]) = _
        rw [ih]
        rfl
  rw [this]
section
variable {X : Cx} {C : CT} {W : WX} {o e : Expr} {fa fb : SS → R D} {pos pos2 p2 apos p : Pos}
theorem s_joinRev2 (v : Pl X C W) (hg : Gl X "reversed") (hm : X.mg "reversed" = none) (ho : PE X o (tB C W fa)) (he : PE X e (tB C W fb))
    (hs1 : starEach [.Call (.Name "reversed" p2) [e] [] pos2] X.env = [(false, eval (.Call (.Name "reversed" p2) [e] [] pos2) X.env)] := by rfl)
    (hs : starEach [e] X.env = (false, eval e X.env) :: starEach [] X.env := by rfl)
    (hbase : attributeBase o "join" X.env (eval o X.env) = eval o X.env := by rfl) (hline : (apos.endLine == pos.line) = true := by rfl) :
    PE X (.Call (.Attribute o "join" apos) [.Call (.Name "reversed" p2) [e] [] pos2] [] pos) (tD C W (eM "str" joinRevM2 fa (aCons fb aNil))) := by
  refine ⟨fun pins s σ H Q I h => ?_⟩
  obtain ⟨F, sd, S, h⟩ := h
  refine PySem.Call_method1 hbase hs1 hline (thn (ho.run pins s σ H (fun u H1 => ∃ F1 d, Ext F H F1 H1 ∧ Bor C.G F1 H1 d u ∧ PostE C W F1 H1 σ (pD C) Q (if tyN d = some "str" then (aCons fb aNil sd).bind (joinRevM2 d) else .bad)) I ⟨F, sd, S, PostE.bind h fun d u F1 H1 e1 b1 h1 => ⟨F1, d, e1, b1, h1⟩⟩) fun v' s1 ⟨x, H1, I1, r1, q1⟩ => ?_)
  obtain ⟨F1, d, e1, b1, h1⟩ := q1
  by_cases ht : tyN d = some "str"
  · rw [if_pos ht] at h1
    cases d with
    | str a =>
      obtain ⟨rfl, oka⟩ := bor_str b1
      obtain ⟨t, rfl⟩ := _root_.id r1
      refine ⟨"str", _, PySem.F.plainAttrs_str, PySem.F.slot_str_join, PySem.F.type_str_join, typeIs_str _ _ _, (fun _ e => nomatch e), Calls.callWith_builtin rfl (Calls.evalArgs_plain (Calls.spliced_cons ?_))⟩
      have h1 : PostE C W F1 H1 σ (pD C) Q ((fb sd).bind fun y => joinRevM2 (.str a) [y]) := by
        unfold aCons aNil at h1
        cases q : fb sd with
        | ok y => rw [q] at h1; exact h1
        | ex c vs => rw [q] at h1; exact h1
        | bad => rw [q] at h1; exact h1
      refine Call_ (ld_blt I1 hg hm PyProof.Rows.boot_reversed (PyProof.Rows.callWith_type1 (args_cons (thn (he.run pins s1 σ H1 (fun u H2 => ∃ F2 d2, Ext F1 H1 F2 H2 ∧ Bor C.G F2 H2 d2 u ∧ PostE C W F2 H2 σ (pD C) Q (joinRevM2 (.str a) [d2])) I1 ⟨F1, sd, S.mono e1, PostE.bind h1 fun d2 u F2 H2 e2 b2 h2 => ⟨F2, d2, e2, b2, h2⟩⟩) fun u s2 ⟨v2, H2, I2, r2, q2⟩ => args_nil ?_) hs) hs rfl))
      obtain ⟨F2, d2, e2, b2, h2⟩ := q2
      cases d2 with
      | str y =>
        unfold joinRevM2 at h2
        dsimp only at h2
        split at h2
        · rename_i hz
          obtain ⟨rfl, oky⟩ := bor_str b2
          obtain ⟨t2, rfl⟩ := _root_.id r2
          have hyl : (⟨y.toArray⟩ : Str).length = y.length := List.size_toArray
          have hsz : (⟨y.toArray⟩ : Str).length ≤ sizeLine := by
            rw [hyl, sizeLine_eq]
            have := sz_is ▸ hz
            omega
          refine ZV.call_reversed_str hsz (Calls.spliced_nil ?_)
          have k0 : ∀ b o, s2.heap.get? b = some o → (s2.heap.push (ZV.rtS ⟨y.toArray⟩ t2 (((⟨y.toArray⟩ : Str).length : Int) - 1))).get? b = some o := fun b o e => Heap.get?_push_of_some _ e
          have I3 : Inv X pins σ H2 { s2 with heap := s2.heap.push (ZV.rtS ⟨y.toArray⟩ t2 (((⟨y.toArray⟩ : Str).length : Int) - 1)), toks := s2.toks + 1 + 1 } := I2.kept (t' := s2.toks + 1 + 1) k0
          obtain ⟨f0, f1, f2, f3, f4, f5⟩ := I2.fpOk (H' := H2) (b := s2.heap.objs.size) (Nat.le_refl _) (I2.hok.fresh (Nat.le_refl _))
          refine ZV.join_rs (s := { s2 with heap := s2.heap.push (ZV.rtS ⟨y.toArray⟩ t2 (((⟨y.toArray⟩ : Str).length : Int) - 1)), toks := s2.toks + 1 + 1 }) (ys := (y.reverse.map fun c => [c]).map toS) (I1.ok.hd v.calm) ⟨_, Heap.get?_push_size _ rfl, rfl, rfl⟩ hsz (fun acc hacc => ZV.strs_rs hacc) ?_ fun h' t' k hk => ?_
          · have e4 : ((y.reverse.map fun c => [c]).map toS).map (·.length) = (y.reverse.map fun c => [c]).map (·.length) := SX.lens _
            rw [e4, List.map_map, List.length_map, List.length_map, List.length_reverse]
            have e5 : (y.reverse.map ((fun x : List Nat => x.length) ∘ fun c => [c])).sum = y.length := by
              rw [← List.length_reverse (as := y)]
              induction y.reverse with
              | nil => rfl
              | cons c r ih => simp only [List.map_cons, List.sum_cons, ih, List.length_cons]; simp; omega
            rw [e5]
            exact sz_is ▸ hz
          · have I4 : Inv X pins σ H2 { s2 with heap := h', toks := k } := I3.turned (t' := k) (fun b o hb e => hk b o hb e) f0 f1 f3 f4 f5
            refine ⟨V.str (Txt.join (⟨a.toArray⟩ : Str) ((y.reverse.map fun c => [c]).map toS)), H2, I4, ⟨t', rfl⟩, ?_⟩
            have : Txt.join (⟨a.toArray⟩ : Str) ((y.reverse.map fun c => [c]).map toS) = ⟨(TL.joinL a (y.reverse.map fun c => [c])).toArray⟩ := SX.join_S a (y.reverse.map fun c => [c])
            rw [this]
            exact h2 _ F2 H2 (Ext.refl e2.fh) (rep_str.mpr ⟨rfl, okS_join oka fun z hz2 => by
              obtain ⟨c, hc, rfl⟩ := List.mem_map.mp hz2
              exact okS_mem oky (List.mem_reverse.mp hc)⟩)
        · exact h2.elim
      | lst xs =>
        have h2 : PostE C W F2 H2 σ (pD C) Q (joinRevM (.str a) [.lst xs]) := h2
        unfold joinRevM at h2
        dsimp only at h2
        split at h2
        · rename_i ys hys
          split at h2
          · rename_i hz
            obtain ⟨l, us, rfl, q, rr⟩ := bor_lst e2.fh b2
            obtain rfl : u = Value.ref l := r2
            obtain ⟨eu, hok⟩ := strs_rep hys rr
            rw [← v.K] at q
            obtain ⟨its, rv, p', hz2⟩ := I2.list q
            refine call_reversed_list p'.isList (Calls.spliced_nil ?_)
            have k0 : ∀ b o, s2.heap.get? b = some o → (s2.heap.push (revObj l ((its.toArray.size : Int) - 1))).get? b = some o := fun b o e => Heap.get?_push_of_some _ e
            have I3 : Inv X pins σ H2 { s2 with heap := s2.heap.push (revObj l ((its.toArray.size : Int) - 1)) } := I2.kept (t' := s2.toks) k0
            obtain ⟨f0, f1, f2, f3, f4, f5⟩ := I2.fpOk (H' := H2) (b := s2.heap.objs.size) (Nat.le_refl _) (I2.hok.fresh (Nat.le_refl _))
            have hl := p'.isList
            obtain ⟨ol, hol, _⟩ := id hl
            have hne : l ≠ s2.heap.objs.size := Nat.ne_of_lt (Heap.lt_size hol)
            have hn : its.toArray.size ≤ sizeLine := by rw [List.size_toArray, ← rv.length]; exact hz2
            have e3 : us.reverse = ((ys.reverse).map toS).map V.str := by rw [eu, ← List.map_reverse, ← List.map_reverse]
            refine ZR.join_rev (s := { s2 with heap := s2.heap.push (revObj l ((its.toArray.size : Int) - 1)) }) (ys := (ys.reverse).map toS) (I1.ok.hd v.calm) ⟨_, Heap.get?_push_size _ rfl, rfl, rfl⟩ (hl.push _) hne hn (fun acc hacc => ?_) ?_ fun h' t' k hk => ?_
            · have := RT.vals_rev rv hacc
              rw [e3] at this
              exact this.strs
            · have e4 : ((ys.reverse).map toS).map (·.length) = (ys.reverse).map (·.length) := SX.lens _
              rw [e4, List.map_reverse, List.sum_reverse, List.length_map, List.length_reverse]
              exact sz_is ▸ hz
            · have I4 : Inv X pins σ H2 { s2 with heap := h', toks := k } := I3.turned (t' := k) (fun b o hb e => hk b o hb e) f0 f1 f3 f4 f5
              refine ⟨V.str (Txt.join (⟨a.toArray⟩ : Str) (ys.reverse.map toS)), H2, I4, ⟨t', rfl⟩, ?_⟩
              have : Txt.join (⟨a.toArray⟩ : Str) (ys.reverse.map toS) = ⟨(TL.joinL a ys.reverse).toArray⟩ := SX.join_S a ys.reverse
              rw [this]
              exact h2 _ F2 H2 (Ext.refl e2.fh) (rep_str.mpr ⟨rfl, okS_join oka fun y hy => hok y (List.mem_reverse.mp hy)⟩)
          · exact h2.elim
        · exact h2.elim
      | _ => exact h2.elim
    | _ => simp [tyN] at ht
  · rw [if_neg ht] at h1
    exact h1.elim
end
end
end Z
namespace Z
open PySem PySem.Spec PySem.Calls PyProof.Rows L2
theorem cyc_rot {t : List Nat} {a k n : Nat} (ha : a < t.length) : cyc (rot t a) k n = cyc t ((a + k) % t.length) n := by
  unfold cyc
  rw [rot_len]
  refine List.map_congr_left fun j hj => ?_
  have hm : (k + j) % t.length < t.length := Nat.mod_lt _ (by omega)
  rw [List.getD_eq_getElem?_getD, List.getD_eq_getElem?_getD, rot_get t a _ (by omega) hm]
  congr 2
  rw [Nat.mod_add_mod, Nat.mod_add_mod]
  congr 1
  omega
theorem rows_turn {t : List Nat} {a n : Nat} (ha : a < t.length) :
    ((List.range t.length).map fun k => cyc (rot t a) k n) = ((List.range t.length).map fun k => cyc t k n).drop a ++ ((List.range t.length).map fun k => cyc t k n).take a := by
  apply List.ext_getElem?
  intro k
  by_cases hk : k < t.length
  · rw [List.getElem?_map, List.getElem?_range hk, Option.map_some, cyc_rot ha]
    by_cases h : k < t.length - a
    · rw [List.getElem?_append_left (by simp; omega), List.getElem?_drop, List.getElem?_map, List.getElem?_range (by omega), Option.map_some, Nat.mod_eq_of_lt (by omega)]
    · rw [List.getElem?_append_right (by simp; omega), List.length_drop, List.length_map, List.length_range, List.getElem?_take, if_pos (by omega), List.getElem?_map, List.getElem?_range (by omega), Option.map_some]
      congr 2
      rw [show a + k = (k - (t.length - a)) + t.length by omega, Nat.add_mod_right, Nat.mod_eq_of_lt (by omega)]
  · rw [List.getElem?_eq_none (by simp; omega), List.getElem?_eq_none (by simp; omega)]
theorem mod_back (x L : Int) (hL : 0 < L) : (-x - 1) % L = L - 1 - x % L := by
  have h1 := Int.emod_nonneg x (show L ≠ 0 by omega)
  have h2 := Int.emod_lt_of_pos x hL
  have h3 := Int.mul_ediv_add_emod x L
  have e : -x - 1 = (L - 1 - x % L) + L * (-(x / L) - 1) := by
    rw [Int.mul_sub, Int.mul_neg]
    omega
  rw [e, Int.add_mul_emod_self_left, Int.emod_eq_of_lt (by omega) (by omega)]
def sig (L n k : Nat) : Nat := ((-(k : Int) - n) % (L : Int)).toNat
theorem sig_lt {L n k : Nat} (hL : 0 < L) : sig L n k < L := by
  unfold sig
  have h1 := Int.emod_nonneg (-(k : Int) - n) (show (L : Int) ≠ 0 by omega)
  have h2 := Int.emod_lt_of_pos (-(k : Int) - n) (show (0 : Int) < L by omega)
  omega
theorem sig_int {L n k : Nat} (hL : 0 < L) : ((sig L n k : Nat) : Int) = (-(k : Int) - n) % (L : Int) := by
  unfold sig
  have h1 := Int.emod_nonneg (-(k : Int) - n) (show (L : Int) ≠ 0 by omega)
  omega
theorem sig_sig {L n k : Nat} (hk : k < L) : sig L n (sig L n k) = k := by
  have h : ((sig L n (sig L n k) : Nat) : Int) = k := by
    rw [sig_int (by omega), sig_int (by omega)]
    rw [show (-((-(k : Int) - n) % (L : Int)) - (n : Int)) = (-(n : Int)) - ((-(k : Int) - n) % (L : Int)) by omega, Int.sub_emod, Int.emod_emod, ← Int.sub_emod]
    rw [show -(n : Int) - (-(k : Int) - n) = k by omega, Int.emod_eq_of_lt (by omega) (by omega)]
  omega
theorem cyc_rev {t : List Nat} {k n : Nat} (h0 : 0 < t.length) : (cyc t k n).reverse = cyc t.reverse (sig t.length n k) n := by
  apply List.ext_getElem?
  intro j
  by_cases hj : j < n
  · rw [List.getElem?_reverse (by rw [cyc_len]; exact hj), cyc_len, cyc_get (by omega), cyc_get hj]
    rw [List.length_reverse]
    have hm : (sig t.length n k + j) % t.length < t.length := Nat.mod_lt _ h0
    rw [List.getD_eq_getElem?_getD, List.getD_eq_getElem?_getD, List.getElem?_reverse hm]
    congr 3
    have e1 : (((sig t.length n k + j) % t.length : Nat) : Int) = (-((k : Int) + n - 1 - j) - 1) % (t.length : Int) := by
      rw [Int.natCast_emod, Int.natCast_add, sig_int h0, Int.emod_add_emod]
      congr 1
      omega
    rw [mod_back _ _ (by omega)] at e1
    have e2 : (((k + (n - 1 - j)) % t.length : Nat) : Int) = ((k : Int) + n - 1 - j) % (t.length : Int) := by
      rw [Int.natCast_emod]
      congr 1
      omega
    omega
  · rw [List.getElem?_eq_none (by rw [List.length_reverse, cyc_len]; omega), List.getElem?_eq_none (by rw [cyc_len]; omega)]
theorem rows_rev {t : List Nat} {n : Nat} (h0 : 0 < t.length) :
    sortT (((List.range t.length).map fun k => cyc t k n).map List.reverse) = sortT ((List.range t.length).map fun k => cyc t.reverse k n) := by
  refine sortT_uniq ?_ (sortT_sorted _)
  refine (sortT_perm _).trans ?_
  rw [List.map_map]
  have e : ((List.range t.length).map (List.reverse ∘ fun k => cyc t k n)) = (((List.range t.length).map (sig t.length n)).map fun k => cyc t.reverse k n) := by
    rw [List.map_map]
    exact List.map_congr_left fun k hk => cyc_rev h0
  rw [e]
  refine List.Perm.map _ ?_
  refine (List.perm_ext_iff_of_nodup ?_ List.nodup_range).mpr fun k => ?_
  · refine List.pairwise_map.mpr ((List.nodup_range (n := t.length)).imp_of_mem fun {a b} ha hb hab e => hab ?_)
    have := congrArg (sig t.length n) e
    rwa [sig_sig (List.mem_range.mp ha), sig_sig (List.mem_range.mp hb)] at this
  · rw [List.mem_map, List.mem_range]
    constructor
    · rintro ⟨x, hx, rfl⟩
      exact sig_lt h0
    · intro hk
      exact ⟨sig t.length n k, List.mem_range.mpr (sig_lt h0), sig_sig hk⟩
end Z
namespace Z
noncomputable section
open PySem PySem.Spec PySem.P PyProof.Rows L2
/-! ### a field of an object of an own class -/
structure FldC (G : GE) (c : Nat) (f : Str) (i : Nat) : Prop where
  ex : ∃ A ns, G.cls c = some (A, ns) ∧ ns[i]? = some f ∧ ns.Nodup ∧ L2.Cls G.K A ∧ L2.NoAttr G.K A f
def fldD (c i : Nat) : D → R D
  | .obj c' vs => if c' = c then (match vs[i]? with
    | some v => .ok v
    | none => .bad) else .bad
  | _ => .bad
@[simp] theorem fldD_o (c i : Nat) (vs : List D) : fldD c i (.obj c vs) = (match vs[i]? with
    | some v => .ok v
    | none => .bad) := if_pos rfl
theorem lookup_at : ∀ {fs : List (Str × V)} {i : Nat} {f : Str} {v : V}, (fs.map (·.1)).Nodup → (fs.map (·.1))[i]? = some f → (fs.map (·.2))[i]? = some v → fs.lookup f = some v
  | [], i, f, v, _, h, _ => by simp at h
  | (g, u) :: fs, 0, f, v, _, h1, h2 => by
    simp at h1 h2
    subst h1 h2
    simp
  | (g, u) :: fs, i + 1, f, v, hn, h1, h2 => by
    rw [List.map_cons, List.nodup_cons] at hn
    simp only [List.map_cons, List.getElem?_cons_succ] at h1 h2
    have hne : f ≠ g := fun e => hn.1 (e ▸ List.mem_of_getElem? h1)
    have := lookup_at hn.2 h1 h2
    rw [List.lookup_cons]
    have hb : (f == g) = false := by simpa using hne
    rw [hb]
    exact this
section
variable {X : Cx} {C : CT} {W : WX} {a : Expr} {fa : SS → R D} {pos : Pos} {f : Str} {c i : Nat}
theorem s_fld (hK : X.K = C.G.K) (hc : FldC C.G c f i) (ha : PE X a (tB C W fa)) (hb : attributeBase a f X.env (eval a X.env) = eval a X.env := by rfl) :
    PE X (.Attribute a f pos) (tD C W (eUn (fldD c i) fa)) := by
  refine pe_imp (pe_fld ha hb) fun σ H Q ⟨F, sd, S, h⟩ => ⟨F, sd, S, PostE.bind h fun d v F1 H1 e1 b1 h1 => ?_⟩
  obtain ⟨A, ns, g1, g2, g3, g4, g5⟩ := hc.ex
  cases d with
  | obj c' vs =>
    by_cases hcc : c' = c
    · subst hcc
      rw [fldD_o] at h1
      cases hv : vs[i]? with
      | none => rw [hv] at h1; exact h1.elim
      | some w =>
        rw [hv] at h1
        have r : ∃ ad A' dx fs ns', v = .ref ad ∧ C.G.cls c' = some (A', ns') ∧ H1 ad = some (.ins A' dx fs) ∧ fs.map (·.1) = ns' ∧ RepL C.G F1 vs (fs.map (·.2)) := by
          rcases b1 with ⟨ad, A', dx, fs, ns', e0, k1, k2, k3, k4⟩ | ⟨ad, e0, _, A', dx, fs, ns', k1, k2, k3, k4⟩
          · exact ⟨ad, A', dx, fs, ns', e0, k1, e1.fh _ _ k2, k3, k4⟩
          · exact ⟨ad, A', dx, fs, ns', e0, k1, k2, k3, k4⟩
        obtain ⟨ad, A', dx, fs, ns', e0, k1, k2, k3, k4⟩ := r
        rw [g1] at k1
        obtain ⟨rfl, rfl⟩ : A = A' ∧ ns = ns' := by cases k1; exact ⟨rfl, rfl⟩
        obtain ⟨u, hu, hr⟩ := k4.get hv
        refine ⟨ad, A, dx, fs, u, e0, k2, by rw [hK]; exact g4, by rw [hK]; exact g5, lookup_at (by rw [k3]; exact g3) (by rw [k3]; exact g2) hu, ?_⟩
        exact h1 u F1 H1 (Ext.refl e1.fh) hr
    · have : fldD c i (.obj c' vs) = .bad := if_neg hcc
      rw [this] at h1
      exact h1.elim
  | _ => exact h1.elim
end
end
end Z
namespace Z
noncomputable section
open PySem PySem.Spec PySem.P PyProof.Rows L2
/-! ### x.f = e, x an own object that has not got f yet: class number c becomes c' -/
structure SetC (G : GE) (c c' : Nat) (f : Str) : Prop where
  ex : ∃ A ns, G.cls c = some (A, ns) ∧ G.cls c' = some (A, ns ++ [f]) ∧ f ∉ ns ∧ ns.length < 1000 ∧ L2.Cls G.K A ∧ L2.NoAttr G.K A f
def owO (c : Nat) (s : SS) (i : Nat) : Option (List D) := match s[i]? with
  | some (.ow (.obj k vs)) => if k = c then some vs else none
  | _ => none
theorem owO_some {c : Nat} {s : SS} {i : Nat} {vs : List D} (h : owO c s i = some vs) : s[i]? = some (.ow (.obj c vs)) := by
  unfold owO at h
  split at h
  · rename_i k vs' e
    split at h
    · rename_i hk
      cases h
      rw [e, hk]
    · cases h
  · cases h
def sFldO (i c c' : Nat) (fe : SS → R D) : SS → RS := fun s => match owO c s i with
  | some vs => sE fe (fun d s => .nx (s.set i (.ow (.obj c' (vs ++ [d]))))) s
  | none => .bad
theorem putF_new {f : Str} {y : V} : ∀ {fs : List (Str × V)}, f ∉ fs.map (·.1) → putF f y fs = fs ++ [(f, y)]
  | [], _ => rfl
  | (g, u) :: fs, h => by
    rw [List.map_cons, List.mem_cons, not_or] at h
    unfold putF
    simp only [List.cons_append]
    first
      | rw [if_neg (by simpa using Ne.symm h.1), putF_new h.2]
      | rw [if_neg (by simpa using h.1), putF_new h.2]
section
variable {X : Cx} {C : CT} {W : WX} {e : Expr} {fe : SS → R D} {pos pos' p : Pos} {x f : Str} {c c' : Nat}
theorem s_fldO (i : Nat) (hK : X.K = C.G.K) (hc : SetC C.G c c' f) (he : PE X e (tD C W fe)) (hN : X.N[i]? = some x := by rfl) (hv : Vis X.env.scope x := by first | exact Or.inl rfl | exact Or.inr (Or.inl rfl) | exact Or.inr (Or.inr rfl)) (hd : (x == ("__debug__" : Str)) = false := by decide)
    (hcd : (x == ("__classdict__" : Str)) = false := by decide)
    (hs : swapsWith e (some (.Attribute (.Name x p) f pos')) pos.line X.env = pure false := by rfl) :
    PS X (.Assign [.Attribute (.Name x p) f pos'] e pos) (tS C W (sFldO i c c' fe)) := by
  refine ps_imp (ps_fld (pe_var (i := i) hN hv hd hcd) he hs) fun En σ H ⟨F, sd, S, h⟩ => ?_
  obtain ⟨A, ns, g1, g2, g3, g4, g5, g6⟩ := hc.ex
  unfold sFldO at h
  cases hx : owO c sd i with
  | none => rw [hx] at h; exact h.elim
  | some vs =>
    rw [hx] at h
    refine ⟨F, sd, S, postS_E S h fun d v F1 H1 e1 p1 h1 => ?_⟩
    have S1 := S.mono e1
    have ho := owO_some hx
    obtain ⟨a, e2, e3, e4, A', dx, fs, ns', k1, k2, k3, k4⟩ := S1.ow i _ (.inl ho)
    rw [g1] at k1
    obtain ⟨rfl, rfl⟩ : A = A' ∧ ns = ns' := by cases k1; exact ⟨rfl, rfl⟩
    refine ⟨_, e2, a, A, dx, fs, rfl, k2, by rw [hK]; exact g5, by rw [hK]; exact g6, by rw [← List.length_map (f := (·.1)), k3]; exact g4, ?_⟩
    rw [putF_new (by rw [k3]; exact g3)]
    refine h1 F1 _ σ (S1.upOw (d' := .obj c' (vs ++ [d])) ho e2 ⟨A, dx, fs ++ [(f, v)], ns ++ [f], g2, upd_same, by rw [List.map_append, k3]; rfl, ?_⟩) e1.ff (lk_ow ho)
    rw [List.map_append]
    exact k4.append (RepL.cons p1 RepL.nil)
end
end
end Z
namespace Z
noncomputable section
open PySem PySem.Spec PySem.P PyProof.Rows L2
/-! ### self of an __init__: a locked slot with an object that gets its fields -/
def lkO (c : Nat) (s : SS) (i : Nat) : Option (List D) := match s[i]? with
  | some (.lk (.obj k vs)) => if k = c then some vs else none
  | _ => none
theorem lkO_some {c : Nat} {s : SS} {i : Nat} {vs : List D} (h : lkO c s i = some vs) : s[i]? = some (.lk (.obj c vs)) := by
  unfold lkO at h
  split at h
  · rename_i k vs' e
    split at h
    · rename_i hk
      cases h
      rw [e, hk]
    · cases h
  · cases h
theorem StR.upLk {C : CT} {F H : Hp} {s : SS} {σ : L2.St} {i : Nat} {d d' : D} {a : Addr} {o : HO} (S : StR C F H s σ) (hs : s[i]? = some (.lk d)) (hσ : σ[i]? = some (some (.ref a))) (r : OwR C.G F (upd H a o) a d') : StR C F (upd H a o) (s.set i (.lk d')) σ := by
  have hi : i < s.length := (List.getElem?_eq_some_iff.mp hs).1
  obtain ⟨b, h1, h2, h3, h4⟩ := S.ow i d (.inr hs)
  rw [hσ] at h1
  cases h1
  have other : ∀ (j : Nat) (e : D) (b : Addr), j ≠ i → s[j]? = some (.ow e) ∨ s[j]? = some (.lk e) → σ[j]? = some (some (.ref b)) → b ≠ a := fun j e b hj q2 q3 z => by
    subst z
    exact hj (S.dis j i e d b q2 (.inr hs) q3 hσ)
  refine ⟨⟨S.ext.ff, fun b u e => ?_, fun b u e => ?_, S.ext.ow⟩, by rw [List.length_set]; exact S.len, fun j e q => ?_, fun j e q => ?_, fun j k e e' b q1 q2 q3 q4 => ?_⟩
  · rw [upd_ne (ne_of_none e h2)]
    exact S.ext.hh _ _ e
  · rw [upd_ne (ne_of_none e h3)]
    exact S.ext.fh _ _ e
  · by_cases hij : i = j
    · subst hij
      rw [List.getElem?_set_self hi] at q
      cases q
    · rw [List.getElem?_set_ne hij] at q
      exact S.sh j e q
  · by_cases hij : i = j
    · subst hij
      rw [List.getElem?_set_self hi] at q
      rcases q with q | q
      · cases q
      · cases q
        exact ⟨a, hσ, h2, h3, r⟩
    · rw [List.getElem?_set_ne hij] at q
      obtain ⟨b, e1, e2, e3, e4⟩ := S.ow j e q
      have hb := other j e b (Ne.symm hij) q e1
      exact ⟨b, e1, e2, e3, e4.mono (Same.refl F) fun u z => by rw [upd_ne hb]; exact z⟩
  · by_cases hij : i = j
    · by_cases hik : i = k
      · exact hij.symm.trans hik
      · subst hij
        rw [List.getElem?_set_ne hik] at q2
        rw [hσ] at q3
        cases q3
        exact (other k e' _ (Ne.symm hik) q2 q4 rfl).elim
    · rw [List.getElem?_set_ne hij] at q1
      by_cases hik : i = k
      · subst hik
        rw [hσ] at q4
        cases q4
        exact (other j e _ (Ne.symm hij) q1 q3 rfl).elim
      · rw [List.getElem?_set_ne hik] at q2
        exact S.dis j k e e' b q1 q2 q3 q4
theorem lk_lk {s : SS} {σ : L2.St} {i c c' : Nat} {vs ws : List D} (hs : s[i]? = some (.lk (.obj c vs))) : Lk s σ (s.set i (.lk (.obj c' ws))) σ := fun j e q => by
  have hi : i < s.length := (List.getElem?_eq_some_iff.mp hs).1
  by_cases hij : i = j
  · subst hij
    rw [hs] at q
    cases q
    exact ⟨⟨_, List.getElem?_set_self hi, .inr ⟨_, _, _, _, rfl, rfl⟩⟩, rfl⟩
  · rw [List.getElem?_set_ne hij]
    exact ⟨⟨_, q, .inl rfl⟩, rfl⟩
def sFldK (i c c' : Nat) (fe : SS → R D) : SS → RS := fun s => match lkO c s i with
  | some vs => sE fe (fun d s => .nx (s.set i (.lk (.obj c' (vs ++ [d]))))) s
  | none => .bad
section
variable {X : Cx} {C : CT} {W : WX} {e : Expr} {fe : SS → R D} {pos pos' p : Pos} {x f : Str} {c c' : Nat}
theorem s_fldK (i : Nat) (hK : X.K = C.G.K) (hc : SetC C.G c c' f) (he : PE X e (tD C W fe)) (hN : X.N[i]? = some x := by rfl) (hv : Vis X.env.scope x := by first | exact Or.inl rfl | exact Or.inr (Or.inl rfl) | exact Or.inr (Or.inr rfl)) (hd : (x == ("__debug__" : Str)) = false := by decide)
    (hcd : (x == ("__classdict__" : Str)) = false := by decide)
    (hs : swapsWith e (some (.Attribute (.Name x p) f pos')) pos.line X.env = pure false := by rfl) :
    PS X (.Assign [.Attribute (.Name x p) f pos'] e pos) (tS C W (sFldK i c c' fe)) := by
  refine ps_imp (ps_fld (pe_var (i := i) hN hv hd hcd) he hs) fun En σ H ⟨F, sd, S, h⟩ => ?_
  obtain ⟨A, ns, g1, g2, g3, g4, g5, g6⟩ := hc.ex
  unfold sFldK at h
  cases hx : lkO c sd i with
  | none => rw [hx] at h; exact h.elim
  | some vs =>
    rw [hx] at h
    refine ⟨F, sd, S, postS_E S h fun d v F1 H1 e1 p1 h1 => ?_⟩
    have S1 := S.mono e1
    have ho := lkO_some hx
    obtain ⟨a, e2, e3, e4, A', dx, fs, ns', k1, k2, k3, k4⟩ := S1.ow i _ (.inr ho)
    rw [g1] at k1
    obtain ⟨rfl, rfl⟩ : A = A' ∧ ns = ns' := by cases k1; exact ⟨rfl, rfl⟩
    refine ⟨_, e2, a, A, dx, fs, rfl, k2, by rw [hK]; exact g5, by rw [hK]; exact g6, by rw [← List.length_map (f := (·.1)), k3]; exact g4, ?_⟩
    rw [putF_new (by rw [k3]; exact g3)]
    refine h1 F1 _ σ (S1.upLk (d' := .obj c' (vs ++ [d])) ho e2 ⟨A, dx, fs ++ [(f, v)], ns ++ [f], g2, upd_same, by rw [List.map_append, k3]; rfl, ?_⟩) e1.ff (lk_lk ho)
    rw [List.map_append]
    exact k4.append (RepL.cons p1 RepL.nil)
end
theorem start_lk {G : GE} {F H H0 : Hp} {ds : List D} {vs : List V} {N : List Str} {x : Addr} {d0 : D} (s0 : Same H0 H) (hx0 : H0 x = none) (s : Same F H) (hxF : F x = none) (r : RepL G F ds vs) (r0 : OwR G F H x d0) (hn : ds.length + 1 ≤ N.length) :
    StR ⟨G, F, H0⟩ F H (.lk d0 :: (ds.map Sl.sh ++ List.replicate (N.length - 1 - ds.length) .no)) (L2.start N (.ref x :: vs)) := by
  have hl := r.length
  have hst : L2.start N (.ref x :: vs) = some (.ref x) :: (vs.map some ++ List.replicate (N.length - (vs.length + 1)) none) := by
    unfold L2.start
    simp
  rw [hst]
  have no : ∀ {i : Nat} {z : Sl}, z ≠ .no → (∀ d, z ≠ .sh d) → (ds.map Sl.sh ++ List.replicate (N.length - 1 - ds.length) Sl.no)[i]? ≠ some z := fun {i z} h1 h2 e => by
    by_cases hi : i < ds.length
    · rw [List.getElem?_append_left (by simpa using hi), List.getElem?_map, List.getElem?_eq_getElem hi] at e
      cases e
      exact h2 _ rfl
    · rw [List.getElem?_append_right (by simpa using hi), List.getElem?_replicate] at e
      split at e <;> cases e
      exact h1 rfl
  have own : ∀ {i : Nat} {d : D}, (Sl.lk d0 :: (ds.map Sl.sh ++ List.replicate (N.length - 1 - ds.length) Sl.no))[i]? = some (.ow d) ∨ (Sl.lk d0 :: (ds.map Sl.sh ++ List.replicate (N.length - 1 - ds.length) Sl.no))[i]? = some (.lk d) → i = 0 ∧ d = d0 := fun {i d} h => by
    cases i with
    | zero =>
      rcases h with h | h
      · cases h
      · cases h; exact ⟨rfl, rfl⟩
    | succ i =>
      rw [List.getElem?_cons_succ] at h
      rcases h with h | h
      · exact (no (by intro z; cases z) (fun d z => by cases z) h).elim
      · exact (no (by intro z; cases z) (fun d z => by cases z) h).elim
  refine ⟨⟨Same.refl F, s0, s, fun _ _ _ h => h⟩, ?_, fun i d h => ?_, fun i d h => ?_, fun i j d e a h h' _ _ => ?_⟩
  · simp only [List.length_cons, List.length_append, List.length_map, List.length_replicate]
    omega
  · cases i with
    | zero => cases h
    | succ i =>
      rw [List.getElem?_cons_succ] at h
      by_cases hi : i < ds.length
      · rw [List.getElem?_append_left (by simpa using hi), List.getElem?_map, List.getElem?_eq_getElem hi] at h
        cases h
        obtain ⟨v, h1, h2⟩ := r.get (List.getElem?_eq_getElem hi)
        refine ⟨v, ?_, h2⟩
        rw [List.getElem?_cons_succ, List.getElem?_append_left (by simpa [hl] using hi), List.getElem?_map, h1]
        rfl
      · rw [List.getElem?_append_right (by simpa using hi), List.getElem?_replicate] at h
        split at h <;> cases h
  · obtain ⟨rfl, rfl⟩ := own h
    exact ⟨x, rfl, hx0, hxF, r0⟩
  · exact (own h).1.trans (own h').1.symm
end
end Z
namespace Z
noncomputable section
open PySem PySem.Spec PySem.P PyProof.Rows L2
/-! ### THE RULE for an __init__: from the arguments to the fields -/
def runK (c0 cN m : Nat) (f : SS → RS) (ds : List D) : R (List D) := match f (.lk (.obj c0 []) :: (ds.map Sl.sh ++ List.replicate (m - 1 - ds.length) .no)) with
  | .nx s' => (match lkO cN s' 0 with
    | some vs => .ok vs
    | none => .bad)
  | .ex c vs _ => .ex c vs
  | _ => .bad
def spI (G : GE) (c0 cN n : Nat) (g : List D → R (List D)) : Sp := fun vs H Q E => ∃ F H0 ds x ws, vs = .ref x :: ws ∧ Same H0 H ∧ H0 x = none ∧ Same F H ∧ F x = none ∧ OwR G F H x (.obj c0 []) ∧ ds.length = n ∧ RepL G F ds ws ∧ (match g ds with
  | .ok fields => ∀ F' H', Ext F H0 F' H' → F' x = none → OwR G F' H' x (.obj cN fields) → Q .non H'
  | .ex c us => ∀ cls dx F' H', Ext F H0 F' H' → XR G F' c us cls dx → E cls dx H'
  | .bad => False)
theorem init_ok {P : Program} {w : World} {K : PySem.W.Frag} {mg : Str → Option Value} {base : Heap} {G : GE} {x qual : Str} {st : Stmt} {f : Addr} {fd : FuncData} {N ps : List Str} {k n c0 cN : Nat} {g : List D → R (List D)} {body : SS → RS}
    (Fu : Fun K x qual st f fd) (S : FnScope N ps (defScope st)) (hK : K = G.K) (hps : ps.length = n + 1) (hN : ps.length ≤ N.length)
    (hb : ∀ (cdv : Value) (A : Around) (outer : List PySem.Env) (s : Shared) (H F H0 : Hp) (E : XK), Room k (A.deeper (envOfC qual (defScope st) s.heap.objs.size f cdv)) →
      Pl (cxOf (L2.CX P w) P w K mg base N qual (defScope st) f cdv A outer s H E) ⟨G, F, H0⟩ (fun cls d _ H => E cls d H) →
      PSs (cxOf (L2.CX P w) P w K mg base N qual (defScope st) f cdv A outer s H E) (defBody st) (tS ⟨G, F, H0⟩ (fun cls d _ H => E cls d H) body))
    (hg : ∀ ds, ds.length = n → g ds ≠ .bad → runK c0 cN N.length body ds = g ds) : FnOk P w K mg base (L2.CX P w) (k + 1) f fd ps (spI G c0 cN n g) := by
  refine Fu.okX S (fun vs H Q E h => ?_) (fun cdv A outer s H vs Q E hr h => ?_)
  · obtain ⟨F, H0, ds, x, ws, rfl, _, _, _, _, _, hl, r, _⟩ := h
    rw [List.length_cons, r.length, hl, hps]
  · obtain ⟨F, H0, ds, x, ws, rfl, s0, hx0, sm, hxF, r0, hl, r, h⟩ := h
    have tk : Takes (cxOf (L2.CX P w) P w K mg base N qual (defScope st) f cdv A outer s H E) (fun cls d _ H => E cls d H) := takes_of rfl rfl rfl rfl
    have v : Pl (cxOf (L2.CX P w) P w K mg base N qual (defScope st) f cdv A outer s H E) ⟨G, F, H0⟩ (fun cls d _ H => E cls d H) := by
      refine ⟨⟨hK, ?_, tk, ?_⟩, rfl⟩
      · have := hr.un
        show Around.units (A.deeper _) + 65 < _
        omega
      · exact passes_of rfl
    refine ⟨_, hb cdv A outer s H F H0 E hr v, ?_⟩
    refine ⟨F, .lk (.obj c0 []) :: (ds.map Sl.sh ++ List.replicate (N.length - 1 - ds.length) .no), start_lk s0 hx0 sm hxF r r0 (by omega), ?_⟩
    have hne : g ds ≠ .bad := fun z => by rw [z] at h; exact h
    have hrun := hg ds hl hne
    unfold runK at hrun
    cases q : body (.lk (.obj c0 []) :: (ds.map Sl.sh ++ List.replicate (N.length - 1 - ds.length) .no)) with
    | nx s' =>
      rw [q] at hrun
      dsimp only at hrun
      cases q2 : lkO cN s' 0 with
      | none => rw [q2] at hrun; exact (hne hrun.symm).elim
      | some fields =>
        rw [q2] at hrun
        have hrun : R.ok fields = g ds := hrun
        rw [← hrun] at h
        intro F' H' σ' S' f' l'
        have ho := lkO_some q2
        obtain ⟨a, e1, e2, e3, e4⟩ := S'.ow 0 _ (.inr ho)
        have g2 := (l' 0 (.obj c0 []) rfl).2
        rw [e1] at g2
        have hax : a = x := by
          have : some (some (V.ref a)) = some (some (V.ref x)) := g2
          cases this
          rfl
        subst hax
        exact h F' H' S'.ext e3 e4
    | rt b d => rw [q] at hrun; exact (hne hrun.symm).elim
    | ex c vs s' =>
      rw [q] at hrun
      have hrun : R.ex c vs = g ds := hrun
      rw [← hrun] at h
      exact fun cls dx F' H' σ' S' f' l' x => h cls dx F' H' S'.ext x
    | bk s' => rw [q] at hrun; exact (hne hrun.symm).elim
    | ct s' => rw [q] at hrun; exact (hne hrun.symm).elim
    | bad => rw [q] at hrun; exact (hne hrun.symm).elim
end
end Z
namespace Z
noncomputable section
open PySem PySem.Spec PySem.P PyProof.Rows L2
/-! ### C(..): an object is made -/
/-- a class that is known -/
structure KnC (P : Program) (w : World) (K : PySem.W.Frag) (mg : Str → Option Value) (base : Heap) (G : GE) (x : Str) (c0 cN n : Nat) (g : List D → R (List D)) (k : Nat) : Prop where
  ex : ∃ A f fd ps, FnOk P w K mg base (L2.CX P w) k f fd ps (spI G c0 cN n g) ∧ mg x = some (.ref A) ∧ L2.Mk K A f ∧ Binds K fd ps [] ∧ G.cls c0 = some (A, [])
def eMk (cN : Nat) (g : List D → R (List D)) (fs : SS → R (List D)) : SS → R D := fun s => (fs s).bind fun ds => (g ds).bind fun vs => .ok (.obj cN vs)
section
variable {X : Cx} {pins : List (Addr × Obj)} {σ : L2.St} {H : Hp} {s : Shared} {Q : VK} {us : List Value} {vs : List V} {CX : CXT} {k : Nat} {f A : Addr} {fd : FuncData} {ps : List Str} {sp : Sp} {E : XK}
theorem run_makeS (M : L2.Mk X.K A f) (F : FnOk X.prog X.w X.K X.mg X.base CX k f fd ps sp) (hr : Room (k + 1) X.A) (hb : Binds X.K fd ps []) (hx : PassesAt CX X σ E) (I : Inv X pins σ H s) (r : Vals vs us)
    (h : ∀ x dx, H x = none → H dx = none → dx ≠ x → sp (.ref x :: vs) (upd (upd H dx (.own x)) x (.ins A dx [])) (fun v H2 => v = .non ∧ Q (.ref x) H2) E) :
    wpAny (model X.prog X.w) X.A (call (.ref A) us) (EP X pins σ Q) X.xe s := by
  have hq := h (s.heap.objs.size + 1) s.heap.objs.size (I.hok.fresh (Nat.le_succ _)) (I.hok.fresh (Nat.le_refl _)) (Nat.ne_of_lt (Nat.lt_succ_self _))
  have I2 := Inv.made (C := A) I
  have r2 : Vals (V.ref (s.heap.objs.size + 1) :: vs) (Value.ref (s.heap.objs.size + 1) :: us) := .cons rfl r
  have hl : (Value.ref (s.heap.objs.size + 1) :: us ++ []).length = ps.length := by
    have e := r2.length
    rw [F.len _ _ _ _ hq] at e
    rw [List.append_nil]
    exact e.symm
  refine wpAny_call (make_map (f := f) I.kIn M.makes M.init (beq_iff_eq.mp M.fn) (codeAny_mono (F.run _ X.stack _ _ ⟨Value.ref (s.heap.objs.size + 1) :: us, []⟩ (Value.ref (s.heap.objs.size + 1) :: us) _ _ E (hr.make A us [])
    (I2.env0.make A us []) (by have := hb _ (Value.ref (s.heap.objs.size + 1) :: us) I2.kIn hl; rwa [List.append_nil] at this) r2 hq) fun r s' hq' => ?_))
  cases r with
  | error e => exact hx pins _ _ e s' I2 hq'
  | ok fl =>
    cases fl with
    | ret u =>
      obtain ⟨v, H', I3, rv, ev, q3⟩ := I2.after hq'
      subst ev
      exact ⟨rv, ⟨V.ref (s.heap.objs.size + 1), H', I3, rfl, q3⟩⟩
    | next => exact False.elim hq'
    | brk => exact False.elim hq'
    | cont => exact False.elim hq'
end
section
variable {X : Cx} {C : CT} {W : WX} {a : Expr} {es : List Expr} {fs : SS → R (List D)} {pos p : Pos} {x : Str} {n k c0 cN : Nat} {g : List D → R (List D)}
theorem s_make (v : Pq X C W) (F : KnC X.prog X.w X.K X.mg X.base C.G x c0 cN n g k) (hr : Room (k + 1) X.A) (hg : Gl X x) (hn : ∀ s ds, fs s = .ok ds → ds.length = n) (ha : PA X (a :: es) (tA C W fs)) (hdb : (x == ("__debug__" : Str)) = false := by decide)
    (he : starEach (a :: es) X.env = (false, eval a X.env) :: starEach es X.env := by rfl) (hpl : (backTo pos (starEach es X.env)).any (·.1) = false := by rfl) : PE X (.Call (.Name x p) (a :: es) [] pos) (tF C W (eMk cN g fs)) := by
  obtain ⟨A, f, fd, ps, F1, F2, M, F4, F5⟩ := F.ex
  refine ⟨fun pins s σ H Q I ⟨F, sd, S, h⟩ => ?_⟩
  refine wpAny_Call_Name_kw (ld_glob I hg F2 ?_ hdb)
  refine PySem.W.callWith_K (h₀ := X.base) I.ok.mod.kin M.kp (thn (ha.run pos pins s σ H (fun vs H1 => ∃ F' ds, Ext F H F' H1 ∧ fs sd = .ok ds ∧ RepL C.G F' ds vs) I ⟨F, sd, S, ?_⟩) fun us s1 ⟨vs, H1, I1, r, F', ds, e1, hds, rr⟩ => ⟨I1.kIn, ?_⟩) he hpl
  · unfold eMk at h
    cases q : fs sd with
    | ok ds => exact fun vs F' H' e r => ⟨F', ds, e, rfl, pairL r⟩
    | ex c vs => rw [q] at h; exact h
    | bad => rw [q] at h; exact h
  · refine run_makeS M F1 hr F4 (passAt v.tk σ) I1 r fun y dx hy hdx hne => ?_
    have hl := hn sd ds hds
    unfold eMk at h
    rw [hds] at h
    have hH0y : (upd H1 dx (.own y)) y = none := by rw [upd_ne (Ne.symm hne)]; exact hy
    refine ⟨F', upd H1 dx (.own y), ds, y, vs, rfl, same_new hH0y, hH0y, (e1.fh.trans (same_new hdx)).trans (same_new hH0y), e1.fh.free hy, ⟨A, dx, [], [], F5, upd_same, rfl, RepL.nil⟩, hl, rr, ?_⟩
    have ext : ∀ {F2 H2 : Hp}, Ext F' (upd H1 dx (.own y)) F2 H2 → Ext F H F2 H2 := fun {F2 H2} e => e1.trans ⟨e.ff, (same_new hdx).trans e.hh, e.fh, fun b o h1 h2 => e.ow b o (same_new hdx _ _ h1) h2⟩
    cases q : g ds with
    | ok fields =>
      have h : PostE C W F H σ (pF C H) Q (.ok (.obj cN fields)) := by simpa [R.bind, q] using h
      exact fun F2 H2 e h1 h2 => ⟨rfl, h (.ref y) F2 H2 (ext e) ⟨y, rfl, e1.hh.free hy, h1, h2⟩⟩
    | ex c ws =>
      have h : PostE C W F H σ (pF C H) Q (.ex c ws) := by simpa [R.bind, q] using h
      exact fun cls d F2 H2 e x => h cls d F2 H2 (ext e) x
    | bad =>
      have h : PostE C W F H σ (pF C H) Q .bad := by simpa [R.bind, q] using h
      exact h
end
end
end Z
namespace Z
noncomputable section
open PySem PySem.Spec PySem.P PyProof.Rows L2
/-! ### an own list is lent: read by a callee, own again behind it -/
mutual
/-- no list in it -/
def noL : D → Bool
  | .lst _ => false
  | .tup ds => noLs ds
  | .dic _ ds => noLs ds
  | .obj _ ds => noLs ds
  | .exc _ ds => noLs ds
  | _ => true
def noLs : List D → Bool
  | [] => true
  | d :: ds => noL d && noLs ds
end
def noL1 : D → Bool
  | .lst ds => noLs ds
  | d => noL d
def less (F : Hp) (a : Addr) : Hp := fun b => if b = a then none else F b
theorem less_ne {F : Hp} {a b : Addr} (h : b ≠ a) : less F a b = F b := if_neg h
theorem less_same {F : Hp} {a : Addr} : less F a a = none := if_pos rfl
theorem ne_lst {F : Hp} {a b : Addr} {us : List V} {o : HO} (ha : F a = some (.lst us)) (hb : F b = some o) (ho : ∀ us, o ≠ .lst us) : b ≠ a := fun e => by
  subst e
  rw [ha] at hb
  cases hb
  exact ho us rfl
section
variable {G : GE} {F : Hp} {a : Addr} {us : List V} (ha : F a = some (.lst us))
include ha
mutual
theorem Rep.less : ∀ {d : D} {v : V}, noL d = true → Rep G F d v → Rep G (less F a) d v
  | .non, v, _, h => by unfold Rep at h ⊢; exact h
  | .bl b, v, _, h => by unfold Rep at h ⊢; exact h
  | .int i, v, _, h => by unfold Rep at h ⊢; exact h
  | .str x, v, _, h => by unfold Rep at h ⊢; exact h
  | .lst ds, v, n, h => by simp [noL] at n
  | .tup ds, v, n, h => by
    unfold Rep at h ⊢
    obtain ⟨b, xs, e, q, r⟩ := h
    refine ⟨b, xs, e, ?_, RepL.less (by simpa [noL] using n) r⟩
    rcases q with (q | ⟨o, q⟩) | q
    · exact .inl (.inl (by rw [less_ne (ne_lst ha q (by intro _ z; cases z))]; exact q))
    · exact .inl (.inr ⟨o, by rw [less_ne (ne_lst ha q (by intro _ z; cases z))]; exact q⟩)
    · exact .inr q
  | .dic ks ds, v, n, h => by
    unfold Rep at h ⊢
    obtain ⟨b, kvs, e, ⟨o, q⟩, k, nd, r⟩ := h
    exact ⟨b, kvs, e, ⟨o, by rw [less_ne (ne_lst ha q (by intro _ z; cases z))]; exact q⟩, k, nd, RepL.less (by simpa [noL] using n) r⟩
  | .obj c ds, v, n, h => by
    unfold Rep at h ⊢
    obtain ⟨b, C, dx, fs, ns, e, g, q, k, r⟩ := h
    exact ⟨b, C, dx, fs, ns, e, g, by rw [less_ne (ne_lst ha q (by intro _ z; cases z))]; exact q, k, RepL.less (by simpa [noL] using n) r⟩
  | .exc c ds, v, n, h => by
    unfold Rep at h ⊢
    obtain ⟨b, C, ns, dx, e, g, q, k⟩ := h
    refine ⟨b, C, ns, dx, e, g, by rw [less_ne (ne_lst ha q (by intro _ z; cases z))]; exact q, ?_⟩
    rcases k with k | ⟨d, fs, e1, e2, e3, r⟩
    · exact .inl k
    · exact .inr ⟨d, fs, e1, by rw [less_ne (ne_lst ha e2 (by intro _ z; cases z))]; exact e2, e3, RepL.less (by simpa [noL] using n) r⟩
theorem RepL.less : ∀ {ds : List D} {vs : List V}, noLs ds = true → RepL G F ds vs → RepL G (less F a) ds vs
  | [], vs, _, h => by unfold RepL at h ⊢; exact h
  | d :: ds, vs, n, h => by
    unfold RepL at h ⊢
    obtain ⟨v, r, e, h1, h2⟩ := h
    have n : noL d = true ∧ noLs ds = true := by simpa [noLs] using n
    exact ⟨v, r, e, Rep.less n.1 h1, RepL.less n.2 h2⟩
end
theorem XR.less {c : Nat} {vs : List D} {cls : Value} {dx : Option Addr} (n : noLs vs = true) (h : XR G F c vs cls dx) : XR G (Z.less F a) c vs cls dx := by
  obtain ⟨C, ns, g, e, k⟩ := h
  refine ⟨C, ns, g, e, ?_⟩
  rcases k with k | ⟨d, fs, e1, e2, e3, r⟩
  · exact .inl k
  · exact .inr ⟨d, fs, e1, by rw [less_ne (ne_lst ha e2 (by intro _ z; cases z))]; exact e2, e3, RepL.less ha n r⟩
theorem OwR.less {H : Hp} {b : Addr} {d : D} (n : noL1 d = true) (h : OwR G F H b d) : OwR G (Z.less F a) H b d := by
  cases d <;> try exact False.elim h
  · obtain ⟨xs, e, r⟩ := h
    exact ⟨xs, e, RepL.less ha (by simpa [noL1] using n) r⟩
  · obtain ⟨kvs, e, k, nd, r⟩ := h
    exact ⟨kvs, e, k, nd, RepL.less ha (by simpa [noL1, noL] using n) r⟩
  · obtain ⟨C, dx, fs, ns, g, e, k, r⟩ := h
    exact ⟨C, dx, fs, ns, g, e, k, RepL.less ha (by simpa [noL1, noL] using n) r⟩
end
theorem Ext.lend {F H F' H' : Hp} {a : Addr} {o : HO} (hF : F a = none) (e : Ext (upd F a o) H F' H') : Ext F H (less F' a) H' := by
  refine ⟨fun b u z => ?_, e.hh, fun b u z => ?_, fun b u z1 z2 => ?_⟩
  · have hb : b ≠ a := ne_of_none z hF
    rw [less_ne hb]
    exact e.ff _ _ (by rw [upd_ne hb]; exact z)
  · by_cases hb : b = a
    · subst hb; rw [less_same] at z; cases z
    · rw [less_ne hb] at z; exact e.fh _ _ z
  · by_cases hb : b = a
    · subst hb; exact less_same
    · rw [less_ne hb]
      exact e.ow b u z1 (by rw [upd_ne hb]; exact z2)
/-- the own list of a slot seen as a shared one -/
theorem StR.lend {C : CT} {F H : Hp} {sd : SS} {σ : L2.St} {i : Nat} {xs : List D} (S : StR C F H sd σ) (q : sd[i]? = some (.ow (.lst xs))) :
    ∃ a vs, F a = none ∧ StR C (upd F a (.lst vs)) H (sd.set i (.sh (.lst xs))) σ := by
  obtain ⟨a, h1, h2, h3, vs, h4, h5⟩ := S.ow i _ (.inl q)
  have hi : i < sd.length := (List.getElem?_eq_some_iff.mp q).1
  have s1 : Same F (upd F a (.lst vs)) := same_new h3
  have other : ∀ (j : Nat) (e : D) (b : Addr), j ≠ i → sd[j]? = some (.ow e) ∨ sd[j]? = some (.lk e) → σ[j]? = some (some (.ref b)) → b ≠ a := fun j e b hj q2 q3 z => by
    subst z
    exact hj (S.dis j i e _ b q2 (.inl q) q3 h1)
  refine ⟨a, vs, h3, ⟨S.ext.ff.trans s1, S.ext.hh, fun b u z => ?_, fun b u e1 e2 => ?_⟩, by rw [List.length_set]; exact S.len, fun j e q2 => ?_, fun j e q2 => ?_, fun j k e e' b q1 q2 => ?_⟩
  · by_cases hb : b = a
    · subst hb; rw [upd_same] at z; cases z; exact h4
    · rw [upd_ne hb] at z; exact S.fh _ _ z
  · have hb : b ≠ a := fun z => by subst z; rw [h2] at e1; cases e1
    rw [upd_ne hb]
    exact S.ext.ow b u e1 e2
  · by_cases hij : i = j
    · subst hij
      rw [List.getElem?_set_self hi] at q2
      cases q2
      exact ⟨_, h1, rep_lst.mpr ⟨a, vs, rfl, .inl (.inl upd_same), RepL.mono s1 h5⟩⟩
    · rw [List.getElem?_set_ne hij] at q2
      obtain ⟨v, e1, e2⟩ := S.sh j e q2
      exact ⟨v, e1, Rep.mono s1 e2⟩
  · by_cases hij : i = j
    · subst hij
      rw [List.getElem?_set_self hi] at q2
      rcases q2 with z | z <;> cases z
    · rw [List.getElem?_set_ne hij] at q2
      obtain ⟨b, e1, e2, e3, e4⟩ := S.ow j e q2
      have hb := other j e b (Ne.symm hij) q2 e1
      exact ⟨b, e1, e2, by rw [upd_ne hb]; exact e3, e4.mono s1 fun _ z => z⟩
  · by_cases hij : i = j
    · subst hij
      rw [List.getElem?_set_self hi] at q1
      rcases q1 with z | z <;> cases z
    · by_cases hik : i = k
      · subst hik
        rw [List.getElem?_set_self hi] at q2
        rcases q2 with z | z <;> cases z
      · rw [List.getElem?_set_ne hij] at q1
        rw [List.getElem?_set_ne hik] at q2
        exact S.dis j k e e' b q1 q2
def brR (p : D → Bool) (r : R D) : R D := match r with
  | .ok d => if p d = true then .ok d else .bad
  | .ex c vs => if noLs vs = true then .ex c vs else .bad
  | .bad => .bad
def eBrw (i : Nat) (fe : SS → R D) : SS → R D := fun s => match owL s i with
  | some xs => brR noL (fe (s.set i (.sh (.lst xs))))
  | none => .bad
def eBrwF (i : Nat) (fe : SS → R D) : SS → R D := fun s => match owL s i with
  | some xs => brR noL1 (fe (s.set i (.sh (.lst xs))))
  | none => .bad
section
variable {X : Cx} {C : CT} {W : WX} {e : Expr} {fe : SS → R D}
theorem s_brw (i : Nat) (he : PE X e (tD C W fe)) : PE X e (tD C W (eBrw i fe)) := by
  refine pe_imp he fun σ H Q ⟨F, sd, S, h⟩ => ?_
  unfold eBrw at h
  cases hx : owL sd i with
  | none => rw [hx] at h; exact h.elim
  | some xs =>
    rw [hx] at h
    obtain ⟨a, vs, hF, S1⟩ := S.lend (owL_some hx)
    refine ⟨_, _, S1, ?_⟩
    have h : PostE C W F H σ (pD C) Q (brR noL (fe (sd.set i (.sh (.lst xs))))) := h
    cases q : fe (sd.set i (.sh (.lst xs))) with
    | ok d =>
      rw [q] at h
      unfold brR at h
      dsimp only at h
      split at h
      · rename_i hn
        exact fun v F' H' e r => h v (less F' a) H' (Ext.lend hF e) (Rep.less (e.ff _ _ upd_same) hn r)
      · exact h.elim
    | ex c ws =>
      rw [q] at h
      unfold brR at h
      dsimp only at h
      split at h
      · rename_i hn
        exact fun cls dx F' H' e x => h cls dx (less F' a) H' (Ext.lend hF e) (XR.less (e.ff _ _ upd_same) hn x)
      · exact h.elim
    | bad => rw [q] at h; exact h.elim
theorem s_brwF (i : Nat) (he : PE X e (tF C W fe)) : PE X e (tF C W (eBrwF i fe)) := by
  refine pe_imp he fun σ H Q ⟨F, sd, S, h⟩ => ?_
  unfold eBrwF at h
  cases hx : owL sd i with
  | none => rw [hx] at h; exact h.elim
  | some xs =>
    rw [hx] at h
    obtain ⟨a, vs, hF, S1⟩ := S.lend (owL_some hx)
    refine ⟨_, _, S1, ?_⟩
    have h : PostE C W F H σ (pF C H) Q (brR noL1 (fe (sd.set i (.sh (.lst xs))))) := h
    cases q : fe (sd.set i (.sh (.lst xs))) with
    | ok d =>
      rw [q] at h
      unfold brR at h
      dsimp only at h
      split at h
      · rename_i hn
        refine fun v F' H' e ⟨b, e1, e2, e3, e4⟩ => h v (less F' a) H' (Ext.lend hF e) ⟨b, e1, e2, ?_, OwR.less (e.ff _ _ upd_same) hn e4⟩
        by_cases hb : b = a
        · subst hb; exact less_same
        · rw [less_ne hb]; exact e3
      · exact h.elim
    | ex c ws =>
      rw [q] at h
      unfold brR at h
      dsimp only at h
      split at h
      · rename_i hn
        exact fun cls dx F' H' e x => h cls dx (less F' a) H' (Ext.lend hF e) (XR.less (e.ff _ _ upd_same) hn x)
      · exact h.elim
    | bad => rw [q] at h; exact h.elim
end
def rBrw (p : D → Bool) (s : SS) (i : Nat) (fe : SS → R D) : Option (List D) → R D
  | some xs => brR p (fe (s.set i (.sh (.lst xs))))
  | none => .bad
@[simp] theorem eBrw_s (i : Nat) (fe : SS → R D) (s : SS) : eBrw i fe s = rBrw noL s i fe (getOw s[i]?) := by
  unfold eBrw rBrw owL getOw
  rfl
@[simp] theorem eBrwF_s (i : Nat) (fe : SS → R D) (s : SS) : eBrwF i fe s = rBrw noL1 s i fe (getOw s[i]?) := by
  unfold eBrwF rBrw owL getOw
  rfl
@[simp] theorem rBrw_s (p : D → Bool) (s : SS) (i : Nat) (fe : SS → R D) (xs : List D) : rBrw p s i fe (some xs) = brR p (fe (s.set i (.sh (.lst xs)))) := rfl
@[simp] theorem brR_ok (p : D → Bool) (d : D) : brR p (.ok d) = if p d = true then .ok d else .bad := rfl
@[simp] theorem brR_ex (p : D → Bool) (c : Nat) : brR p (.ex c []) = .ex c [] := rfl
@[simp] theorem noL_bl (b : Bool) : noL (.bl b) = true := by simp [noL]
@[simp] theorem noL_int (b : Int) : noL (.int b) = true := by simp [noL]
@[simp] theorem noL_str (b : List Nat) : noL (.str b) = true := by simp [noL]
@[simp] theorem noL_non : noL .non = true := by simp [noL]
theorem noLs_str : ∀ xs : List (List Nat), noLs (xs.map .str) = true
  | [] => by simp [noLs]
  | x :: xs => by simp [noLs, noL, noLs_str xs]
end
end Z
namespace Z
noncomputable section
open PySem PySem.Spec PySem.P PyProof.Rows L2
/-! ### x[::-1] of a text -/
def revS : D → R D
  | .str x => if x.length ≤ SZ then .ok (.str x.reverse) else .bad
  | _ => .bad
theorem revS_ne : NoEx1 revS := fun x c vs h => by
  unfold revS at h
  split at h
  · split at h <;> cases h
  · cases h
theorem indices_rev (n : Nat) : Builtin.Str.strSliceIndices none none (-1) n = (List.range n).map fun k => n - 1 - k := by
  have e : Builtin.Str.strSliceIndices none none (-1) n = sliceRange ((n : Int) - 1) (-1) (-1) := by
    simp [Builtin.Str.strSliceIndices]
  rw [e, PySem.W.krv_sliceRange]
theorem okS_reverse {x : List Nat} (a : okS x = true) : okS x.reverse = true := by
  unfold okS at a ⊢
  rw [List.all_eq_true] at a ⊢
  exact fun c h => a c (List.mem_reverse.mp h)
section
variable {X : Cx} {C : CT} {W : WX} {a : Expr} {fa : SS → R D} {pos p1 p2 p3 : Pos} {k : Nat}
theorem s_rev (v : Pq X C W) (ha : PE X a (tB C W fa)) : PE X (.Subscript a (.Slice none none (some (.UnaryOp .USub (.Constant (.int 1) k p1) p3)) p2) pos) (tD C W (eUn revS fa)) := by
  refine ⟨fun pins s σ H Q I ⟨F, sd, S, h⟩ => ?_⟩
  refine Subscript_ (thn (ha.run pins s σ H _ I ⟨F, sd, S, PostE.bind (Q1 := fun x H1 => ∃ d F1, Ext F H F1 H1 ∧ Bor C.G F1 H1 d x ∧ PostE C W F1 H1 σ _ Q (revS d)) h fun d v F1 H1 e1 b1 h1 => ⟨d, F1, e1, b1, h1⟩⟩) fun v' s1 ⟨x, H1, I1, r1, d, F1, e1, b1, h1⟩ => ?_)
  refine wpAny_Slice (thn (po_none.run pins s1 σ H1 (fun o H2 => o = none ∧ H2 = H1) I1 ⟨rfl, rfl⟩) fun vl s2 ⟨l, H2, I2, pl, el, eh⟩ => ?_)
  subst el eh
  refine thn (po_none.run pins s2 σ H2 (fun o H3 => o = none ∧ H3 = H2) I2 ⟨rfl, rfl⟩) fun vu s3 ⟨u, H3, I3, pu, eu, eh⟩ => ?_
  subst eu eh
  refine thn ((s_oso (C := C) (W := W) (fa := eUn negD (eC (.int 1))) (s_neg v (s_b s_int))).run pins s3 σ H3 (fun o H4 => o = some (-1) ∧ ∃ F4, Ext F1 H3 F4 H4) I3 ⟨F1, sd, S.mono e1, show PostO C W F1 H3 σ _ (.ok (some (-1))) from fun F4 H4 e4 => ⟨rfl, F4, e4⟩⟩) fun vs s4 ⟨o, H4, I4, ps, eo, F4, e4⟩ => ?_
  subst eo
  have I5 : Inv X pins σ H4 { s4 with heap := s4.heap.push { cls := .type "slice", data := .fields #[vl, vu, vs] } } := I4.kept (t' := s4.toks) fun b ob q => Heap.get?_push_of_some _ q
  have bd := Bor.mono e4 b1
  have p := (PostE.ext e4 h1).toV fun c vs z => revS_ne _ c vs z
  unfold revS at p
  cases d with
  | str z =>
    dsimp only at p
    split at p
    · rename_i hz
      obtain ⟨rfl, hk⟩ := bor_str bd
      obtain ⟨t, rfl⟩ := r1
      have p := p.str e4.fh (okS_reverse hk)
      obtain ⟨l, rfl, hl⟩ := IsPart.raw pl
      obtain ⟨u, rfl, hu⟩ := IsPart.raw pu
      obtain ⟨st, rfl, hst⟩ := IsPart.raw ps
      have hl' : l = none := by cases l with | none => rfl | some q => cases hl
      have hu' : u = none := by cases u with | none => rfl | some q => cases hu
      subst hl' hu'
      obtain ⟨tk, rfl⟩ : ∃ tk, st = some (-1, tk) := by
        cases st with
        | none => cases hst
        | some q =>
          obtain ⟨i, tk⟩ := q
          have : some (-1 : Int) = some i := hst.symm
          cases this
          exact ⟨tk, rfl⟩
      refine tail_any (ops := [.str ⟨z.toArray⟩ t, .ref s4.heap.objs.size]) (typeIs_str _ _ _) (PySem.F.slot_str_getitem.lookup) ?_ (by with_unfolding_all rfl)
      refine wpAny_getItem_str_slice (l := none) (u := none) (st := some (-1, tk)) ⟨_, Heap.get?_push_size _ rfl, rfl, rfl⟩ rfl ?_
      have e : slicePicked ⟨z.toArray⟩ none none (some (-1, tk)) = (List.range z.length).map fun k => z.length - 1 - k := by
        show Builtin.Str.strSliceIndices none none (-1) (Str.length ⟨z.toArray⟩) = _
        rw [indices_rev]
        rfl
      have e2 : ((slicePicked ⟨z.toArray⟩ none none (some (-1, tk))).filterMap ((⟨z.toArray⟩ : Str).cps[·]?)).toArray = z.reverse.toArray := by
        rw [e, PySem.W.krv_range, List.filterMap_reverse]
        have := PySem.W.krv_all z.toArray
        rw [List.size_toArray] at this
        rw [this]
      show Made.post (if (((some (-1, tk) : Option (Int × Tok)).map (·.1)).getD 1 == 1 && _) = true then _ else Made.str ⟨((slicePicked ⟨z.toArray⟩ none none (some (-1, tk))).filterMap ((⟨z.toArray⟩ : Str).cps[·]?)).toArray⟩) _ _
      rw [if_neg (by simp), e2]
      refine ⟨?_, .str _, H4, I5.tok _, ⟨_, rfl⟩, p⟩
      show Array.size _ ≤ _
      rw [List.size_toArray, List.length_reverse]
      exact sz_line hz
    · exact p.elim
  | _ => exact p.elim
end
/-! ### {k: v} -/
def eDic1 (fk fv : SS → R D) : SS → R D := fun s => (fk s).bind fun k => (fv s).bind fun v => match keyD k with
  | some k => .ok (.dic [k] [v])
  | none => .bad
section
variable {X : Cx} {C : CT} {W : WX} {a b : Expr} {fa fb fd fk fx : SS → R D} {pos cpos apos : Pos} {o e f : Expr}
theorem s_dic1 (ha : PE X a (tB C W fa)) (hb : PE X b (tD C W fb)) : PE X (.Dict [some a] [b] pos) (tF C W (eDic1 fa fb)) := by
  refine pe_imp (pe_disp (pps_cons ha hb pps_nil) rfl rfl (by simp) (by simp)) fun σ H Q ⟨F, sd, S, h⟩ => ?_
  intro p hp
  have e0 : Ext F H F (upd H p (.dK [])) := Ext.newOwn S.fh hp
  refine ⟨F, sd, S.mono e0, ?_⟩
  unfold eDic1 at h
  cases qa : fa sd with
  | ex c vs => rw [qa] at h; exact fun cls dx F' H' e x => h cls dx F' H' (e0.trans e) x
  | bad => rw [qa] at h; exact h
  | ok d =>
    rw [qa] at h
    intro x F1 H1 e1 b1
    refine ⟨F1, sd, (S.mono e0).mono e1, ?_⟩
    have h : PostE C W F H σ (pF C H) Q ((fb sd).bind fun v => match keyD d with
      | some k => .ok (.dic [k] [v])
      | none => .bad) := h
    cases qb : fb sd with
    | ex c vs => rw [qb] at h; exact fun cls dx F' H' e x => h cls dx F' H' ((e0.trans e1).trans e) x
    | bad => rw [qb] at h; exact h
    | ok d2 =>
      rw [qb] at h
      intro y F2 H2 e2 b2
      cases q : keyD d with
      | none =>
        have h : PostE C W F H σ (pF C H) Q (match keyD d with
          | some k => .ok (.dic [k] [d2])
          | none => .bad) := h
        rw [q] at h; exact h.elim
      | some k =>
        have h : PostE C W F H σ (pF C H) Q (match keyD d with
          | some k => .ok (.dic [k] [d2])
          | none => .bad) := h
        rw [q] at h
        have hk := keyD_rep q b1
        have hp2 : H2 p = some (.dK []) := e2.hh _ _ (e1.hh _ _ upd_same)
        have hf : F p = none := S.fh.free hp
        have hf2 : F2 p = none := e2.ow _ _ (e1.hh _ _ upd_same) (e1.ow _ _ upd_same hf)
        refine ⟨hp2, [(k, y)], by rw [hk]; rfl, by simp, ?_⟩
        have e012 := (e0.trans e1).trans e2
        have em : mergeK [] [(k, y)] = [(k, y)] := by
          show putK [] k y = _
          rw [putK_new _ (by rfl)]
          rfl
        rw [em]
        refine h (.ref p) F2 _ ⟨e012.ff, fun b u z => ?_, fun b u z => ?_, fun b u z1 z2 => e012.ow b u z1 z2⟩ ⟨p, rfl, hp, hf2, [(k, y)], upd_same, rfl, by simp, RepL.cons b2 RepL.nil⟩
        · rw [upd_ne (ne_of_none z hp)]
          exact e012.hh _ _ z
        · rw [upd_ne (ne_of_none z hf2)]
          exact e2.fh _ _ z
/-! ### d.get(k, x) -/
def eDGet (fd fk fx : SS → R D) : SS → R D := fun s => (fd s).bind fun d => match d with
  | .dic ks vs => (fk s).bind fun k => (fx s).bind fun x => (match keyD k with
    | some k => (match look ks vs k with
      | some v => .ok v
      | none => .ok x)
    | none => .bad)
  | _ => .bad
theorem s_dget (v : Pq X C W) (ho : PE X o (tB C W fd)) (he : PE X e (tB C W fk)) (hf : PE X f (tD C W fx)) (m : M2 X o "get" apos e f cpos := by exact ⟨by rfl, by rfl, by rfl, by rfl⟩) : PE X (.Call (.Attribute o "get" apos) [e, f] [] cpos) (tD C W (eDGet fd fk fx)) := by
  refine pe_imp (pe_dget2 (by have := v.hu; omega) ho he hf m) fun σ H Q ⟨F, sd, S, h⟩ => ⟨F, sd, S, ?_⟩
  refine PostE.bind h fun d x F1 H1 e1 b1 h1 => ?_
  have hd : ∃ ks vs, d = .dic ks vs := by
    cases d with
    | dic ks vs => exact ⟨ks, vs, rfl⟩
    | _ => exact h1.elim
  obtain ⟨ks, vs, rfl⟩ := hd
  obtain ⟨a, kvs, rfl, hr, rfl, nd, r⟩ := bor_dic e1.fh b1
  refine ⟨a, rfl, .inl ⟨kvs, hr⟩, F1, sd, S.mono e1, PostE.bind h1 fun dk y F2 H2 e2 b2 h2 => ?_⟩
  refine ⟨F2, sd, (S.mono e1).mono e2, PostE.bind h2 fun dx z F3 H3 e3 b3 h3 => ?_⟩
  cases q : keyD dk with
  | none => rw [q] at h3; exact h3.elim
  | some k =>
    rw [q] at h3
    have hk := keyD_rep q b2
    subst hk
    have r3 : RepL C.G F3 vs (kvs.map (·.2)) := RepL.mono (e2.trans e3).ff r
    have hr3 : Rd H3 a (.dK kvs) := Same.rd (e2.trans e3).hh hr
    refine ⟨valV kvs k, .inl ⟨kvs, k, hr3, rfl, rfl⟩, ?_⟩
    have lk := look_val (k := k) r3
    have h3 : PostE C W F3 H3 σ (pD C) Q (match look (kvs.map (·.1)) vs k with
      | some v => .ok v
      | none => .ok dx) := h3
    cases q2 : look (kvs.map (·.1)) vs k with
    | some w =>
      rw [q2] at h3
      obtain ⟨u, hu, ru⟩ := lk.1 w q2
      rw [hu]
      exact h3 u F3 H3 (Ext.refl e3.fh) ru
    | none =>
      rw [q2] at h3
      rw [lk.2 q2]
      exact h3 z F3 H3 (Ext.refl e3.fh) b3
end
end
end Z
namespace Z
noncomputable section
open PySem PySem.Spec PySem.P PyProof.Rows L2
/-! ### sorted(d), the keys texts -/
section
variable {X : Cx} {C : CT} {W : WX}
theorem cr_sortedDT (hcalm : X.calm = true) : CallR X (.builtin "sorted") (fun xs H Q => ∃ (a : Addr) (kvs : List (Key × V)) (ks : List Str), xs = [.ref a] ∧ Rd H a (.dK kvs) ∧ kvs.map (·.1) = ks.map Sum.inr ∧
    ∀ (ys : List Str) (p : Addr), ys.Perm ks → ys.Pairwise (fun x y => ¬ y.cps.toList < x.cps.toList) → H p = none → Q (.ref p) (upd H p (.lst (ys.map V.str)))) := by
  intro pins s σ H xs us Q I r q
  obtain ⟨a, kvs, ks, ex, hd, hks, q⟩ := q
  subst ex
  obtain ⟨u, eu, rx⟩ := vals1 r
  subst eu
  cases rx
  obtain ⟨z, lo, vs, rel, dd⟩ := dk_rd I.hok hd
  obtain ⟨ep, hat⟩ := dd.dictAt
  have hkeys : vs.map (·.1) = ks.map Sum.inr := rel.keys.symm.trans hks
  have hl : vs.length = ks.length := by
    have e := congrArg List.length hkeys
    rw [List.length_map, List.length_map] at e
    exact e
  have h16 : vs.length ≤ sizeLine := by rw [← rel.length]; exact z
  refine Calls.call_function_entry PyProof.Rows.kind_sorted PyProof.Rows.plain_sorted PyProof.Rows.entry_sorted (PyProof.Rows.args_sorted1 _) ?_
  unfold Builtin.«sorted»
  refine wpAny_bind (m := checkCount "sorted" 1 1 _) (wpAny_pure ?_)
  refine wpAny_bind (PySem.W.kdu_collect (A := X.A.in1) (PySem.W.kdl_dict (knd := mixKind X.prog X.w) (kvs := vs) (ep := ep) lo) (I.ok.hd hcalm) hat h16 fun h' tk acc hk hacc => ?_)
  have hal : acc.toList.length = ks.length := by rw [Array.length_toList, hacc.1, hl]
  have hS : StrsAre acc.toList ks := strs_at hal fun j v e => by
    obtain ⟨k, x, e1, e2⟩ := hacc.2 j v (by rw [← Array.getElem?_toList]; exact e)
    have e3 : (vs.map (·.1))[j]? = some k := by rw [List.getElem?_map, e1]; all_goals rfl
    rw [hkeys, List.getElem?_map] at e3
    cases e4 : ks[j]? with
    | none => rw [e4] at e3; cases e3
    | some y =>
      rw [e4] at e3
      have e5 : Sum.inr y = k := Option.some.inj e3
      subst e5
      obtain ⟨t, ev⟩ := Value.isStrOf_shape (x := y) (v := v) e2
      exact ⟨y, t, rfl, ev⟩
  have I1 : Inv X pins σ H { s with heap := h', toks := tk } := I.kept hk
  have hz : acc.toList.length ≤ sizeLine := by rw [hal, ← hl]; exact h16
  refine wpAny_bind (wpAny_newList ?_ hz)
  have hoL : (h'.push (seqObj "list" acc.toList.toArray 0)).get? h'.objs.size = some (seqObj "list" acc.toList.toArray 0) := Heap.get?_push_size _ rfl
  show wpAny _ _ _ _ _ { s with heap := h'.push (seqObj "list" acc.toList.toArray 0), toks := tk }
  refine wpAny_bind (wpAny_holding (wpAny_call_entry PyProof.Rows.slot_list_sort ⟨_, hoL, rfl⟩ PyProof.Rows.entry_list_sort
    (SrtO.list_sort_ord ZS.swo_str hoL hz (fun h2 => ZS.strs_sortable hS h2) fun out h1 h2 => ⟨_, rfl, ?_⟩)
    (PyProof.Rows.args_list_sort _)))
  obtain ⟨k1, k2, k3⟩ := ZS.strs_out hS h1 h2
  obtain ⟨e', he'⟩ := PyProof.Rows.sortedHeap_at (vs := acc.toList) (out := out.toArray) hoL
  have hlen : ((out.map ZS.svS).map V.str).length ≤ sizeLine := by
    rw [List.length_map, k2.length_eq, ← hl]
    exact h16
  refine wpAny_pure ⟨_, rfl, .ref h'.objs.size, upd H h'.objs.size (.lst ((out.map ZS.svS).map V.str)), I1.laid (t' := tk) (fun b u e => ?_) (Nat.le_refl _)
    (show ObjOk X.prog X.w _ _ _ (.lst ((out.map ZS.svS).map V.str)) from ⟨hlen, out, e', vals_of_strs k1, he'⟩), rfl, q _ _ k2 k3 (I1.hok.fresh (Nat.le_refl _))⟩
  have hb : b < h'.objs.size := Heap.lt_size e
  rw [PyProof.Rows.sortedHeap_old (Nat.ne_of_lt hb) (by rw [size_push']; exact Nat.lt_succ_of_lt hb)]
  exact Heap.get?_push_of_some _ e
def keyS : Key → Option (List Nat)
  | .inl _ => none
  | .inr x => if okS x.cps.toList = true then some x.cps.toList else none
def keysS : List Key → Option (List (List Nat))
  | [] => some []
  | k :: ks => (keyS k).bind fun x => (keysS ks).map (x :: ·)
def sortKD : List D → R D
  | [.dic ks _] => match keysS ks with
    | some ys => .ok (.lst ((sortT ys).map .str))
    | none => .bad
  | _ => .bad
theorem sortKD_ne : NoExL sortKD := fun x c vs h => by
  unfold sortKD at h
  split at h
  · split at h <;> cases h
  · cases h
theorem keyS_some {k : Key} {x : List Nat} (h : keyS k = some x) : k = Sum.inr (toS x) ∧ okS x = true := by
  unfold keyS at h
  split at h
  · cases h
  · rename_i z
    split at h
    · rename_i hk
      cases h
      refine ⟨?_, hk⟩
      show Sum.inr z = Sum.inr (⟨z.cps.toList.toArray⟩ : Str)
      rw [Array.toArray_toList]
    · cases h
theorem keysS_some : ∀ {ks : List Key} {ys : List (List Nat)}, keysS ks = some ys → ks = (ys.map toS).map Sum.inr ∧ ∀ y ∈ ys, okS y = true
  | [], ys, h => by cases h; exact ⟨rfl, fun y hy => nomatch hy⟩
  | k :: ks, ys, h => by
    unfold keysS at h
    cases qk : keyS k with
    | none => rw [qk] at h; cases h
    | some x =>
      cases q : keysS ks with
      | none => rw [qk, q] at h; cases h
      | some zs =>
        rw [qk, q] at h
        cases h
        obtain ⟨e, m⟩ := keysS_some q
        obtain ⟨e1, m1⟩ := keyS_some qk
        refine ⟨by rw [e, e1]; rfl, fun y hy => ?_⟩
        rcases List.mem_cons.mp hy with rfl | hy
        · exact m1
        · exact m y hy
theorem call_sortKD (v : Pl X C W) : CallR X (.builtin "sorted") (rCF C.G sortKD) := by
  intro pins s σ H xs us Q I r h
  obtain ⟨F, ds, S, r2, p⟩ := h
  unfold sortKD at p
  split at p
  · obtain ⟨u, rfl, b⟩ := pair1 r2
    obtain ⟨a, kvs, rfl, q, hk, nd, rr⟩ := bor_dic S b
    split at p
    · rename_i ns hn
      obtain ⟨e, hok⟩ := keysS_some hn
      refine cr_sortedDT v.calm pins s σ H _ us Q I r ⟨a, kvs, ns.map toS, rfl, q, hk.trans e, fun zs p' hp hs hf => ?_⟩
      have h1 : zs = (zs.map fun z => z.cps.toList).map toS := by
        rw [List.map_map]
        conv => lhs; rw [← List.map_id zs]
        refine List.map_congr_left fun z _ => ?_
        show z = ⟨z.cps.toList.toArray⟩
        rw [Array.toArray_toList]
      have h2 : zs.map (fun z => z.cps.toList) = sortT ns := by
        apply sortT_uniq
        · have := hp.map fun z : Str => z.cps.toList
          rw [List.map_map] at this
          have e2 : ns.map ((fun z : Str => z.cps.toList) ∘ toS) = ns := by
            conv => rhs; rw [← List.map_id ns]
            exact List.map_congr_left fun z _ => rfl
          rwa [e2] at this
        · exact List.pairwise_map.mpr hs
      rw [h1, h2]
      exact p.lst S (repL_strs _ fun x hx => hok x ((sortT_perm ns).mem_iff.mp hx)) p' hf
    · exact p.elim
  · exact p.elim
end
end
end Z
namespace ZT
open PySem PySem.Spec PyProof.Rows L2
section
variable {P : Program} {w : World} {A : Around} {E : Value → Shared → Prop} {s : Shared}
theorem call_set_tupT {l : Addr} {items : Array Value} (ns : List Str) {Q : Value → Shared → Prop} (hh : A.handled = none) (hl : s.heap.IsTuple l items) (hit : StrsAre items.toList ns) (hb : ns.length ≤ scanBound)
    (h : ∀ (h' : Heap) (tk c : Nat), SetRT w h' s.heap.objs.size (fun j => decide (j ∈ ns)) c → c ≤ ns.length → (∀ b o, s.heap.get? b = some o → h'.get? b = some o) → Q (.ref s.heap.objs.size) { s with heap := h', toks := tk }) :
    wpAny (model P w) A (call (.type "set") [.ref l]) Q E s := by
  have hisz : items.size = ns.length := by
    have q := StrsAre.len_eq hit
    rw [Array.length_toList] at q
    exact q
  obtain ⟨c, tl, hmro⟩ := F.called_set.mro
  have hmade := F.called_set.made
  have hsub := F.called_set.sub
  refine wpAny_call (codeAny_of_tree ?_)
  show wpAny _ _ (callAny (.type "set") _) _ _ _
  refine wpAny_pure ⟨Code.quiet_builtin _ (by decide +kernel), codeAny_builtin F.entry_type_call ?_⟩
  rw [Around.under_plain (weight_type_call_type "set" [.ref l] []) rfl]
  have h1 := F.called_set.notType
  have h2 := F.called_set.canCreate
  have hct := F.typeCall_set_1 (.ref l)
  repeat (any_goals (first | assumption | wp_step))

  refine codeAny_mono (code_set_led1 (.ref l) (E := E) (Q₁ := fun obj s₁ => obj = .ref s.heap.objs.size ∧ s₁ = { s with heap := s.heap.push { cls := .type "set", dict := none, data := .set #[] 0 (.fresh 0 0 (!w.params.followText "set-order")) } }) ⟨rfl, rfl⟩) fun r s₁ hr => ?_
  cases r with
  | error e => exact hr
  | ok fl =>
    cases fl with
    | ret obj =>
      obtain ⟨rfl, rfl⟩ := hr
      have hS : (s.heap.push { cls := .type "set", dict := none, data := .set #[] 0 (.fresh 0 0 (!w.params.followText "set-order")) }).get? s.heap.objs.size = some { cls := .type "set", dict := none, data := .set #[] 0 (.fresh 0 0 (!w.params.followText "set-order")) } := Heap.get?_push_size _ rfl
      have hT : Shared.TypeIs { s with heap := s.heap.push { cls := .type "set", dict := none, data := .set #[] 0 (.fresh 0 0 (!w.params.followText "set-order")) } } (.ref s.heap.objs.size) "set" := ⟨_, hS, rfl⟩
      have hli := F.called_set.init.lookup
      have hbi := F.called_set.init.bind (.ref s.heap.objs.size)
      repeat (any_goals (first | assumption | wp_step))

      refine codeAny_mono (codeAny_call_builtin (R := wants (fun r s₂ => r = .none ∧ ∃ h' tk c, s₂ = { s with heap := h', toks := tk } ∧ SetRT w h' s.heap.objs.size (fun j => decide (j ∈ ns)) c ∧ c ≤ ns.length ∧
          (∀ b o, s.heap.get? b = some o → h'.get? b = some o)) E) F.called_set.init.plain F.entry_set_init (check_set_init_1 hT ?_)) fun r₂ s₂ hr₂ => ?_
      · obtain ⟨ol, hol, hcl, nl, hdl⟩ := hl
        obtain ⟨ocls, odict, odata, oslots⟩ := ol
        simp only at hcl hdl
        subst hcl; subst hdl
        have hol' : (s.heap.push { cls := .type "set", dict := none, data := .set #[] 0 (.fresh 0 0 (!w.params.followText "set-order")) }).get? l = some { cls := .type "tuple", dict := odict, data := .seq items nl, slots := oslots } := Heap.get?_push_of_some _ hol
        have hsls := F.sub_tuple_set
        have hslf := F.sub_tuple_frozenset
        have hne : (Value.type "tuple" == Value.type "dict") = false := by decide
        have hl1 : (s.heap.push { cls := .type "set", dict := none, data := .set #[] 0 (.fresh 0 0 (!w.params.followText "set-order")) }).IsTuple l items := ⟨_, hol', rfl, nl, rfl⟩
        unfold Builtin.«set.__init__» noKeywords Builtin.Frozenset.updateFrom
        generalize hPI : pyIter = PI
        wp_walk
        subst hPI

        refine wpAny_pyIter_tuple hl1 ?_
        refine wpAny_bind (wpAny_runValue ?_)
        have hlS : l < s.heap.objs.size := Heap.lt_size hol
        have hh3 : A.in1.in1.in1.handled = none := by simp [hh]
        have hz1 : (s.heap.push { cls := .type "set", dict := none, data := .set #[] 0 (.fresh 0 0 (!w.params.followText "set-order")) }).objs.size = s.heap.objs.size + 1 := Heap.size_push ..
        have hneI : l ≠ (s.heap.push { cls := .type "set", dict := none, data := .set #[] 0 (.fresh 0 0 (!w.params.followText "set-order")) }).objs.size := by
          rw [Heap.size_push]; exact Nat.ne_of_lt (Nat.lt_succ_of_lt hlS)
        have hSf : s.heap.objs.size ∉ [(s.heap.push { cls := .type "set", dict := none, data := .set #[] 0 (.fresh 0 0 (!w.params.followText "set-order")) }).objs.size, l] := by
          rw [Heap.size_push]; simp only [List.mem_cons, List.mem_singleton, List.not_mem_nil, or_false, not_or]
          exact ⟨Nat.ne_of_lt (Nat.lt_succ_self _), Nat.ne_of_gt hlS⟩
        have hval : ∀ (i : Nat) (v : Value), items[i]? = some v → ∃ k t, ns[i]? = some k ∧ v = .str k t := fun i v hv => by
          have hi : i < ns.length := by rw [← hisz]; exact (Array.getElem?_eq_some_iff.mp hv).1
          obtain ⟨t, e⟩ := SS.strs_at hit i v (by rw [Array.getElem?_toList]; exact hv)
          refine ⟨ns[i], t, List.getElem?_eq_getElem hi, ?_⟩
          rw [e, List.getD_eq_getElem?_getD, List.getElem?_eq_getElem hi] <;> rfl
        refine set_update_strs ((Walks.tuple hh3 _ l hneI items).toS) s.heap.objs.size
          hSf ns hisz hb hval (items.size - 0) 0 _ (by omega) (Nat.zero_le _)
          ⟨⟨_, Heap.get?_push_size _ rfl, rfl, rfl⟩, (hl1.push _)⟩ ?hS0 ?hR
        case hS0 =>
          have hget : ((s.heap.push { cls := .type "set", dict := none, data := .set #[] 0 (.fresh 0 0 (!w.params.followText "set-order")) }).push { cls := .type "tuple_iterator", data := .fields #[.ref l, .int 0 0] }).get? s.heap.objs.size
              = some { cls := .type "set", dict := none, data := .set #[] 0 (.fresh 0 0 (!w.params.followText "set-order")) } := Heap.get?_push_of_some _ hS
          exact ⟨0, Nat.le_refl 0, setRT_new_at hget⟩
        case hR =>
          intro s' c' hm hc' hS'
          obtain ⟨h', g2, d', tk', os'⟩ := s'
          have eg : g2 = s.gens := hm.gens
          have ed : d' = s.drawn := hm.drawn
          have eo : os' = s.os := hm.os
          subst eg; subst ed; subst eo
          show wpAny _ _ _ _ _ _
          refine wpAny_pure ?_
          show wpAny _ _ (ret Value.none) _ _ _
          rw [hisz] at hc'
          refine wpAny_pure ⟨rfl, h', tk', c', rfl, hS', hc', fun b o e => ?_⟩
          have hb0 : b < s.heap.objs.size := Heap.lt_size e
          have hb1 : b ≠ s.heap.objs.size := Nat.ne_of_lt hb0
          have hb2 : b ≠ (s.heap.push { cls := .type "set", dict := none, data := .set #[] 0 (.fresh 0 0 (!w.params.followText "set-order")) }).objs.size := by
            rw [Heap.size_push]; exact Nat.ne_of_lt (Nat.lt_succ_of_lt hb0)
          exact hm.heap b o (by simp only [List.mem_cons, List.mem_singleton, List.not_mem_nil, or_false, not_or]; exact ⟨hb1, hb2⟩) (Heap.get?_push_of_some _ (Heap.get?_push_of_some _ e))

      · cases r₂ with
        | error e => exact hr₂
        | ok fl₂ =>
          cases fl₂ with
          | ret r =>
            obtain ⟨rfl, h', tk, c', rfl, hS', hc', hk'⟩ := hr₂
            repeat (any_goals (first | assumption | wp_step))
            exact h _ _ _ hS' hc' hk'
          | _ => exact hr₂.elim
    | _ => exact hr.elim

end
end ZT
namespace ZS
open PySem PyProof.Rows Srt SrtO
section
variable {prog : Program} {w : World} {A : Around} {E : Value → Shared → Prop} {s : Shared}
theorem collect_tup {l : Addr} {vs : List Value} {Q : List Value → Shared → Prop} (hl : s.heap.IsTuple l vs.toArray)
    (h : Q vs { s with heap := (s.heap.push (seqObj "list" #[] 0)).update s.heap.objs.size (Obj.mapSeq (· ++ vs.toArray)) }) (hsz : vs.length ≤ sizeLine) :
    wpAny (model prog w) A (collect (.ref l)) Q E s := by
  obtain ⟨o, ho, hc, n, hd⟩ := id hl
  unfold collect
  refine wpAny_bind (wpAny_runValue (codeAny_builtin entry_proto_collect' ?_))
  show wpAny _ _ (do again (.builtin "list.__iadd__" ⟨[← newList [], .ref l], []⟩)) _ _ s
  refine wpAny_bind (wpAny_newList (wpAny_pure ⟨Code.quiet_builtin _ (by decide +kernel), codeAny_builtin entry_list_iadd' ?_⟩))
  show wpAny _ _ (Builtin.List.listExtendWith (.ref s.heap.objs.size) (.ref l) (.ref s.heap.objs.size)) _ _ { s with heap := s.heap.push (seqObj "list" #[] 0) }
  unfold Builtin.List.listExtendWith
  have ho' : (s.heap.push (seqObj "list" #[] 0)).get? l = some o := Heap.get?_push_of_some _ ho
  refine wpAny_bind (wpAny_typeOf (T := "tuple") ⟨o, ho', hc⟩ ?_)
  have ht : (Value.type "tuple" == Value.type "tuple") = true := by rfl
  rw [if_pos (by rw [ht]; simp)]
  refine wpAny_bind (listItems_at ho' hd ?_)
  refine wpAny_bind (listItems_at (xs := #[]) (n := 0) (Heap.get?_push_size _ rfl) rfl ?_)
  rw [if_neg (by simp)]
  refine wpAny_bind (listUpdate_at (xs := #[]) (n := 0) (Heap.get?_push_size _ rfl) rfl ?_ (Nat.zero_le _) (by show (#[] ++ vs.toArray).size ≤ sizeLine + 1; simp only [Array.size_append, List.size_toArray, List.length_nil]; omega))
  refine wpAny_pure ?_
  show wpAny (model prog w) A (do
      let o ← load s.heap.objs.size
      match o.data with
      | .seq xs _ => pure xs.toList
      | _ => unsupported "internal:collect") Q E { s with heap := (s.heap.push (seqObj "list" #[] 0)).update s.heap.objs.size (Obj.mapSeq (· ++ vs.toArray)) }
  refine wpAny_bind (wpAny_load (get?_update_seq (Heap.get?_push_size _ rfl) _) ?_)
  show wpAny _ _ (pure ((#[] : Array Value) ++ vs.toArray).toList) Q E _
  rw [show ((#[] : Array Value) ++ vs.toArray).toList = vs by simp]
  exact wpAny_pure h
theorem sorted_ordT {l : Addr} {vs : List Value} {ltv : Value → Value → Bool} {Q : Value → Shared → Prop} (O : Swo ltv) (hl : s.heap.IsTuple l vs.toArray) (hz : vs.length ≤ sizeLine)
    (hS : 2 ≤ vs.length → ∀ (h₁ : Heap) (a : Addr), h₁.get? a = some (seqObj "list" vs.toArray 0) → (∀ b o, s.heap.get? b = some o → b ≠ a ∧ h₁.get? b = some o) → SortableO prog w A.in1.in1 { s with heap := h₁ } a vs ltv)
    (h : ∀ out : List Value, Srtd ltv out → Stb ltv out vs → Q (.ref (s.heap.objs.size + 1)) { s with heap := sortedAll s.heap vs out.toArray }) :
    wpAny (model prog w) A (call (.builtin "sorted") [.ref l]) Q E s := by
  refine Calls.call_function_entry kind_sorted plain_sorted entry_sorted (args_sorted1 _) ?_
  unfold Builtin.«sorted»
  refine wpAny_bind (m := checkCount "sorted" 1 1 _) (wpAny_pure ?_)
  refine wpAny_bind (collect_tup hl ?_ hz)
  refine wpAny_bind (wpAny_newList ?_ hz)
  have hsz : ((s.heap.push (seqObj "list" #[] 0)).update s.heap.objs.size (Obj.mapSeq (· ++ vs.toArray))).objs.size = s.heap.objs.size + 1 := by
    rw [Heap.size_update, size_push']
  have hoL : (((s.heap.push (seqObj "list" #[] 0)).update s.heap.objs.size (Obj.mapSeq (· ++ vs.toArray))).push (seqObj "list" vs.toArray 0)).get? (s.heap.objs.size + 1) = some (seqObj "list" vs.toArray 0) := by
    rw [← hsz]; exact Heap.get?_push_size _ rfl
  have keep : ∀ b o, s.heap.get? b = some o → b ≠ s.heap.objs.size + 1 ∧ (((s.heap.push (seqObj "list" #[] 0)).update s.heap.objs.size (Obj.mapSeq (· ++ vs.toArray))).push (seqObj "list" vs.toArray 0)).get? b = some o := fun b o q => by
    have hlt : b < s.heap.objs.size := Heap.lt_size q
    refine ⟨Nat.ne_of_lt (Nat.lt_succ_of_lt hlt), Heap.get?_push_of_some _ ?_⟩
    rw [Heap.get?_update_ne _ _ _ _ (Nat.ne_of_lt hlt)]
    exact Heap.get?_push_of_some _ q
  show wpAny _ _ _ _ _ { s with heap := ((s.heap.push (seqObj "list" #[] 0)).update s.heap.objs.size (Obj.mapSeq (· ++ vs.toArray))).push (seqObj "list" vs.toArray 0) }
  rw [hsz]
  refine wpAny_bind (wpAny_holding (wpAny_call_entry slot_list_sort ⟨_, hoL, rfl⟩ entry_list_sort (list_sort_ord O hoL hz (fun h2 => hS h2 _ _ hoL keep) fun out hs hb => ⟨_, rfl, ?_⟩) (args_list_sort _)))
  exact wpAny_pure ⟨_, rfl, h out hs hb⟩
end
end ZS
namespace Z
noncomputable section
open PySem PySem.Spec PySem.P PyProof.Rows L2
section
variable {X : Cx} {C : CT} {W : WX} {a : Expr} {fa : SS → R D} {pos q p2 p : Pos}
theorem cr_sortedTT : CallR X (.builtin "sorted") (fun vs H Q => ∃ (a : Addr) (xs : List Str), vs = [V.ref a] ∧ SqT X.K H a (xs.map V.str) ∧
    ∀ (ys : List Str) (p : Addr), ys.Perm xs → ys.Pairwise (fun x y => ¬ y.cps.toList < x.cps.toList) → H p = none → Q (.ref p) (upd H p (.lst (ys.map V.str)))) := by
  intro pins s σ H vs us Q I r h
  obtain ⟨a, ns, rfl, hs, q⟩ := h
  obtain ⟨its, rv, hl, hz⟩ := I.tuple hs
  rw [Vals.ref1 r]
  have hi := rv.strs
  refine ZS.sorted_ordT ZS.swo_str (show s.heap.IsTuple a its.toArray from hl) (by rw [← rv.length]; exact hz) (fun h2 h₁ a' _ _ => ZS.strs_sortable hi h2) fun out h1 h2 => ?_
  obtain ⟨k1, k2, k3⟩ := ZS.strs_out hi h1 h2
  obtain ⟨ep, he'⟩ := PyProof.Rows.sortedAll_at s.heap its out.toArray
  have hlen : ((out.map ZS.svS).map V.str).length ≤ sizeLine := by
    rw [List.length_map, k2.length_eq]
    rw [List.length_map] at hz
    exact hz
  exact ⟨.ref _, upd H (s.heap.objs.size + 1) (.lst ((out.map ZS.svS).map V.str)), I.laid (t' := s.toks) (fun _ _ => PyProof.Rows.sortedAll_old) (Nat.le_succ _) ⟨hlen, out, ep, vals_of_strs k1, he'⟩, rfl, q _ _ k2 k3 (I.hok.fresh (Nat.le_succ _))⟩
/-- sorted of a list or a tuple -/
def sortWD : List D → R D
  | [.lst x] => sortD [.lst x]
  | [.tup x] => match strsD x with
    | some ys => .ok (.lst ((sortT ys).map .str))
    | none => .bad
  | _ => .bad
theorem sortWD_ne : NoExL sortWD := fun x c vs h => by
  unfold sortWD at h
  split at h
  · exact sortD_ne _ c vs h
  · split at h <;> cases h
  · cases h
@[simp] theorem sortWD_l (x : List D) : sortWD [.lst x] = sortD [.lst x] := rfl
@[simp] theorem sortWD_t (ys : List (List Nat)) : sortWD [.tup (ys.map .str)] = .ok (.lst ((sortT ys).map .str)) := by
  unfold sortWD
  dsimp only
  rw [strsD_map]
theorem call_sortWD (v : Pl X C W) : CallR X (.builtin "sorted") (rCF C.G sortWD) := by
  intro pins s σ H xs us Q I r h
  obtain ⟨F, ds, S, r2, p⟩ := h
  unfold sortWD at p
  split at p
  · exact call_sortD v pins s σ H xs us Q I r ⟨F, _, S, r2, p⟩
  · obtain ⟨u, rfl, b⟩ := pair1 r2
    obtain ⟨a, ys, rfl, q, rr⟩ := bor_tup S b
    rw [← v.K] at q
    split at p
    · rename_i ns hn
      obtain ⟨e, hok⟩ := strs_rep hn rr
      rw [e] at q
      refine cr_sortedTT pins s σ H _ us Q I r ⟨a, ns.map toS, rfl, q, fun zs p' hp hs hf => ?_⟩
      have h1 : zs = (zs.map fun z => z.cps.toList).map toS := by
        rw [List.map_map]
        conv => lhs; rw [← List.map_id zs]
        refine List.map_congr_left fun z _ => ?_
        show z = ⟨z.cps.toList.toArray⟩
        rw [Array.toArray_toList]
      have h2 : zs.map (fun z => z.cps.toList) = sortT ns := by
        apply sortT_uniq
        · have := hp.map fun z : Str => z.cps.toList
          rw [List.map_map] at this
          have e2 : ns.map ((fun z : Str => z.cps.toList) ∘ toS) = ns := by
            conv => rhs; rw [← List.map_id ns]
            exact List.map_congr_left fun z _ => rfl
          rwa [e2] at this
        · exact List.pairwise_map.mpr hs
      rw [h1, h2]
      exact p.lst S (repL_strs _ fun x hx => hok x ((sortT_perm ns).mem_iff.mp hx)) p' hf
    · exact p.elim
  · exact p.elim
/-- len(set(x)) of a list or a tuple of texts -/
def lenSetWD (d : D) : R D := match d with
  | .tup x => lenSetD (.lst x)
  | d => lenSetD d
@[simp] theorem lenSetWD_l (x : List D) : lenSetWD (.lst x) = lenSetD (.lst x) := rfl
@[simp] theorem lenSetWD_t (x : List D) : lenSetWD (.tup x) = lenSetD (.lst x) := rfl
theorem s_lenSetW (v : Pl X C W) (hg : Gl X "len") (hm : X.mg "len" = none) (hg2 : Gl X "set") (hm2 : X.mg "set" = none) (ha : PE X a (tB C W fa))
    (na : starEach [a] X.env = (false, eval a X.env) :: starEach [] X.env := by rfl) : PE X (.Call (.Name "len" p) [.Call (.Name "set" p2) [a] [] q] [] pos) (tD C W (eUn lenSetWD fa)) := by
  refine ⟨fun pins s σ H Q I h => ?_⟩
  obtain ⟨F, sd, S, h⟩ := h
  refine Call_ (ld_blt I hg hm boot_len ?_)
  refine PyProof.Rows.callWith_builtin1 (PyProof.Rows.args_cons ?_ rfl) rfl rfl
  refine Call_ (ld_blt I hg2 hm2 boot_set ?_)
  refine PyProof.Rows.callWith_type1 (PyProof.Rows.args_cons (thn (ha.run pins s σ H (fun u H1 => ∃ F1 d, Ext F H F1 H1 ∧ Bor C.G F1 H1 d u ∧ PostE C W F1 H1 σ (pD C) Q (lenSetWD d)) I ⟨F, sd, S, PostE.bind h fun d u F1 H1 e1 b1 h1 => ⟨F1, d, e1, b1, h1⟩⟩) fun u s1 ⟨x, H1, I1, r1, q1⟩ => PyProof.Rows.args_nil ?_) na) na rfl
  obtain ⟨F1, d, e1, b1, h1⟩ := q1
  have shape : ∃ y, (d = .lst y ∨ d = .tup y) ∧ PostE C W F1 H1 σ (pD C) Q (lenSetD (.lst y)) := by
    cases d with
    | lst y => exact ⟨y, .inl rfl, h1⟩
    | tup y => exact ⟨y, .inr rfl, h1⟩
    | _ => exact h1.elim
  obtain ⟨y, hd, k1⟩ := shape
  have go : ∀ {l : Addr} {ys : List (List Nat)} {c : Nat} {h' : Heap} {tk : Nat} (hI : L2.Inv X pins σ H1 { s1 with heap := h', toks := tk }) (h1 : PostE C W F1 H1 σ (pD C) Q (.ok (.int ((dedT ys).length : Nat)))), ZT.SetRT X.w h' s1.heap.objs.size (fun j => decide (j ∈ ys.map toS)) c →
      wpAny (model X.prog X.w) X.A (call (.builtin "len") [.ref s1.heap.objs.size]) (EP X pins σ Q) X.xe { s1 with heap := h', toks := tk } := fun {l ys c h' tk} I2 h1 R => by
    obtain ⟨o, es, ep, t, ho, hex, hd, g, nd, hm', hb, hf, hn, hr, hl⟩ := R
    have hlen : es.size = (dedT ys).length := by
      have pp := ded_perm (ns := es.toList.map ZT.tkey) (ys := ys) nd fun k => (hm' k).symm
      have := pp.length_eq
      simpa using this
    refine call_len_set ho hex hd hf (by have : es.size ≤ 4096 := hb; omega) ?_
    exact ⟨.int (dedT ys).length, H1, I2.tok _, ⟨_, by rw [hlen]⟩, h1 _ F1 H1 (Ext.refl e1.fh) (rep_int.mpr rfl)⟩
  unfold lenSetD setD at k1
  dsimp only at k1
  split at k1
  · rename_i ys hys
    split at k1
    · rename_i hz
      rcases hd with rfl | rfl
      · obtain ⟨l, us, rfl, qq, rr⟩ := bor_lst e1.fh b1
        obtain rfl : u = Value.ref l := r1
        obtain ⟨eu, hok⟩ := strs_rep hys rr
        rw [← v.K, eu] at qq
        obtain ⟨its, rv, p', hz2⟩ := I1.list qq
        have hS := rv.strs
        refine ZT.call_set_listT (ys.map toS) (I1.ok.hd v.calm) p'.isList (by simpa using hS) (by rw [List.length_map]; show ys.length ≤ 4096; omega) fun h' tk c R hc hk => ?_
        refine PyProof.Rows.args_nil ?_
        exact go (l := l) (I1.kept hk) k1 R
      · obtain ⟨l, us, rfl, qq, rr⟩ := bor_tup e1.fh b1
        obtain rfl : u = Value.ref l := r1
        obtain ⟨eu, hok⟩ := strs_rep hys rr
        rw [← v.K, eu] at qq
        obtain ⟨its, rv, p', hz2⟩ := I1.tuple qq
        have hS := rv.strs
        refine ZT.call_set_tupT (items := its.toArray) (ys.map toS) (I1.ok.hd v.calm) p' (by simpa using hS) (by rw [List.length_map]; show ys.length ≤ 4096; omega) fun h' tk c R hc hk => ?_
        refine PyProof.Rows.args_nil ?_
        exact go (l := l) (I1.kept hk) k1 R
    · exact k1.elim
  · exact k1.elim
end
end
end Z
namespace Z
noncomputable section
open PySem PySem.Spec PySem.P PyProof.Rows L2
/-! ### plain side: objects, lent lists, dicts -/
section
variable {s : SS} {fe : SS → R D}
def getLk (c : Nat) : Option Sl → Option (List D)
  | some (.lk (.obj k vs)) => if k = c then some vs else none
  | _ => none
@[simp] theorem getLk_o (c : Nat) (vs : List D) : getLk c (some (.lk (.obj c vs))) = some vs := if_pos rfl
theorem lkO_s (c : Nat) (i : Nat) : lkO c s i = getLk c s[i]? := by
  unfold lkO getLk
  rfl
def rFldK (s : SS) (i c' : Nat) (r : R D) : Option (List D) → RS
  | some vs => rE s r fun d s => .nx (s.set i (.lk (.obj c' (vs ++ [d]))))
  | none => .bad
@[simp] theorem rFldK_s (i c' : Nat) (r : R D) (vs : List D) : rFldK s i c' r (some vs) = rE s r fun d s => .nx (s.set i (.lk (.obj c' (vs ++ [d])))) := rfl
@[simp] theorem sFldK_s (i c c' : Nat) : sFldK i c c' fe s = rFldK s i c' (fe s) (getLk c s[i]?) := by
  unfold sFldK
  rw [lkO_s]
  cases getLk c s[i]? <;> rfl
def finK (cN : Nat) : RS → R (List D)
  | .nx s' => (match getLk cN s'[0]? with
    | some vs => .ok vs
    | none => .bad)
  | .ex c vs _ => .ex c vs
  | _ => .bad
theorem runK_s (c0 cN m : Nat) (f : SS → RS) (ds : List D) : runK c0 cN m f ds = finK cN (f (.lk (.obj c0 []) :: (ds.map Sl.sh ++ List.replicate (m - 1 - ds.length) .no))) := by
  unfold runK finK
  cases f (.lk (.obj c0 []) :: (ds.map Sl.sh ++ List.replicate (m - 1 - ds.length) .no)) <;> first | rfl | (dsimp only; rw [lkO_s]; rfl)
@[simp] theorem finK_nx (cN : Nat) (vs : List D) (t : SS) : finK cN (.nx (.lk (.obj cN vs) :: t)) = .ok vs := by
  unfold finK
  simp
@[simp] theorem finK_ex (cN c : Nat) (vs : List D) (t : SS) : finK cN (.ex c vs t) = .ex c vs := rfl
@[simp] theorem finK_ite (cN : Nat) (p : Prop) [Decidable p] (a b : RS) : finK cN (if p then a else b) = if p then finK cN a else finK cN b := by split <;> rfl
@[simp] theorem eMk_s (cN : Nat) (g : List D → R (List D)) (fs : SS → R (List D)) : eMk cN g fs s = (fs s).bind fun ds => (g ds).bind fun vs => .ok (.obj cN vs) := rfl
@[simp] theorem eDic1_s (fk fv : SS → R D) : eDic1 fk fv s = (fk s).bind fun k => (fv s).bind fun v => match keyD k with
  | some k => .ok (.dic [k] [v])
  | none => .bad := rfl
def rGet (d k x : D) : R D := match d with
  | .dic ks vs => (match keyD k with
    | some k => (match look ks vs k with
      | some v => .ok v
      | none => .ok x)
    | none => .bad)
  | _ => .bad
theorem eDGet_s (fd fk fx : SS → R D) {d k x : D} (h1 : fd s = .ok d) (h2 : fk s = .ok k) (h3 : fx s = .ok x) : eDGet fd fk fx s = rGet d k x := by
  unfold eDGet rGet
  rw [h1, h2, h3]
  cases d <;> rfl
end
/-! texts as keys -/
def kS (x : List Nat) : Key := .inr (toS x)
@[simp] theorem keyD_str (x : List Nat) : keyD (.str x) = some (kS x) := rfl
theorem kS_inj {x y : List Nat} : kS x = kS y ↔ x = y := by
  unfold kS
  constructor
  · intro h
    exact toS_inj (Sum.inr.inj h)
  · rintro rfl; rfl
theorem keyOk_kS {x : List Nat} : keyOk (kS x) = okS x := rfl
theorem keyDd_kS (x : List Nat) : keyDd (kS x) = .str x := rfl
theorem has_kS (xs : List (List Nat)) (x : List Nat) : has (xs.map kS) (kS x) = decide (x ∈ xs) := by
  unfold has
  induction xs with
  | nil => simp
  | cons y ys ih =>
    simp only [List.map_cons, List.any_cons, ih, kS_inj, List.mem_cons]
    by_cases h : x = y
    · subst h; simp
    · have h' : ¬ y = x := fun e => h e.symm
      simp [h, h']
theorem keysS_kS : ∀ (xs : List (List Nat)), (∀ x ∈ xs, okS x = true) → keysS (xs.map kS) = some xs
  | [], _ => rfl
  | x :: xs, h => by
    have h1 : keyS (kS x) = some x := by
      have := h x List.mem_cons_self
      show (if okS x = true then some x else none) = some x
      rw [if_pos this]
    show (keyS (kS x)).bind _ = _
    rw [h1, keysS_kS xs fun y hy => h y (List.mem_cons_of_mem _ hy)]
    rfl
theorem sortKD_k (xs : List (List Nat)) (vs : List D) (h : ∀ x ∈ xs, okS x = true) : sortKD [.dic (xs.map kS) vs] = .ok (.lst ((sortT xs).map .str)) := by
  unfold sortKD
  dsimp only
  rw [keysS_kS xs h]
theorem putKs_kS (xs : List (List Nat)) (x : List Nat) : putKs (xs.map kS) (kS x) = (if x ∈ xs then xs else xs ++ [x]).map kS := by
  unfold putKs
  rw [has_kS]
  by_cases h : x ∈ xs <;> simp [h]
/-- a set told as a dict whose values are all True -/
def setD1 (xs : List (List Nat)) : D := .dic (xs.map kS) (xs.map fun _ => .bl true)
theorem putV_const : ∀ (ks : List Key) (j : Key) (d : D), putV ks (ks.map fun _ => d) j d = (putKs ks j).map fun _ => d
  | [], j, d => by simp [putV, putKs, has]
  | k :: ks, j, d => by
    have ih := putV_const ks j d
    unfold putKs at ih ⊢
    by_cases hk : k = j
    · subst hk
      simp [putV, has]
    · have h2 : has (k :: ks) j = has ks j := by simp [has, hk]
      rw [h2]
      by_cases h : has ks j = true
      · rw [if_pos h] at ih ⊢
        simp [putV, hk]
        exact ih
      · rw [if_neg h] at ih ⊢
        simp [putV, hk]
        simpa using ih
/-! ### dicts with texts as keys, as lists of pairs -/
def dicT (l : List (List Nat × D)) : D := .dic (l.map fun p => kS p.1) (l.map (·.2))
def putA (l : List (List Nat × D)) (x : List Nat) (d : D) : List (List Nat × D) := match l with
  | [] => [(x, d)]
  | p :: r => if p.1 = x then (x, d) :: r else p :: putA r x d
theorem has_dic (l : List (List Nat × D)) (x : List Nat) : has (l.map fun p => kS p.1) (kS x) = decide (x ∈ l.map (·.1)) := by
  have := has_kS (l.map (·.1)) x
  rwa [List.map_map] at this
theorem putA_keys : ∀ (l : List (List Nat × D)) (x : List Nat) (d : D), (putA l x d).map (·.1) = if x ∈ l.map (·.1) then l.map (·.1) else l.map (·.1) ++ [x]
  | [], x, d => by simp [putA]
  | p :: r, x, d => by
    have ih := putA_keys r x d
    unfold putA
    by_cases h : p.1 = x
    · subst h
      simp
    · rw [if_neg h, List.map_cons, ih]
      have h' : ¬ x = p.1 := fun e => h e.symm
      by_cases h2 : x ∈ r.map (·.1)
      · rw [if_pos h2, if_pos (by rw [List.map_cons]; exact List.mem_cons_of_mem _ h2), List.map_cons]
      · rw [if_neg h2, if_neg (by rw [List.map_cons, List.mem_cons]; exact fun z => z.elim h' h2), List.map_cons]
        rfl
theorem putA_vals : ∀ (l : List (List Nat × D)) (x : List Nat) (d : D), putV (l.map fun p => kS p.1) (l.map (·.2)) (kS x) d = (putA l x d).map (·.2)
  | [], x, d => by simp [putA, putV]
  | p :: r, x, d => by
    have ih := putA_vals r x d
    unfold putA
    by_cases h : p.1 = x
    · subst h
      simp [putV]
    · rw [if_neg h]
      simp [putV, kS_inj, h, ih]
theorem putA_put (l : List (List Nat × D)) (x : List Nat) (d : D) : D.dic (putKs (l.map fun p => kS p.1) (kS x)) (putV (l.map fun p => kS p.1) (l.map (·.2)) (kS x) d) = dicT (putA l x d) := by
  unfold dicT
  rw [putA_vals]
  congr 1
  have h1 : (putA l x d).map (fun p => kS p.1) = ((putA l x d).map (·.1)).map kS := by rw [List.map_map]; rfl
  have h2 : l.map (fun p => kS p.1) = (l.map (·.1)).map kS := by rw [List.map_map]; rfl
  rw [h1, putA_keys, h2, putKs_kS]
def lookA (l : List (List Nat × D)) (x : List Nat) : Option D := (l.find? fun p => decide (p.1 = x)).map (·.2)
theorem look_dic : ∀ (l : List (List Nat × D)) (x : List Nat), look (l.map fun p => kS p.1) (l.map (·.2)) (kS x) = lookA l x
  | [], x => rfl
  | p :: r, x => by
    have ih := look_dic r x
    unfold lookA at ih ⊢
    by_cases h : p.1 = x
    · subst h
      simp [look]
    · simp [look, kS_inj, h, ih]
theorem lookA_mem : ∀ {l : List (List Nat × D)} {x : List Nat}, x ∈ l.map (·.1) → ∃ d, lookA l x = some d ∧ (x, d) ∈ l
  | p :: r, x, h => by
    unfold lookA
    by_cases e : p.1 = x
    · subst e
      exact ⟨p.2, by simp, List.mem_cons_self⟩
    · rw [List.map_cons, List.mem_cons] at h
      obtain ⟨d, h1, h2⟩ := lookA_mem (h.resolve_left fun z => e z.symm)
      exact ⟨d, by simpa [e, lookA] using h1, List.mem_cons_of_mem _ h2⟩
theorem lookA_none {l : List (List Nat × D)} {x : List Nat} (h : x ∉ l.map (·.1)) : lookA l x = none := by
  unfold lookA
  rw [List.find?_eq_none.mpr]
  · rfl
  · intro p hp
    simp only [decide_eq_true_eq]
    rintro rfl
    exact h (List.mem_map_of_mem hp)
theorem putDS_t (s : SS) (i : Nat) (l : List (List Nat × D)) (x : List Nat) (d : D) (h : l.length + 1 ≤ SZ) :
    putDS s i (l.map fun p => kS p.1) (l.map (·.2)) d (.str x) = .nx (s.set i (.ow (dicT (putA l x d)))) := by
  unfold putDS
  rw [keyD_str]
  dsimp only
  rw [if_pos (by simpa using h), putA_put]
@[simp] theorem getOd_t (l : List (List Nat × D)) : getOd (some (.ow (dicT l))) = some (l.map (fun p => kS p.1), l.map (·.2)) := rfl
theorem inD_t (neg : Bool) (x : List Nat) (l : List (List Nat × D)) : inD neg (.str x) (dicT l) = .ok (.bl (xor neg (decide (x ∈ l.map (·.1))))) := by
  have e : inD neg (.str x) (dicT l) = .ok (.bl (xor neg (has (l.map fun p => kS p.1) (kS x)))) := rfl
  rw [e, has_dic]
theorem rGet_t (l : List (List Nat × D)) (x : List Nat) (d : D) : rGet (dicT l) (.str x) d = .ok ((lookA l x).getD d) := by
  unfold dicT rGet
  rw [keyD_str]
  dsimp only
  rw [look_dic]
  cases lookA l x <;> rfl
theorem itD_t1 (l : List (List Nat × D)) (h : ∀ p ∈ l, okS p.1 = true) : itD (dicT l) = .ok (l.map fun p => .str p.1) := by
  unfold dicT
  show (if (l.map fun p => kS p.1).all keyOk = true then R.ok ((l.map fun p => kS p.1).map keyDd) else .bad) = _
  rw [if_pos (by simpa [keyOk_kS] using fun p q hp => h (p, q) hp)]
  congr 1
  rw [List.map_map]
  rfl
theorem sortKD_t (l : List (List Nat × D)) (h : ∀ p ∈ l, okS p.1 = true) : sortKD [dicT l] = .ok (.lst ((sortT (l.map (·.1))).map .str)) := by
  have := sortKD_k (l.map (·.1)) (l.map (·.2)) fun x hx => by
    obtain ⟨p, hp, rfl⟩ := List.mem_map.mp hx
    exact h p hp
  rw [List.map_map] at this
  exact this
end
end Z
namespace Z
noncomputable section
open PySem PySem.Spec PySem.P PyProof.Rows L2
/-! ### webs, plainly -/
def soundW (w : List Nat) : Bool := decide (1 ≤ w.length ∧ w.length ≤ 8) && w.all fun c => decide (97 ≤ c ∧ c ≤ 102)
theorem soundW_iff {w : List Nat} : soundW w = true ↔ (1 ≤ w.length ∧ w.length ≤ 8) ∧ ∀ c ∈ w, 97 ≤ c ∧ c ≤ 102 := by
  unfold soundW
  simp only [Bool.and_eq_true, decide_eq_true_eq, List.all_eq_true]
def webOkB (us : List (List Nat)) : Bool := decide (us ≠ []) && us.all soundW && (us.all fun v => us.all fun w => decide (v.length = w.length)) && decide us.Nodup
theorem webOkB_iff {us : List (List Nat)} : webOkB us = true ↔ us ≠ [] ∧ (∀ w ∈ us, soundW w = true) ∧ (∀ v ∈ us, ∀ w ∈ us, v.length = w.length) ∧ us.Nodup := by
  unfold webOkB
  simp only [Bool.and_eq_true, decide_eq_true_eq, List.all_eq_true, and_assoc]
def webR (us : List (List Nat)) : R (List D) := if 64 < us.length then .ex 3 [] else if webOkB us = true then .ok [.tup ((sortT us).map .str), .int ((us.headD []).length : Nat)] else .ex 2 []
def webD (ws : List (List Nat)) (n : Nat) : D := .obj 2 [.tup (ws.map .str), .int (n : Nat)]
/-- the words of a web, ascending, each of n letters -/
structure WebOk (ws : List (List Nat)) (n : Nat) : Prop where
  n1 : 1 ≤ n
  n8 : n ≤ 8
  ne : ws ≠ []
  le : ws.length ≤ 64
  len : ∀ w ∈ ws, w.length = n
  abc : ∀ w ∈ ws, ∀ c ∈ w, 97 ≤ c ∧ c ≤ 102
  asc : ws.Pairwise (· < ·)
theorem ded_len : ∀ {us : List (List Nat)}, (dedT us).length = us.length ↔ us.Nodup
  | [] => by simp [dedT]
  | x :: r => by
    have ih := ded_len (us := r)
    have hle := dedT_le r
    unfold dedT
    by_cases h : x ∈ r
    · rw [if_pos h, List.length_cons, List.nodup_cons]
      exact ⟨fun e => by omega, fun e => absurd h e.1⟩
    · rw [if_neg h, List.length_cons, List.length_cons, List.nodup_cons]
      constructor
      · intro e
        exact ⟨h, ih.mp (by omega)⟩
      · intro e
        rw [ih.mpr e.2]
theorem sortT_mem {us : List (List Nat)} {w : List Nat} : w ∈ sortT us ↔ w ∈ us := (sortT_perm us).mem_iff
theorem sortT_len (us : List (List Nat)) : (sortT us).length = us.length := (sortT_perm us).length_eq
theorem sortT_asc {us : List (List Nat)} (h : us.Nodup) : (sortT us).Pairwise (· < ·) := by
  have h1 := sortT_sorted us
  have h2 : (sortT us).Nodup := (sortT_perm us).nodup_iff.mpr h
  refine (h1.and h2).imp fun {a b} ⟨h3, h4⟩ => ?_
  by_cases h : a < b
  · exact h
  · exact absurd (List.le_antisymm (List.not_lt.mp h3) (List.not_lt.mp h)) h4
theorem asc_sort {us : List (List Nat)} (h : us.Pairwise (· < ·)) : sortT us = us :=
  (sortT_uniq (List.Perm.refl us) (h.imp fun h => List.lt_asymm h)).symm
theorem asc_nodup {us : List (List Nat)} (h : us.Pairwise (· < ·)) : us.Nodup := h.imp fun {a b} h e => by
  subst e
  exact List.lt_irrefl _ h
/-- one ascending list for one set -/
theorem asc_ext {us vs : List (List Nat)} (h1 : us.Pairwise (· < ·)) (h2 : vs.Pairwise (· < ·)) (h : ∀ w, w ∈ us ↔ w ∈ vs) : us = vs := by
  have hp : us.Perm vs := (List.perm_ext_iff_of_nodup (asc_nodup h1) (asc_nodup h2)).mpr h
  rw [← asc_sort h2]
  exact sortT_uniq hp (h1.imp fun h => List.lt_asymm h)
theorem webR_ok {us : List (List Nat)} (hl : us.length ≤ 64) (h : webOkB us = true) :
    ∃ n, webR us = .ok [.tup ((sortT us).map .str), .int (n : Nat)] ∧ WebOk (sortT us) n := by
  obtain ⟨h1, h2, h3, h4⟩ := webOkB_iff.mp h
  obtain ⟨u, r, rfl⟩ : ∃ u r, us = u :: r := by cases us with | nil => exact absurd rfl h1 | cons u r => exact ⟨u, r, rfl⟩
  have hu := soundW_iff.mp (h2 u List.mem_cons_self)
  refine ⟨u.length, ?_, ⟨hu.1.1, hu.1.2, fun e => ?_, by rw [sortT_len]; exact hl, fun w hw => ?_, fun w hw => ?_, sortT_asc h4⟩⟩
  · unfold webR
    rw [if_neg (by omega), if_pos h]
    rfl
  · have := sortT_len (u :: r)
    rw [e] at this
    cases this
  · exact h3 w (sortT_mem.mp hw) u List.mem_cons_self
  · exact (soundW_iff.mp (h2 w (sortT_mem.mp hw))).2
theorem webOkB_of {us : List (List Nat)} {n : Nat} (h1 : 1 ≤ n) (h8 : n ≤ 8) (hne : us ≠ []) (hl : ∀ w ∈ us, w.length = n) (ha : ∀ w ∈ us, ∀ c ∈ w, 97 ≤ c ∧ c ≤ 102) (hn : us.Nodup) : webOkB us = true :=
  webOkB_iff.mpr ⟨hne, fun w hw => soundW_iff.mpr ⟨by rw [hl w hw]; exact ⟨h1, h8⟩, ha w hw⟩, fun v hv w hw => (hl v hv).trans (hl w hw).symm, hn⟩
theorem webR_of {us : List (List Nat)} {n : Nat} (h1 : 1 ≤ n) (h8 : n ≤ 8) (hne : us ≠ []) (hl : ∀ w ∈ us, w.length = n) (ha : ∀ w ∈ us, ∀ c ∈ w, 97 ≤ c ∧ c ≤ 102) (hn : us.Nodup) (h64 : us.length ≤ 64) :
    webR us = .ok [.tup ((sortT us).map .str), .int (n : Nat)] ∧ WebOk (sortT us) n := by
  obtain ⟨m, e, w⟩ := webR_ok h64 (webOkB_of h1 h8 hne hl ha hn)
  obtain ⟨u, hu⟩ := List.exists_mem_of_ne_nil us hne
  have := (w.len u (sortT_mem.mpr hu)).symm.trans (hl u hu)
  subst this
  exact ⟨e, w⟩
theorem webR_bad {us : List (List Nat)} (hl : us.length ≤ 64) (h : webOkB us = false) : webR us = .ex 2 [] := by
  unfold webR
  rw [if_neg (by omega), if_neg (by rw [h]; exact Bool.false_ne_true)]
theorem webR_many {us : List (List Nat)} (hl : 64 < us.length) : webR us = .ex 3 [] := if_pos hl
end
end Z
namespace Z
noncomputable section
open PySem PySem.Spec PySem.P PyProof.Rows L2
/-! ### slices from the end, numbers below kinds -/
theorem cutL_m1 {α : Type} (x : List α) : cutL x none (some (-1)) = x.dropLast := by
  have e : HT.sIx x.length x.length (some (-1)) = x.length - 1 := by
    show (if (-1 : Int) < 0 then ((-1 : Int) + (x.length : Int)).toNat else min (-1 : Int).toNat x.length) = _
    rw [if_pos (by decide)]
    omega
  unfold cutL
  rw [e]
  show (x.drop 0).take (x.length - 1 - 0) = _
  rw [List.drop_zero, Nat.sub_zero, List.dropLast_eq_take]
theorem cutL_1 {α : Type} (x : List α) : cutL x (some 1) none = x.tail := by
  rw [cutL_from _ _ (by omega)]
  simp
/-- the words of a web in any order -/
structure Wds (us : List (List Nat)) (n : Nat) : Prop where
  n1 : 1 ≤ n
  n8 : n ≤ 8
  len : ∀ w ∈ us, w.length = n
  abc : ∀ w ∈ us, ∀ c ∈ w, 97 ≤ c ∧ c ≤ 102
  nd : us.Nodup
theorem Wds.le {us : List (List Nat)} {n : Nat} (h : Wds us n) : ∀ w ∈ us, w.length ≤ 1000000 := fun w hw => by
  rw [h.len w hw]
  have := h.n8
  omega
theorem Wds.web {us : List (List Nat)} {n : Nat} (h : Wds us n) (h0 : us ≠ []) (hl : us.length ≤ 64) : webR us = .ok [.tup ((sortT us).map .str), .int (n : Nat)] ∧ WebOk (sortT us) n :=
  webR_of h.n1 h.n8 h0 h.len h.abc h.nd hl
theorem Wds.perm {us vs : List (List Nat)} {n : Nat} (h : Wds us n) (p : vs.Perm us) : Wds vs n :=
  ⟨h.n1, h.n8, fun w hw => h.len w (p.mem_iff.mp hw), fun w hw => h.abc w (p.mem_iff.mp hw), p.nodup_iff.mpr h.nd⟩
theorem Wds.app {us : List (List Nat)} {n : Nat} {w : List Nat} (h : Wds us n) (hl : w.length = n) (ha : ∀ c ∈ w, 97 ≤ c ∧ c ≤ 102) (hn : w ∉ us) : Wds (us ++ [w]) n := by
  refine ⟨h.n1, h.n8, fun v hv => ?_, fun v hv => ?_, ?_⟩
  · rcases List.mem_append.mp hv with hv | hv
    · exact h.len v hv
    · rw [List.mem_singleton.mp hv]; exact hl
  · rcases List.mem_append.mp hv with hv | hv
    · exact h.abc v hv
    · rw [List.mem_singleton.mp hv]; exact ha
  · rw [List.nodup_append]
    refine ⟨h.nd, List.nodup_cons.mpr ⟨by simp, List.nodup_nil⟩, fun a h1 b h2 => ?_⟩
    rw [List.mem_singleton.mp h2]
    rintro rfl
    exact hn h1
theorem Wds.sub {us vs : List (List Nat)} {n : Nat} (h : Wds us n) (s : vs.Sublist us) : Wds vs n :=
  ⟨h.n1, h.n8, fun w hw => h.len w (s.subset hw), fun w hw => h.abc w (s.subset hw), h.nd.sublist s⟩
theorem sortT_rev (us : List (List Nat)) : sortT us.reverse = sortT us := by
  refine sortT_uniq ((sortT_perm us.reverse).trans (List.reverse_perm us)) (sortT_sorted _)
theorem sortT_of_perm {us vs : List (List Nat)} (h : us.Perm vs) : sortT us = sortT vs := sortT_uniq ((sortT_perm us).trans h) (sortT_sorted _)
/-- is a text among texts -/
theorem eqvS_any (x : List Nat) (ys : List (List Nat)) : (ys.map D.str).any (fun y => eqv y (.str x)) = decide (x ∈ ys) := by
  induction ys with
  | nil => simp
  | cons y ys ih =>
    rw [List.map_cons, List.any_cons, ih]
    have e : eqv (.str y) (.str x) = (y == x) := by rfl
    rw [e]
    by_cases h : y = x
    · subst h; simp
    · have h' : ¬ x = y := fun z => h z.symm
      simp [h, h']
theorem inD_strs (neg : Bool) (x : List Nat) (ys : List (List Nat)) : inD neg (.str x) (.lst (ys.map .str)) = .ok (.bl (xor neg (decide (x ∈ ys)))) := by
  have e : inD neg (.str x) (.lst (ys.map .str)) = if dep (.str x) ≤ 64 ∧ depL (ys.map D.str) ≤ 63 then .ok (.bl (xor neg ((ys.map D.str).any fun y => eqv y (.str x)))) else .bad := rfl
  rw [e, if_pos ⟨by simp [dep], by rw [depL_strs]; omega⟩, eqvS_any]
end
end Z
namespace Z
noncomputable section
open PySem PySem.Spec PySem.P PyProof.Rows L2
/-! ### loops with an aim that is a proposition -/
theorem forR_q {step : D → SS → RS} {i j : Int} {s : SS} {Q : RS → Prop} (P : Nat → SS → Prop) (h0 : P 0 s)
    (hs : ∀ (k : Nat) s, (k : Int) < j - i → P k s → ∃ s', step (.int (i + k)) s = .nx s' ∧ P (k + 1) s') (he : ∀ s', P (j - i).toNat s' → Q (.nx s')) : Q (forL step (rangeD i j) s) := by
  obtain ⟨s', q, h⟩ := forR_nx P i j s h0 hs
  rw [q]
  exact he s' h
theorem forM_q {α : Type} {c : α → D} {xs : List α} {step : D → SS → RS} {s : SS} {Q : RS → Prop} (P : Nat → SS → Prop) (h0 : P 0 s)
    (hs : ∀ (i : Nat) (a : α) s, xs[i]? = some a → P i s → ∃ s', step (c a) s = .nx s' ∧ P (i + 1) s') (he : ∀ s', P xs.length s' → Q (.nx s')) : Q (forL step (xs.map c) s) := by
  obtain ⟨s', q, h⟩ := forM_in (P' := fun s' => P xs.length s') P h0 hs (fun _ h => h)
  rw [q]
  exact he s' h
/-- over items, with ends inside -/
theorem forM_p {α : Type} {c : α → D} {xs : List α} {step : D → SS → RS} {s : SS} {Q : RS → Prop} (P : Nat → SS → Prop) (h0 : P 0 s)
    (hs : ∀ (i : Nat) (a : α) s, xs[i]? = some a → P i s → post (P (i + 1)) Q (step (c a) s)) (he : ∀ s', P xs.length s' → Q (.nx s')) : Q (forL step (xs.map c) s) :=
  forL_post P Q _ s h0 (fun i d s hd hp => by
    rw [List.getElem?_map] at hd
    cases q : xs[i]? with
    | none => rw [q] at hd; cases hd
    | some a => rw [q] at hd; cases hd; exact hs i a s q hp) (fun s h => he s (by simpa using h))
theorem forR_p {step : D → SS → RS} {i j : Int} {s : SS} {Q : RS → Prop} (P : Nat → SS → Prop) (h0 : P 0 s)
    (hs : ∀ (k : Nat) s, (k : Int) < j - i → P k s → post (P (k + 1)) Q (step (.int (i + k)) s)) (he : ∀ s', P (j - i).toNat s' → Q (.nx s')) : Q (forL step (rangeD i j) s) :=
  forL_post P Q _ s h0 (fun k d s hd hp => by
    obtain ⟨rfl, h2⟩ := rangeD_get hd
    exact hs k s h2 hp) (fun s h => he s (by simpa using h))
/-- a result that is there, with a property -/
def OkD (P : D → Prop) (r : R D) : Prop := ∃ d, r = .ok d ∧ P d
def OkL (P : List (List Nat) → Prop) (r : R D) : Prop := ∃ us, r = .ok (.lst (us.map .str)) ∧ P us
def OkS (P : List Nat → Prop) (r : R D) : Prop := ∃ x, r = .ok (.str x) ∧ P x
/-- a letter of some kinds -/
theorem abc_at2 {x k : Int} (h1 : 1 ≤ k) (h2 : k ≤ 6) : ∃ c : Nat, ixD (.str [97, 98, 99, 100, 101, 102]) (.int (x % k)) = .ok (.str [c]) ∧ 97 ≤ c ∧ c ≤ 102 ∧ (c : Int) = 97 + x % k := by
  have a := Int.emod_nonneg x (show k ≠ 0 by omega)
  have b := Int.emod_lt_of_pos x (show 0 < k by omega)
  generalize x % k = y at *
  refine ⟨97 + y.toNat, ?_, by omega, by omega, by omega⟩
  refine ixD_s _ _ a _ (le_sz (by simp)) ?_
  have : y = 0 ∨ y = 1 ∨ y = 2 ∨ y = 3 ∨ y = 4 ∨ y = 5 := by omega
  rcases this with rfl | rfl | rfl | rfl | rfl | rfl <;> rfl
theorem ipow_le {k : Int} (h1 : 1 ≤ k) (h2 : k ≤ 6) : ∀ n : Nat, 1 ≤ k ^ n ∧ k ^ n ≤ 6 ^ n
  | 0 => by simp
  | n + 1 => by
    obtain ⟨a, b⟩ := ipow_le h1 h2 n
    rw [Int.pow_succ, Int.pow_succ]
    refine ⟨?_, ?_⟩
    · have := Int.mul_le_mul a h1 (by omega) (by omega)
      simpa using this
    · exact Int.mul_le_mul b h2 (by omega) (by omega)
end
end Z
namespace ZR
open PySem PySem.Spec PyProof.Rows L2 RT
section
variable {prog : Program} {w : World} {A : Around} {E : Value → Shared → Prop} {s : Shared}
theorem call_list_str {x : Str} {t : Tok} {Q : Value → Shared → Prop} (hh : A.handled = none) (hn : x.cps.size ≤ sizeLine)
    (hQ : ∀ (h' : Heap) (tk : Nat) (acc : Array Value) (c' : Nat), (∀ b o, s.heap.get? b = some o → h'.get? b = some o) → h'.get? s.heap.objs.size = some { cls := .type "list", dict := none, data := .seq acc c', slots := #[] } →
      ItemsOf (SignAt x) acc x.cps.size → Q (.ref s.heap.objs.size) { s with heap := h', toks := tk }) :
    wpAny (model prog w) A (call (.type "list") [.str x t]) Q E s := by
  refine callType_codes (Q₁ := fun obj s₁ => obj = .ref s.heap.objs.size ∧ s₁ = { s with heap := s.heap.push { cls := .type "list", data := .seq #[] } }) F.called_list (F.typeCall_list_1 _) F.entry_list_init
    (code_list_new _ ⟨rfl, rfl⟩) fun obj s₁ h₁ => ?_
  obtain ⟨rfl, rfl⟩ := h₁
  have hS : (s.heap.push { cls := .type "list", data := .seq #[] }).get? s.heap.objs.size = some { cls := .type "list", data := .seq #[] } := Heap.get?_push_size _ rfl
  refine ⟨⟨_, hS, rfl⟩, F.args_list_init_2 _ _, ?_⟩
  show wpAny _ A.in1.in1 (do let old ← Builtin.List.listItems (.ref s.heap.objs.size); Builtin.List.listUpdate (.ref s.heap.objs.size) (fun _ => #[]); letGo old.toList.reverse; Builtin.List.listExtendWith (.ref s.heap.objs.size) (.str x t) .none) _ _ _
  refine wpAny_bind ?_
  unfold Builtin.List.listItems
  refine wpAny_bind (wpAny_seqItems hS rfl (wpAny_pure ?_))
  show wpAny _ A.in1.in1 (updateSeq s.heap.objs.size (fun _ => #[]) >>= fun _ => letGo (#[] : Array Value).toList.reverse >>= fun _ => Builtin.List.listExtendWith (.ref s.heap.objs.size) (.str x t) .none) _ _ _
  refine wpAny_bind (wpAny_updateSeq hS rfl ?_)
  have hS₂ := Heap.get?_update_self (Obj.mapSeq (fun _ => (#[] : Array Value))) hS rfl
  have oth : ∀ b o, b ≠ s.heap.objs.size → s.heap.get? b = some o → ((s.heap.push { cls := .type "list", data := .seq #[] }).update s.heap.objs.size (Obj.mapSeq (fun _ => (#[] : Array Value)))).get? b = some o :=
    fun b o hb e => (Heap.get?_update_other _ _ (Ne.symm hb)).trans (Heap.get?_push_of_some _ e)
  refine wpAny_bind (wpAny_letGo ?_)
  unfold Builtin.List.listExtendWith
  refine wpAny_bind (wpAny_typeOf (T := "str") (v := .str x t) rfl ?_)
  have h1 : Builtin.List.listSameRef (.ref s.heap.objs.size) (.str x t) = false := rfl
  have h2 : (Value.type "str" == Value.type "list") = false := by decide
  have h3 : (Value.type "str" == Value.type "tuple") = false := by decide
  simp only [h1, h2, h3, Bool.or_false, Bool.false_eq_true, if_false]
  refine wpAny_bind (wpAny_pyIter_str fun o St W hst => ?_)
  refine wpAny_bind (wpAny_holding ?_)
  unfold Builtin.List.listLengthHint
  refine wpAny_bind (wpAny_specialOf (T := "str") (v := .str x t) rfl F.str_len ?_)
  wp_delta
  refine wpAny_bind (wpAny_isInstance (T := "str") (v := .str x t) (b := true) rfl (by rw [isSubtype_type]; kernel_rfl) ?_)
  show wpAny _ A.in1.in1 (typeOf (Value.str x t) >>= _) _ _ _
  refine wpAny_bind (wpAny_typeOf (T := "str") (v := .str x t) rfl ?_)
  refine wpAny_pure ?_
  rw [if_neg (by decide)]
  generalize hH : ((s.heap.push { cls := .type "list", data := .seq #[] }).update s.heap.objs.size (Obj.mapSeq (fun _ => (#[] : Array Value)))) = H at W hst hS₂ oth ⊢
  have hHs : H.objs.size = s.heap.objs.size + 1 := by rw [← hH, Heap.size_update, Heap.size_push]
  have hSf : s.heap.objs.size ∉ [H.objs.size] := fun hm => by rw [List.mem_singleton.mp hm] at hHs; exact absurd hHs (Nat.ne_of_lt (Nat.lt_succ_self _))
  refine wpAny_pure ⟨plainId_quiet F.plain_extend_loop _, codeAny_extend_loopS (W A.in1.in1 hh).toS hn _ hSf _ x.cps.size 0 _ _ _ rfl (Nat.zero_le _) hst (Heap.get?_push_of_some _ hS₂) (ItemsOf.nil _) fun s' acc' c' hm hS' hacc => ?_⟩
  refine ⟨rfl, ?_⟩
  rw [Moved.eq_with hm]
  refine hQ s'.heap s'.toks acc' c' (fun b o e => ?_) hS' hacc
  have hlt := Heap.lt_size e
  have hbS : b ≠ s.heap.objs.size := Nat.ne_of_lt hlt
  refine hm.heap b o (fun hmem => ?_) (Heap.get?_push_of_some _ (oth b o hbS e))
  rcases List.mem_cons.mp hmem with h | h
  · exact hbS h
  · rw [List.mem_singleton.mp h, hHs] at hlt; exact absurd hlt (Nat.not_lt.mpr (Nat.le_succ _))
end
end ZR
namespace Z
noncomputable section
open PySem PySem.Spec PySem.P PyProof.Rows L2 RT
/-! ### list(x), x a text too -/
def listWD : List D → R D
  | [.str x] => if x.length ≤ SZ then .ok (.lst ((x.map fun c => [c]).map .str)) else .bad
  | ds => listD ds
theorem listWD_ne : NoExL listWD := fun x c vs h => by
  unfold listWD at h
  split at h
  · split at h <;> cases h
  · exact listD_ne _ c vs h
@[simp] theorem listWD_l (x : List D) : listWD [.lst x] = .ok (.lst x) := rfl
@[simp] theorem listWD_t (x : List D) : listWD [.tup x] = .ok (.lst x) := rfl
theorem listWD_s (x : List Nat) (h : x.length ≤ SZ) : listWD [.str x] = .ok (.lst ((x.map fun c => [c]).map .str)) := if_pos h
section
variable {X : Cx} {C : CT} {W : WX}
theorem sign_vals {x : List Nat} {acc : List Value} (hl : acc.length = x.length) (h : ∀ (j : Nat) (v : Value), acc[j]? = some v → ∃ c t, x[j]? = some c ∧ v = .str ⟨#[c]⟩ t) : Vals ((x.map fun c => toS [c]).map V.str) acc := by
  induction x generalizing acc with
  | nil =>
    have : acc = [] := List.eq_nil_of_length_eq_zero (by simpa using hl)
    subst this
    exact .nil
  | cons c x ih =>
    cases acc with
    | nil => simp at hl
    | cons v acc =>
      obtain ⟨c', t, e1, e2⟩ := h 0 v rfl
      have : c = c' := by simpa using e1
      subst this
      subst e2
      exact .cons ⟨t, rfl⟩ (ih (by simpa using hl) fun j v e => by simpa using h (j + 1) v (by simpa using e))
theorem call_listWD (v : Pl X C W) : CallR X (.type "list") (rCF C.G listWD) := by
  intro pins s σ H xs us Q I r h
  obtain ⟨F, ds, S, r2, p⟩ := h
  unfold listWD at p
  split at p
  · rename_i x
    split at p
    · rename_i hz
      obtain ⟨u, rfl, b⟩ := pair1 r2
      obtain ⟨rfl, hk⟩ := bor_str b
      obtain ⟨w, ew, rx⟩ := vals1 r
      subst ew
      obtain ⟨t, rfl⟩ := rx
      have hsz : (⟨x.toArray⟩ : Str).cps.size = x.length := by simp
      refine ZR.call_list_str (I.ok.hd v.calm) (by rw [hsz]; exact sz_line hz) fun h' tk acc c' hk' hD hacc => ?_
      have hv : Vals ((x.map fun c => toS [c]).map V.str) acc.toList := by
        refine sign_vals (by rw [Array.length_toList, hacc.1, hsz]) fun j v e => ?_
        obtain ⟨c, tk, e1, e2⟩ := hacc.2 j v (by rw [← Array.getElem?_toList]; exact e)
        exact ⟨c, tk, by simpa using e1, e2⟩
      have e : (x.map fun c => toS [c]) = (x.map fun c => [c]).map toS := by rw [List.map_map]; rfl
      rw [e] at hv
      refine ⟨.ref s.heap.objs.size, upd H s.heap.objs.size (.lst (((x.map fun c => [c]).map toS).map V.str)), I.laid (t' := tk) hk' (Nat.le_refl _)
        (show ObjOk X.prog X.w _ _ _ (.lst _) from ⟨by simp; exact sz_line hz, acc.toList, c', hv, by rw [Array.toArray_toList]; exact hD⟩), rfl, ?_⟩
      exact p.lst S (repL_strs _ fun y hy => by
        obtain ⟨c, hc, rfl⟩ := List.mem_map.mp hy
        exact okS_mem hk hc) _ (I.hok.fresh (Nat.le_refl _))
    · exact p.elim
  · exact call_listD v.K pins s σ H xs us Q I r ⟨F, ds, S, r2, p⟩
end
/-! small bounds -/
@[simp] theorem sz_1 : 1 ≤ SZ := le_sz (by decide)
@[simp] theorem sz_2 : 2 ≤ SZ := le_sz (by decide)
@[simp] theorem sz_3 : 3 ≤ SZ := le_sz (by decide)
@[simp] theorem sz_4 : 4 ≤ SZ := le_sz (by decide)
@[simp] theorem sz_5 : 5 ≤ SZ := le_sz (by decide)
@[simp] theorem sz_6 : 6 ≤ SZ := le_sz (by decide)
@[simp] theorem sz_7 : 7 ≤ SZ := le_sz (by decide)
@[simp] theorem sz_8 : 8 ≤ SZ := le_sz (by decide)
@[simp] theorem sz_9 : 9 ≤ SZ := le_sz (by decide)
@[simp] theorem sz_10 : 10 ≤ SZ := le_sz (by decide)
end
end Z
namespace Z
noncomputable section
open PySem PySem.Spec PySem.P PyProof.Rows L2
/-! ### plain equations for lists and tuples of texts -/
@[simp] theorem ixD_t0 (x : D) (xs : List D) : ixD (.tup (x :: xs)) (.int 0) = .ok x := ixD_t _ _ (by omega) _ rfl
@[simp] theorem ixD_l0 (x : D) (xs : List D) : ixD (.lst (x :: xs)) (.int 0) = .ok x := ixD_l _ _ (by omega) _ rfl
@[simp] theorem ixD_t1 (x y : D) (xs : List D) : ixD (.tup (x :: y :: xs)) (.int 1) = .ok y := ixD_t _ _ (by omega) _ rfl
@[simp] theorem ixD_l1 (x y : D) (xs : List D) : ixD (.lst (x :: y :: xs)) (.int 1) = .ok y := ixD_l _ _ (by omega) _ rfl
@[simp] theorem isN_f (x : D) : isN false x .non = .ok (.bl (isNone x)) := by cases x <;> rfl
@[simp] theorem isN_t (x : D) : isN true x .non = .ok (.bl (!isNone x)) := by cases x <;> rfl
@[simp] theorem isNone_non : isNone .non = true := rfl
@[simp] theorem isNone_obj (c : Nat) (vs : List D) : isNone (.obj c vs) = false := rfl
@[simp] theorem isNone_exc (c : Nat) (vs : List D) : isNone (.exc c vs) = false := rfl
@[simp] theorem isNone_str (x : List Nat) : isNone (.str x) = false := rfl
@[simp] theorem isNone_tup (x : List D) : isNone (.tup x) = false := rfl
@[simp] theorem isNone_lst (x : List D) : isNone (.lst x) = false := rfl
@[simp] theorem isNone_int (x : Int) : isNone (.int x) = false := rfl
@[simp] theorem isNone_dic (ks : List Key) (x : List D) : isNone (.dic ks x) = false := rfl
theorem dep_ls (xs : List (List Nat)) : dep (.lst (xs.map .str)) ≤ 64 := by
  have := depL_strs xs
  simp [dep, this]
theorem dep_ts (xs : List (List Nat)) : dep (.tup (xs.map .str)) ≤ 64 := by
  have := depL_strs xs
  simp [dep, this]
theorem eqD_ls (xs ys : List (List Nat)) : eqD (.lst (xs.map .str)) (.lst (ys.map .str)) = .ok (.bl (decide (xs = ys))) := by
  rw [eqD_ok, if_pos ⟨dep_ls xs, dep_ls ys⟩]
  show (R.ok (D.bl (eqvL (xs.map .str) (ys.map .str))) : R D) = _
  rw [eqvL_map]
theorem neD_ls (xs ys : List (List Nat)) : neD (.lst (xs.map .str)) (.lst (ys.map .str)) = .ok (.bl (!decide (xs = ys))) := by
  rw [neD_ok, if_pos ⟨dep_ls xs, dep_ls ys⟩]
  show (R.ok (D.bl (!eqvL (xs.map .str) (ys.map .str))) : R D) = _
  rw [eqvL_map]
theorem eqD_ts (xs ys : List (List Nat)) : eqD (.tup (xs.map .str)) (.tup (ys.map .str)) = .ok (.bl (decide (xs = ys))) := by
  rw [eqD_ok, if_pos ⟨dep_ts xs, dep_ts ys⟩]
  show (R.ok (D.bl (eqvL (xs.map .str) (ys.map .str))) : R D) = _
  rw [eqvL_map]
theorem neD_ts (xs ys : List (List Nat)) : neD (.tup (xs.map .str)) (.tup (ys.map .str)) = .ok (.bl (!decide (xs = ys))) := by
  rw [neD_ok, if_pos ⟨dep_ts xs, dep_ts ys⟩]
  show (R.ok (D.bl (!eqvL (xs.map .str) (ys.map .str))) : R D) = _
  rw [eqvL_map]
theorem joinM_ch (x : List Nat) (h : x.length ≤ 16777216) : joinM (.str []) [.lst ((x.map fun c => [c]).map .str)] = .ok (.str x) := by
  have := joinM_one x h
  rw [List.map_map]
  exact this
theorem flat_strs (ys : List (List Nat)) : (ys.map D.str).all flat = true := by simp [flat]
theorem inD_tstrs (neg : Bool) (x : List Nat) (ys : List (List Nat)) : inD neg (.str x) (.tup (ys.map .str)) = .ok (.bl (xor neg (decide (x ∈ ys)))) := by
  have e : inD neg (.str x) (.tup (ys.map .str)) = if flat (.str x) = true ∧ (ys.map D.str).all flat = true then .ok (.bl (xor neg ((ys.map D.str).any fun y => eqv y (.str x)))) else .bad := rfl
  rw [e, if_pos ⟨rfl, flat_strs ys⟩, eqvS_any]
@[simp] theorem tyN_str' (x : List Nat) : tyN (.str x) = some "str" := rfl
@[simp] theorem tyN_lst' (x : List D) : tyN (.lst x) = some "list" := rfl
theorem cutL_map {α β : Type} (f : α → β) (xs : List α) (lo hi : Option Int) : cutL (xs.map f) lo hi = (cutL xs lo hi).map f := by
  unfold cutL
  rw [List.length_map, List.map_take, List.map_drop]
end
end Z
namespace Z
noncomputable section
open PySem PySem.Spec PySem.P PyProof.Rows L2
/-! ### the windows of a ring and of a row -/
def cws (t : List Nat) (n : Nat) : List (List Nat) := (List.range t.length).map fun k => cyc t k n
def rws (t : List Nat) (n : Nat) : List (List Nat) := (List.range (t.length + 1 - n)).map fun k => (t.drop k).take n
@[simp] theorem cws_nil (n : Nat) : cws [] n = [] := rfl
theorem cws_count (t : List Nat) (n : Nat) : (cws t n).length = t.length := by simp [cws]
theorem rws_count (t : List Nat) (n : Nat) : (rws t n).length = t.length + 1 - n := by simp [rws]
theorem cws_get {t : List Nat} {n k : Nat} (h : k < t.length) : (cws t n)[k]? = some (cyc t k n) := by
  unfold cws
  rw [List.getElem?_map, List.getElem?_range h]
  rfl
theorem rws_get {t : List Nat} {n k : Nat} (h : k < t.length + 1 - n) : (rws t n)[k]? = some ((t.drop k).take n) := by
  unfold rws
  rw [List.getElem?_map, List.getElem?_range h]
  rfl
theorem mem_cws {t w : List Nat} {n : Nat} : w ∈ cws t n ↔ ∃ k, k < t.length ∧ w = cyc t k n := by
  unfold cws
  rw [List.mem_map]
  constructor
  · rintro ⟨k, hk, rfl⟩; exact ⟨k, List.mem_range.mp hk, rfl⟩
  · rintro ⟨k, hk, rfl⟩; exact ⟨k, List.mem_range.mpr hk, rfl⟩
theorem mem_rws {t w : List Nat} {n : Nat} : w ∈ rws t n ↔ ∃ k, k < t.length + 1 - n ∧ w = (t.drop k).take n := by
  unfold rws
  rw [List.mem_map]
  constructor
  · rintro ⟨k, hk, rfl⟩; exact ⟨k, List.mem_range.mp hk, rfl⟩
  · rintro ⟨k, hk, rfl⟩; exact ⟨k, List.mem_range.mpr hk, rfl⟩
theorem cws_len {t w : List Nat} {n : Nat} (h : w ∈ cws t n) : w.length = n := by
  obtain ⟨k, hk, rfl⟩ := mem_cws.mp h
  exact cyc_len t k n
theorem rws_len {t w : List Nat} {n : Nat} (h : w ∈ rws t n) : w.length = n := by
  obtain ⟨k, hk, rfl⟩ := mem_rws.mp h
  rw [List.length_take, List.length_drop]
  omega
theorem cyc_mem {t : List Nat} {k n c : Nat} (h0 : 0 < t.length) (h : c ∈ cyc t k n) : c ∈ t := by
  unfold cyc at h
  obtain ⟨j, hj, rfl⟩ := List.mem_map.mp h
  have hm : (k + j) % t.length < t.length := Nat.mod_lt _ h0
  rw [List.getD_eq_getElem?_getD, List.getElem?_eq_getElem hm]
  exact List.getElem_mem hm
theorem cws_mem {t w : List Nat} {n c : Nat} (h : w ∈ cws t n) (hc : c ∈ w) : c ∈ t := by
  obtain ⟨k, hk, rfl⟩ := mem_cws.mp h
  exact cyc_mem (by omega) hc
theorem rws_mem {t w : List Nat} {n c : Nat} (h : w ∈ rws t n) (hc : c ∈ w) : c ∈ t := by
  obtain ⟨k, hk, rfl⟩ := mem_rws.mp h
  exact List.mem_of_mem_drop (List.mem_of_mem_take hc)
theorem cws_rot {t : List Nat} {a n : Nat} (ha : a < t.length) : cws (rot t a) n = (cws t n).drop a ++ (cws t n).take a := by
  unfold cws
  rw [rot_len]
  exact rows_turn ha
theorem cws_perm {t : List Nat} {a n : Nat} (ha : a < t.length) : (cws (rot t a) n).Perm (cws t n) := by
  rw [cws_rot ha]
  refine List.perm_append_comm.trans ?_
  rw [List.take_append_drop]
theorem cws_sort {t : List Nat} {a n : Nat} (ha : a < t.length) : sortT (cws (rot t a) n) = sortT (cws t n) := sortT_of_perm (cws_perm ha)
/-- a text over the letters -/
def Txt (t : List Nat) : Prop := ∀ c ∈ t, 97 ≤ c ∧ c ≤ 102
theorem cws_wds {t : List Nat} {n : Nat} (h : Txt t) (h1 : 1 ≤ n) (h8 : n ≤ 8) (hn : (cws t n).Nodup) : Wds (cws t n) n :=
  ⟨h1, h8, fun w hw => cws_len hw, fun w hw c hc => h c (cws_mem hw hc), hn⟩
theorem rws_wds {t : List Nat} {n : Nat} (h : Txt t) (h1 : 1 ≤ n) (h8 : n ≤ 8) (hn : (rws t n).Nodup) : Wds (rws t n) n :=
  ⟨h1, h8, fun w hw => rws_len hw, fun w hw c hc => h c (rws_mem hw hc), hn⟩
@[simp] theorem eDic0_t (s : SS) : eDic0 s = .ok (dicT []) := rfl
theorem ixD_dic (l : List (List Nat × D)) (x : List Nat) : ixD (dicT l) (.str x) = match lookA l x with | some d => .ok d | none => .bad := by
  unfold dicT
  show (match keyD (.str x) with
    | some k => (match look (l.map fun p : List Nat × D => kS p.1) (l.map fun p : List Nat × D => p.2) k with
      | some d => R.ok d
      | none => .bad)
    | none => .bad) = _
  rw [keyD_str]
  dsimp only
  rw [look_dic]
theorem putA_new : ∀ {l : List (List Nat × D)} {x : List Nat} {d : D}, x ∉ l.map (·.1) → putA l x d = l ++ [(x, d)]
  | [], x, d, h => rfl
  | p :: r, x, d, h => by
    rw [List.map_cons, List.mem_cons, not_or] at h
    unfold putA
    rw [if_neg (fun e => h.1 e.symm), putA_new h.2]
    rfl
/-- a dict whose keys are walked once each -/
theorem lookA_nodup {l : List (List Nat × D)} {x : List Nat} {d : D} (hn : (l.map (·.1)).Nodup) (h : (x, d) ∈ l) : lookA l x = some d := by
  induction l with
  | nil => cases h
  | cons p r ih =>
    rw [List.map_cons, List.nodup_cons] at hn
    unfold lookA
    rcases List.mem_cons.mp h with rfl | h
    · simp
    · have hne : ¬ p.1 = x := fun e => hn.1 (by rw [e]; exact List.mem_map_of_mem (f := (·.1)) h)
      have := ih hn.2 h
      unfold lookA at this
      simpa [hne] using this
@[simp] theorem isN_tb (a b : Bool) : isN true (.bl a) (.bl b) = .ok (.bl (!decide (a = b))) := by
  cases a <;> cases b <;> rfl
@[simp] theorem isN_fb (a b : Bool) : isN false (.bl a) (.bl b) = .ok (.bl (decide (a = b))) := by
  cases a <;> cases b <;> rfl
theorem nd_inj {α : Type} {l : List α} (h : l.Nodup) {i j : Nat} {x : α} (h1 : l[i]? = some x) (h2 : l[j]? = some x) : i = j := by
  obtain ⟨a, e1⟩ := List.getElem?_eq_some_iff.mp h1
  obtain ⟨b, e2⟩ := List.getElem?_eq_some_iff.mp h2
  have p := List.pairwise_iff_getElem.mp h
  rcases Nat.lt_trichotomy i j with q | q | q
  · exact absurd (e1.trans e2.symm) (p i j a b q)
  · exact q
  · exact absurd (e2.trans e1.symm) (p j i b a q)
/-- the first and the second place of two alike ones -/
def Twice (ys : List (List Nat)) (d : D) : Prop := (d = .non ∧ ys.Nodup) ∨ ∃ i j : Nat, d = .tup [.int i, .int j] ∧ i < j ∧ j < ys.length ∧ ys[i]? = ys[j]?
end
end Z
namespace Z
noncomputable section
open PySem PySem.Spec PySem.P PyProof.Rows L2
/-! ### rows that close -/
theorem close_get {t : List Nat} {m n : Nat} (hl : t.length = m + n) (hm : 1 ≤ m) (h : t.drop m = t.take n) : ∀ i, i < m + n → t[i]? = t[i % m]? := by
  intro i
  induction i using Nat.strongRecOn with
  | ind i ih =>
    intro hi
    by_cases hlt : i < m
    · rw [Nat.mod_eq_of_lt hlt]
    · have h1 : t[i]? = (t.drop m)[i - m]? := by rw [List.getElem?_drop]; congr 1; omega
      rw [h1, h, List.getElem?_take, if_pos (by omega), ih (i - m) (by omega) (by omega), Nat.mod_eq_sub_mod (a := i) (b := m) (by omega)]
theorem close_ring {t : List Nat} {m n : Nat} (hl : t.length = m + n - 1) (hm : 1 ≤ m) (hn : 1 ≤ n) (h : t.drop m = t.take (n - 1)) : cws (t.take m) n = rws t n := by
  have hg := close_get (n := n - 1) (by omega) hm h
  have htl : (t.take m).length = m := by simp; omega
  apply List.ext_getElem?
  intro k
  by_cases hk : k < m
  · rw [cws_get (by omega), rws_get (by omega)]
    congr 1
    apply List.ext_getElem?
    intro j
    by_cases hj : j < n
    · have hmod : (k + j) % m < m := Nat.mod_lt _ (by omega)
      rw [cyc_get hj, List.getElem?_take, if_pos hj, List.getElem?_drop, hg (k + j) (by omega), htl, List.getD_eq_getElem?_getD, List.getElem?_take, if_pos hmod, List.getElem?_eq_getElem (by omega)]
      rfl
    · rw [List.getElem?_eq_none (by rw [cyc_len]; omega), List.getElem?_eq_none (by simp; omega)]
  · rw [List.getElem?_eq_none (by rw [cws_count]; omega), List.getElem?_eq_none (by rw [rws_count]; omega)]
/-- going on round -/
theorem cyc_full {t : List Nat} : cyc t 0 t.length = t := by
  refine cyc_ext fun j hj => ?_
  rw [Nat.zero_add, Nat.mod_eq_of_lt hj]
theorem cyc_snoc {t : List Nat} {p k : Nat} (h0 : 0 < t.length) : cyc t p (k + 1) = cyc t p k ++ [t.getD ((p + k) % t.length) 0] := by
  unfold cyc
  rw [List.range_succ, List.map_append]
  rfl
theorem cyc_rot0 {t : List Nat} {a n : Nat} (ha : a < t.length) : cyc (rot t a) 0 n = cyc t a n := by
  rw [cyc_rot ha, Nat.add_zero, Nat.mod_eq_of_lt ha]
theorem cyc_closes {t : List Nat} {p n : Nat} (hp : p < t.length) (hn : 1 ≤ n) : (cyc t p (t.length + n - 1)).take t.length = rot t p ∧ (cyc t p (t.length + n - 1)).drop t.length = (cyc t p (t.length + n - 1)).take (n - 1) := by
  have hl : (cyc t p (t.length + n - 1)).length = t.length + n - 1 := cyc_len _ _ _
  constructor
  · apply List.ext_getElem?
    intro j
    by_cases hj : j < t.length
    · have hmod : (p + j) % t.length < t.length := Nat.mod_lt _ (by omega)
      rw [List.getElem?_take, if_pos hj, cyc_get (by omega), rot_get t p j (by omega) hj, Nat.add_comm j p, List.getD_eq_getElem?_getD, List.getElem?_eq_getElem hmod]
      rfl
    · rw [List.getElem?_eq_none (by simp; omega), List.getElem?_eq_none (by rw [rot_len]; omega)]
  · apply List.ext_getElem?
    intro j
    by_cases hj : j < n - 1
    · rw [List.getElem?_drop, cyc_get (by omega), List.getElem?_take, if_pos hj, cyc_get (by omega)]
      congr 2
      rw [show p + (t.length + j) = p + j + t.length by omega, Nat.add_mod_right]
    · rw [List.getElem?_eq_none (by simp [cyc_len]; omega), List.getElem?_eq_none (by simp; omega)]
theorem cyc_rows {t : List Nat} {p n : Nat} (hp : p < t.length) (hn : 1 ≤ n) : rws (cyc t p (t.length + n - 1)) n = cws (rot t p) n := by
  obtain ⟨h1, h2⟩ := cyc_closes hp hn
  have := close_ring (t := cyc t p (t.length + n - 1)) (m := t.length) (n := n) (by rw [cyc_len]) (by omega) hn h2
  rw [← this, h1]
/-- one turn only begins so -/
theorem turn_one {t : List Nat} {n i j : Nat} (hnd : (cws t n).Nodup) (hi : i < t.length) (hj : j < t.length) (h : cyc t i n = cyc t j n) : i = j :=
  nd_inj hnd (cws_get hi) ((cws_get hj).trans (by rw [h]))
/-! a ring among turns -/
def isRingB (ws : List (List Nat)) (n : Nat) (t : List Nat) : Bool := decide (sortT (cws t n) = ws) && decide (cyc t 0 n = ws.headD [])
theorem cws_head {ws : List (List Nat)} {n : Nat} {t : List Nat} (h0 : ws ≠ []) (h : sortT (cws t n) = ws) : 0 < t.length := by
  have := sortT_len (cws t n)
  rw [h, cws_count] at this
  have hp := List.length_pos_iff.mpr h0
  omega
def ringAt (ws : List (List Nat)) (n : Nat) (t : List Nat) : Nat := (cws t n).findIdx (· == ws.headD [])
theorem ringAt_lt {ws : List (List Nat)} {n : Nat} {t : List Nat} (h0 : ws ≠ []) (h : sortT (cws t n) = ws) : ringAt ws n t < t.length ∧ cyc t (ringAt ws n t) n = ws.headD [] := by
  have hm : ws.headD [] ∈ cws t n := by
    rw [← sortT_mem, h]
    cases ws with
    | nil => exact absurd rfl h0
    | cons w r => exact List.mem_cons_self
  have hlt : ringAt ws n t < (cws t n).length := List.findIdx_lt_length_of_exists ⟨_, hm, by simp⟩
  have hg : ((cws t n)[ringAt ws n t]'hlt == ws.headD []) = true := List.findIdx_getElem (w := hlt)
  rw [cws_count] at hlt
  refine ⟨hlt, ?_⟩
  have := cws_get (n := n) hlt
  obtain ⟨_, e⟩ := List.getElem?_eq_some_iff.mp this
  rw [e] at hg
  simpa using hg
end
end Z
namespace Z
noncomputable section
open PySem PySem.Spec PySem.P PyProof.Rows L2
/-! ### pieces of webs, what leads where, what hangs together -/
def pcs (ws : List (List Nat)) : List (List Nat) := sortT (dedT (ws.map List.dropLast ++ ws.map List.tail))
theorem mem_pcs {ws : List (List Nat)} {p : List Nat} : p ∈ pcs ws ↔ ∃ w ∈ ws, w.dropLast = p ∨ w.tail = p := by
  unfold pcs
  rw [sortT_mem, dedT_mem, List.mem_append, List.mem_map, List.mem_map]
  constructor
  · rintro (⟨w, h, e⟩ | ⟨w, h, e⟩)
    · exact ⟨w, h, .inl e⟩
    · exact ⟨w, h, .inr e⟩
  · rintro ⟨w, h, e | e⟩
    · exact .inl ⟨w, h, e⟩
    · exact .inr ⟨w, h, e⟩
theorem pcs_asc (ws : List (List Nat)) : (pcs ws).Pairwise (· < ·) := sortT_asc (dedT_nodup _)
theorem pcs_perm {us vs : List (List Nat)} (h : us.Perm vs) : pcs us = pcs vs := asc_ext (pcs_asc _) (pcs_asc _) fun p => by
  rw [mem_pcs, mem_pcs]
  exact ⟨fun ⟨w, a, b⟩ => ⟨w, h.mem_iff.mp a, b⟩, fun ⟨w, a, b⟩ => ⟨w, h.mem_iff.mpr a, b⟩⟩
theorem pcs_count (ws : List (List Nat)) : (pcs ws).length ≤ 2 * ws.length := by
  unfold pcs
  rw [sortT_len]
  have := dedT_le (ws.map List.dropLast ++ ws.map List.tail)
  simp at this
  omega
theorem pcs_of {ws xs : List (List Nat)} (h : ∀ x, x ∈ xs ↔ ∃ w ∈ ws, w.dropLast = x ∨ w.tail = x) (hn : xs.Nodup) : sortT xs = pcs ws :=
  asc_ext (sortT_asc hn) (pcs_asc ws) fun p => by rw [sortT_mem, h, mem_pcs]
theorem pcs_ne {ws : List (List Nat)} (h : ws ≠ []) : pcs ws ≠ [] := fun e => by
  obtain ⟨w, hw⟩ := List.exists_mem_of_ne_nil ws h
  have : w.dropLast ∈ pcs ws := mem_pcs.mpr ⟨w, hw, .inl rfl⟩
  rw [e] at this
  cases this
def ows (ws : List (List Nat)) (p : List Nat) : List (List Nat) := ws.filter fun w => decide (w.dropLast = p)
def iws (ws : List (List Nat)) (p : List Nat) : List (List Nat) := ws.filter fun w => decide (w.tail = p)
theorem mem_ows {ws : List (List Nat)} {p w : List Nat} : w ∈ ows ws p ↔ w ∈ ws ∧ w.dropLast = p := by simp [ows]
theorem mem_iws {ws : List (List Nat)} {p w : List Nat} : w ∈ iws ws p ↔ w ∈ ws ∧ w.tail = p := by simp [iws]
def exc (ws : List (List Nat)) (p : List Nat) : Int := (ows ws p).length - (iws ws p).length
theorem exc_perm {us vs : List (List Nat)} (h : us.Perm vs) (p : List Nat) : exc us p = exc vs p := by
  unfold exc ows iws
  rw [(h.filter _).length_eq, (h.filter _).length_eq]
theorem exc_no {ws : List (List Nat)} {p : List Nat} (h : p ∉ pcs ws) : exc ws p = 0 := by
  have h1 : ows ws p = [] := by
    unfold ows
    rw [List.filter_eq_nil_iff]
    intro w hw e
    exact h (mem_pcs.mpr ⟨w, hw, .inl (by simpa using e)⟩)
  have h2 : iws ws p = [] := by
    unfold iws
    rw [List.filter_eq_nil_iff]
    intro w hw e
    exact h (mem_pcs.mpr ⟨w, hw, .inr (by simpa using e)⟩)
  unfold exc
  rw [h1, h2]
  rfl
def excS (ws S : List (List Nat)) : Int := (S.map (exc ws)).sum
def adj (ws : List (List Nat)) (p : List Nat) : List (List Nat) := (ows ws p).map List.tail ++ (iws ws p).map List.dropLast
theorem mem_adj {ws : List (List Nat)} {p q : List Nat} : q ∈ adj ws p ↔ ∃ w ∈ ws, (w.dropLast = p ∧ w.tail = q) ∨ (w.tail = p ∧ w.dropLast = q) := by
  unfold adj
  rw [List.mem_append, List.mem_map, List.mem_map]
  constructor
  · rintro (⟨w, h, e⟩ | ⟨w, h, e⟩)
    · exact ⟨w, (mem_ows.mp h).1, .inl ⟨(mem_ows.mp h).2, e⟩⟩
    · exact ⟨w, (mem_iws.mp h).1, .inr ⟨(mem_iws.mp h).2, e⟩⟩
  · rintro ⟨w, h, ⟨e, f⟩ | ⟨e, f⟩⟩
    · exact .inl ⟨w, mem_ows.mpr ⟨h, e⟩, f⟩
    · exact .inr ⟨w, mem_iws.mpr ⟨h, e⟩, f⟩
theorem adj_pcs {ws : List (List Nat)} {p q : List Nat} (h : q ∈ adj ws p) : q ∈ pcs ws := by
  obtain ⟨w, hw, ⟨_, e⟩ | ⟨_, e⟩⟩ := mem_adj.mp h
  · exact mem_pcs.mpr ⟨w, hw, .inr e⟩
  · exact mem_pcs.mpr ⟨w, hw, .inl e⟩
theorem adj_symm {ws : List (List Nat)} {p q : List Nat} (h : q ∈ adj ws p) : p ∈ adj ws q := by
  obtain ⟨w, hw, ⟨e, f⟩ | ⟨e, f⟩⟩ := mem_adj.mp h
  · exact mem_adj.mpr ⟨w, hw, .inr ⟨f, e⟩⟩
  · exact mem_adj.mpr ⟨w, hw, .inl ⟨f, e⟩⟩
theorem adj_perm {us vs : List (List Nat)} (h : us.Perm vs) {p q : List Nat} : q ∈ adj us p ↔ q ∈ adj vs p := by
  rw [mem_adj, mem_adj]
  exact ⟨fun ⟨w, a, b⟩ => ⟨w, h.mem_iff.mp a, b⟩, fun ⟨w, a, b⟩ => ⟨w, h.mem_iff.mpr a, b⟩⟩
inductive Rch (ws : List (List Nat)) (p : List Nat) : List Nat → Prop where
  | here : Rch ws p p
  | step {q r : List Nat} : Rch ws p q → r ∈ adj ws q → Rch ws p r
theorem Rch.pcs {ws : List (List Nat)} {p q : List Nat} (hp : p ∈ pcs ws) (h : Rch ws p q) : q ∈ pcs ws := by
  cases h with
  | here => exact hp
  | step _ a => exact adj_pcs a
theorem Rch.trans {ws : List (List Nat)} {p q r : List Nat} (h : Rch ws p q) (k : Rch ws q r) : Rch ws p r := by
  induction k with
  | here => exact h
  | step _ a ih => exact .step ih a
theorem Rch.symm {ws : List (List Nat)} {p q : List Nat} (h : Rch ws p q) : Rch ws q p := by
  induction h with
  | here => exact .here
  | step _ a ih => exact (Rch.step .here (adj_symm a)).trans ih
theorem Rch.perm {us vs : List (List Nat)} (h : us.Perm vs) {p q : List Nat} (k : Rch us p q) : Rch vs p q := by
  induction k with
  | here => exact .here
  | step _ a ih => exact .step ih ((adj_perm h).mp a)
/-- what is closed holds all -/
theorem Rch.closed {ws ms : List (List Nat)} {p q : List Nat} (h : Rch ws p q) (hp : p ∈ ms) (hc : ∀ m ∈ ms, ∀ r ∈ adj ws m, r ∈ ms) : q ∈ ms := by
  induction h with
  | here => exact hp
  | step _ a ih => exact hc _ ih _ a
def comp (ws : List (List Nat)) (p : List Nat) : List (List Nat) := by
  classical exact (pcs ws).filter fun q => decide (Rch ws p q)
theorem mem_comp {ws : List (List Nat)} {p q : List Nat} : q ∈ comp ws p ↔ q ∈ pcs ws ∧ Rch ws p q := by
  unfold comp
  simp
theorem comp_asc (ws : List (List Nat)) (p : List Nat) : (comp ws p).Pairwise (· < ·) := (pcs_asc ws).sublist (List.filter_sublist)
theorem comp_perm {us vs : List (List Nat)} (h : us.Perm vs) (p : List Nat) : comp us p = comp vs p := asc_ext (comp_asc _ _) (comp_asc _ _) fun q => by
  rw [mem_comp, mem_comp, pcs_perm h]
  exact ⟨fun ⟨a, b⟩ => ⟨a, b.perm h⟩, fun ⟨a, b⟩ => ⟨a, b.perm h.symm⟩⟩
theorem comp_of {ws ms : List (List Nat)} {p : List Nat} (hp : p ∈ pcs ws) (hm : p ∈ ms) (hr : ∀ m ∈ ms, Rch ws p m) (hc : ∀ m ∈ ms, ∀ r ∈ adj ws m, r ∈ ms) : sortT (dedT ms) = comp ws p :=
  asc_ext (sortT_asc (dedT_nodup _)) (comp_asc _ _) fun q => by
    rw [sortT_mem, dedT_mem, mem_comp]
    exact ⟨fun h => ⟨(hr q h).pcs hp, hr q h⟩, fun h => h.2.closed hm hc⟩
theorem comp_le (ws : List (List Nat)) (p : List Nat) : (comp ws p).length ≤ (pcs ws).length := by
  unfold comp
  exact List.length_filter_le _ _
theorem comp_all {ws : List (List Nat)} {p : List Nat} (h : (comp ws p).length = (pcs ws).length) : comp ws p = pcs ws := by
  unfold comp at h ⊢
  exact (List.filter_sublist).eq_of_length h
end
end Z
namespace Z
noncomputable section
open PySem PySem.Spec PySem.P PyProof.Rows L2
/-! ### sets as dicts -/
def setP (ms : List (List Nat)) : List (List Nat × D) := ms.map fun x => (x, D.bl true)
def ins1 (ms : List (List Nat)) (x : List Nat) : List (List Nat) := if x ∈ ms then ms else ms ++ [x]
theorem setP_keys (ms : List (List Nat)) : (setP ms).map (·.1) = ms := by
  unfold setP
  rw [List.map_map]
  exact List.map_id' ms
theorem setP_len (ms : List (List Nat)) : (setP ms).length = ms.length := by simp [setP]
theorem putA_set : ∀ (ms : List (List Nat)) (x : List Nat), putA (setP ms) x (.bl true) = setP (ins1 ms x)
  | [], x => by simp [setP, ins1, putA]
  | m :: ms, x => by
    have ih := putA_set ms x
    unfold setP ins1 at ih ⊢
    rw [List.map_cons]
    unfold putA
    by_cases h : m = x
    · subst h
      simp
    · have h' : ¬ x = m := fun e => h e.symm
      rw [if_neg h, ih]
      by_cases h2 : x ∈ ms
      · simp [h2]
      · simp [h2, h']
theorem ins1_nodup {ms : List (List Nat)} {x : List Nat} (h : ms.Nodup) : (ins1 ms x).Nodup := by
  unfold ins1
  split
  · exact h
  · rename_i hx
    exact List.nodup_append.mpr ⟨h, by simp, fun a h1 b h2 => by
      rw [List.mem_singleton.mp h2]
      rintro rfl
      exact hx h1⟩
theorem mem_ins1 {ms : List (List Nat)} {x y : List Nat} : y ∈ ins1 ms x ↔ y ∈ ms ∨ y = x := by
  unfold ins1
  split
  · rename_i hx
    exact ⟨.inl, fun h => h.elim id fun e => e ▸ hx⟩
  · simp
theorem ins1_len (ms : List (List Nat)) (x : List Nat) : (ins1 ms x).length ≤ ms.length + 1 := by
  unfold ins1
  split <;> simp
theorem okS_abc {x : List Nat} (h : ∀ c ∈ x, 97 ≤ c ∧ c ≤ 102) : okS x = true := by
  unfold okS
  rw [List.all_eq_true]
  intro c hc
  have := h c hc
  simp
  omega
theorem nodup_le {l m : List (List Nat)} (h : l.Nodup) (hs : ∀ x ∈ l, x ∈ m) : l.length ≤ m.length := nodup_len h hs
theorem tail_abc {w : List Nat} (h : ∀ c ∈ w, 97 ≤ c ∧ c ≤ 102) : ∀ c ∈ w.tail, 97 ≤ c ∧ c ≤ 102 := fun c hc => h c (List.mem_of_mem_tail hc)
theorem dropLast_abc {w : List Nat} (h : ∀ c ∈ w, 97 ≤ c ∧ c ≤ 102) : ∀ c ∈ w.dropLast, 97 ≤ c ∧ c ≤ 102 := fun c hc => h c (List.dropLast_subset w hc)
theorem pcs_abc {ws : List (List Nat)} (h : ∀ w ∈ ws, ∀ c ∈ w, 97 ≤ c ∧ c ≤ 102) {p : List Nat} (hp : p ∈ pcs ws) : ∀ c ∈ p, 97 ≤ c ∧ c ≤ 102 := by
  obtain ⟨w, hw, rfl | rfl⟩ := mem_pcs.mp hp
  · exact dropLast_abc (h w hw)
  · exact tail_abc (h w hw)
theorem pcs_len {ws : List (List Nat)} {n : Nat} (h : ∀ w ∈ ws, w.length = n) {p : List Nat} (hp : p ∈ pcs ws) : p.length = n - 1 := by
  obtain ⟨w, hw, rfl | rfl⟩ := mem_pcs.mp hp
  · rw [List.length_dropLast, h w hw]
  · rw [List.length_tail, h w hw]
def rPop (s : SS) (i j : Nat) : Option (List D) → RS
  | some xs => (match xs.getLast? with
    | some d => optS (setS (s.set i (.ow (.lst xs.dropLast))) j (.sh d))
    | none => .bad)
  | none => .bad
@[simp] theorem sPop_s (s : SS) (i j : Nat) : sPop i j s = rPop s i j (getOw s[i]?) := by
  unfold sPop rPop
  rw [owL_s]
  all_goals (cases getOw s[i]? <;> rfl)
theorem rPop_app (s : SS) (i j : Nat) (xs : List (List Nat)) (x : List Nat) : rPop s i j (some (xs.map .str ++ [.str x])) = optS (setS (s.set i (.ow (.lst (xs.map .str)))) j (.sh (.str x))) := by
  unfold rPop
  simp
/-! ### papers -/
def sUneven : List Nat := [117, 110, 101, 118, 101, 110]
def sApart : List Nat := [97, 112, 97, 114, 116]
def paperD (k : List Nat) (S : List (List Nat)) : D := .tup [.str k, .tup (S.map .str)]
def apartD (ws : List (List Nat)) : D := if (comp ws ((pcs ws).headD [])).length < (pcs ws).length then paperD sApart (comp ws ((pcs ws).headD [])) else .non
def ringD (ws : List (List Nat)) : D := match (pcs ws).find? fun p => decide (exc ws p ≠ 0) with
  | some p => paperD sUneven [p]
  | none => apartD ws
theorem sum_filter_le {α : Type} (l : List α) (p : α → Bool) : (l.filter p).length ≤ l.length := List.length_filter_le p l
end
end Z
namespace Z
noncomputable section
open PySem PySem.Spec PySem.P PyProof.Rows L2
/-! ### texts to whole numbers as dicts -/
def mapP (ks : List (List Nat)) (f : List Nat → Int) : List (List Nat × D) := ks.map fun x => (x, D.int (f x))
theorem mapP_keys (ks : List (List Nat)) (f : List Nat → Int) : (mapP ks f).map (·.1) = ks := by
  unfold mapP
  rw [List.map_map]
  exact List.map_id' ks
theorem mapP_len (ks : List (List Nat)) (f : List Nat → Int) : (mapP ks f).length = ks.length := by simp [mapP]
theorem lookA_map (ks : List (List Nat)) (f : List Nat → Int) (y : List Nat) : lookA (mapP ks f) y = if y ∈ ks then some (.int (f y)) else none := by
  induction ks with
  | nil => rfl
  | cons k ks ih =>
    unfold mapP lookA at ih ⊢
    rw [List.map_cons]
    by_cases h : k = y
    · subst h
      simp
    · have h' : ¬ y = k := fun e => h e.symm
      simp only [List.find?_cons, h, decide_false, List.mem_cons, h', false_or]
      exact ih
theorem mapP_congr {ks : List (List Nat)} {f g : List Nat → Int} (h : ∀ x ∈ ks, f x = g x) : mapP ks f = mapP ks g := by
  unfold mapP
  exact List.map_congr_left fun x hx => by rw [h x hx]
theorem putA_map : ∀ {ks : List (List Nat)} (f : List Nat → Int) (y : List Nat) (v : Int), ks.Nodup → putA (mapP ks f) y (.int v) = mapP (ins1 ks y) (fun x => if x = y then v else f x)
  | [], f, y, v, _ => by simp [mapP, ins1, putA]
  | k :: ks, f, y, v, h => by
    rw [List.nodup_cons] at h
    have ih := putA_map f y v h.2
    unfold mapP ins1 at ih ⊢
    rw [List.map_cons]
    unfold putA
    by_cases e : k = y
    · subst e
      rw [if_pos rfl, if_pos List.mem_cons_self, List.map_cons]
      dsimp only
      rw [if_pos rfl]
      congr 1
      exact List.map_congr_left fun x hx => by
        have hne : ¬ x = k := fun z => h.1 (z ▸ hx)
        rw [if_neg hne]
    · have e' : ¬ y = k := fun z => e z.symm
      rw [if_neg e, ih]
      by_cases h2 : y ∈ ks
      · rw [if_pos h2, if_pos (List.mem_cons_of_mem _ h2), List.map_cons]
        dsimp only
        rw [if_neg e]
      · rw [if_neg h2, if_neg (by rw [List.mem_cons]; exact fun z => z.elim e' h2), List.cons_append, List.map_cons]
        dsimp only
        rw [if_neg e]
theorem exc_snoc (us : List (List Nat)) (w x : List Nat) : exc (us ++ [w]) x = exc us x + (if w.dropLast = x then 1 else 0) - (if w.tail = x then 1 else 0) := by
  unfold exc ows iws
  rw [List.filter_append, List.filter_append]
  by_cases h1 : w.dropLast = x <;> by_cases h2 : w.tail = x <;> simp [h1, h2] <;> omega
/-! words gone either way -/
theorem ded_grow {ms : List (List Nat)} {b e : List Nat} (h : b ∉ ms ∨ e ∉ ms) : (dedT ms).length + 1 ≤ (dedT (ms ++ [b, e])).length := by
  rcases h with h | h
  · have := nodup_le (l := b :: dedT ms) (m := dedT (ms ++ [b, e])) (List.nodup_cons.mpr ⟨fun z => h (dedT_mem.mp z), dedT_nodup ms⟩) (fun x hx => by
      rw [dedT_mem]
      rcases List.mem_cons.mp hx with rfl | hx
      · simp
      · exact List.mem_append_left _ (dedT_mem.mp hx))
    simpa using this
  · have := nodup_le (l := e :: dedT ms) (m := dedT (ms ++ [b, e])) (List.nodup_cons.mpr ⟨fun z => h (dedT_mem.mp z), dedT_nodup ms⟩) (fun x hx => by
      rw [dedT_mem]
      rcases List.mem_cons.mp hx with rfl | hx
      · simp
      · exact List.mem_append_left _ (dedT_mem.mp hx))
    simpa using this
theorem closed_of {ws ms : List (List Nat)} (h : ∀ w ∈ ws, (w.dropLast ∈ ms ↔ w.tail ∈ ms)) : ∀ m ∈ ms, ∀ r ∈ adj ws m, r ∈ ms := fun m hm r hr => by
  obtain ⟨w, hw, ⟨e, f⟩ | ⟨e, f⟩⟩ := mem_adj.mp hr
  · exact f ▸ (h w hw).mp (e ▸ hm)
  · exact f ▸ (h w hw).mpr (e ▸ hm)
theorem apartD_alt (ws : List (List Nat)) : apartD ws = if comp ws ((pcs ws).headD []) = pcs ws then .non else paperD sApart (comp ws ((pcs ws).headD [])) := by
  unfold apartD
  have hl := comp_le ws ((pcs ws).headD [])
  by_cases c : comp ws ((pcs ws).headD []) = pcs ws
  · rw [if_pos c, if_neg (by rw [c]; omega)]
  · rw [if_neg c, if_pos]
    have : (comp ws ((pcs ws).headD [])).length ≠ (pcs ws).length := fun e => c (comp_all e)
    omega
theorem apartD_perm {us vs : List (List Nat)} (h : us.Perm vs) : apartD us = apartD vs := by
  unfold apartD
  rw [pcs_perm h, comp_perm h]
theorem ringD_perm {us vs : List (List Nat)} (h : us.Perm vs) : ringD us = ringD vs := by
  unfold ringD
  rw [pcs_perm h, apartD_perm h]
  have : (fun p => decide (exc us p ≠ 0)) = fun p => decide (exc vs p ≠ 0) := funext fun p => by rw [exc_perm h]
  rw [this]
theorem find_split {α : Type} {l : List α} {p : α → Bool} {i : Nat} {x : α} (hi : l[i]? = some x) (hx : p x = true) (hn : ∀ y ∈ l.take i, p y = false) : l.find? p = some x := by
  have hil : i < l.length := (List.getElem?_eq_some_iff.mp hi).1
  have hsplit : l = l.take i ++ x :: l.drop (i + 1) := by
    conv => lhs; rw [← List.take_append_drop i l]
    rw [List.drop_eq_getElem_cons hil, (List.getElem?_eq_some_iff.mp hi).2]
  rw [hsplit, List.find?_append, List.find?_eq_none.mpr (fun q hq => by rw [hn q hq]; exact Bool.false_ne_true)]
  simp [hx]
end
end Z
namespace Z
noncomputable section
open PySem PySem.Spec PySem.P PyProof.Rows L2
/-! ### papers looked at -/
def Right (ws S : List (List Nat)) : Prop := S ≠ [] ∧ (∀ x ∈ S, x ∈ pcs ws) ∧ S.Pairwise (· < ·)
def Apart (ws S : List (List Nat)) : Prop := (∀ w ∈ ws, (w.dropLast ∈ S ↔ w.tail ∈ S)) ∧ S.length < (pcs ws).length
def NoRingP (ws : List (List Nat)) (k : List Nat) (S : List (List Nat)) : Prop := Right ws S ∧ ((k = sUneven ∧ excS ws S ≠ 0) ∨ (k = sApart ∧ Apart ws S))
def NoRowP (ws : List (List Nat)) (k : List Nat) (S : List (List Nat)) : Prop := Right ws S ∧ ((k = sUneven ∧ 1 < (excS ws S).natAbs) ∨ (k = sApart ∧ Apart ws S))
theorem asc_chain {S : List (List Nat)} (h : ∀ i a b, S[i]? = some a → S[i + 1]? = some b → a < b) : S.Pairwise (· < ·) := by
  refine List.pairwise_iff_getElem.mpr fun i j hi hj hij => ?_
  induction j with
  | zero => omega
  | succ j ih =>
    have h1 := h j _ _ (List.getElem?_eq_getElem (by omega)) (List.getElem?_eq_getElem hj)
    by_cases e : i = j
    · subst e; exact h1
    · exact List.lt_trans (ih (by omega) (by omega)) h1
theorem excS_perm {us vs : List (List Nat)} (h : us.Perm vs) (S : List (List Nat)) : excS us S = excS vs S := by
  unfold excS
  have : exc us = exc vs := funext fun p => exc_perm h p
  rw [this]
theorem comp_right {ws : List (List Nat)} {p : List Nat} (hp : p ∈ pcs ws) : Right ws (comp ws p) :=
  ⟨fun e => (by
    have : p ∈ comp ws p := mem_comp.mpr ⟨hp, .here⟩
    rw [e] at this
    cases this), fun x hx => (mem_comp.mp hx).1, comp_asc ws p⟩
theorem comp_words {ws : List (List Nat)} {p : List Nat} : ∀ w ∈ ws, (w.dropLast ∈ comp ws p ↔ w.tail ∈ comp ws p) := fun w hw => by
  rw [mem_comp, mem_comp]
  have h1 : w.dropLast ∈ pcs ws := mem_pcs.mpr ⟨w, hw, .inl rfl⟩
  have h2 : w.tail ∈ pcs ws := mem_pcs.mpr ⟨w, hw, .inr rfl⟩
  exact ⟨fun h => ⟨h2, .step h.2 (mem_adj.mpr ⟨w, hw, .inl ⟨rfl, rfl⟩⟩)⟩, fun h => ⟨h1, .step h.2 (mem_adj.mpr ⟨w, hw, .inr ⟨rfl, rfl⟩⟩)⟩⟩
/-- the paper that is told is right -/
theorem ringD_shows {ws : List (List Nat)} (h0 : ws ≠ []) : ringD ws = .non ∨ ∃ k S, ringD ws = paperD k S ∧ NoRingP ws k S := by
  unfold ringD
  cases e : (pcs ws).find? fun p => decide (exc ws p ≠ 0) with
  | some p =>
    have hp := List.mem_of_find?_eq_some e
    have hx : exc ws p ≠ 0 := by simpa using List.find?_some e
    exact .inr ⟨_, [p], rfl, ⟨by simp, by simpa using hp, by simp⟩, .inl ⟨rfl, by simpa [excS] using hx⟩⟩
  | none =>
    dsimp only
    unfold apartD
    by_cases c : (comp ws ((pcs ws).headD [])).length < (pcs ws).length
    · rw [if_pos c]
      have hp : (pcs ws).headD [] ∈ pcs ws := by
        cases e : pcs ws with
        | nil => exact absurd e (pcs_ne h0)
        | cons p r => exact List.mem_cons_self
      exact .inr ⟨_, _, rfl, comp_right hp, .inr ⟨rfl, comp_words, c⟩⟩
    · rw [if_neg c]
      exact .inl rfl
/-- a web without a paper: each piece even, all hang together -/
theorem ringD_non {ws : List (List Nat)} (h : ringD ws = .non) : (∀ p, exc ws p = 0) ∧ comp ws ((pcs ws).headD []) = pcs ws := by
  unfold ringD at h
  cases e : (pcs ws).find? fun p => decide (exc ws p ≠ 0) with
  | some p => rw [e] at h; cases h
  | none =>
    rw [e] at h
    dsimp only at h
    have hz := List.find?_eq_none.mp e
    refine ⟨fun p => ?_, ?_⟩
    · by_cases c : p ∈ pcs ws
      · simpa using hz p c
      · exact exc_no c
    · rw [apartD_alt] at h
      by_cases c : comp ws ((pcs ws).headD []) = pcs ws
      · exact c
      · rw [if_neg c] at h; cases h
theorem ringD_of {ws : List (List Nat)} (h1 : ∀ p, exc ws p = 0) (h2 : ∀ p ∈ pcs ws, ∀ q ∈ pcs ws, Rch ws p q) (h0 : ws ≠ []) : ringD ws = .non := by
  unfold ringD
  have e : (pcs ws).find? (fun p => decide (exc ws p ≠ 0)) = none := List.find?_eq_none.mpr fun p hp => by simp [h1 p]
  rw [e]
  dsimp only
  rw [apartD_alt, if_pos]
  have hp : (pcs ws).headD [] ∈ pcs ws := by
    cases e : pcs ws with
    | nil => exact absurd e (pcs_ne h0)
    | cons p r => exact List.mem_cons_self
  exact asc_ext (comp_asc _ _) (pcs_asc _) fun q => by
    rw [mem_comp]
    exact ⟨fun h => h.1, fun h => ⟨h, h2 _ hp q h⟩⟩
end
end Z
namespace Z
noncomputable section
open PySem PySem.Spec PySem.P PyProof.Rows L2
/-! ### walks: words one behind another -/
def Walk : List Nat → List (List Nat) → List Nat → Prop
  | p, [], q => p = q
  | p, w :: r, q => w.dropLast = p ∧ Walk w.tail r q
theorem Walk.snoc {w : List Nat} : ∀ {us : List (List Nat)} {p q : List Nat}, Walk p us q → w.dropLast = q → Walk p (us ++ [w]) w.tail
  | [], p, q, h, e => ⟨e.trans h.symm, rfl⟩
  | v :: us, p, q, h, e => ⟨h.1, Walk.snoc h.2 e⟩
theorem Walk.unsnoc {w : List Nat} : ∀ {us : List (List Nat)} {p q : List Nat}, Walk p (us ++ [w]) q → Walk p us w.dropLast ∧ w.tail = q
  | [], p, q, h => ⟨h.1.symm, h.2⟩
  | v :: us, p, q, h => ⟨⟨h.1, (Walk.unsnoc h.2).1⟩, (Walk.unsnoc h.2).2⟩
theorem exc_cons (us : List (List Nat)) (w x : List Nat) : exc (w :: us) x = exc us x + (if w.dropLast = x then 1 else 0) - (if w.tail = x then 1 else 0) := by
  have := exc_perm (us := w :: us) (vs := us ++ [w]) (List.perm_append_comm (l₁ := [w]) (l₂ := us)) x
  rw [this, exc_snoc]
theorem Walk.exc : ∀ {us : List (List Nat)} {p q : List Nat}, Walk p us q → ∀ x, Z.exc us x = (if p = x then 1 else 0) - (if q = x then 1 else 0)
  | [], p, q, h, x => by
    have h : p = q := h
    subst h
    show Z.exc [] x = _
    simp [Z.exc, ows, iws]
  | w :: us, p, q, h, x => by
    rw [exc_cons, Walk.exc h.2 x, h.1]
    omega
theorem Walk.rch {ws : List (List Nat)} : ∀ {us : List (List Nat)} {p q : List Nat}, Walk p us q → (∀ w ∈ us, w ∈ ws) → ∀ w ∈ us, Rch ws p w.dropLast ∧ Rch ws p w.tail
  | [], p, q, h, hs, w, hw => by cases hw
  | v :: us, p, q, h, hs, w, hw => by
    have hv := hs v List.mem_cons_self
    have h1 : Rch ws p v.dropLast := h.1 ▸ .here
    have h2 : Rch ws p v.tail := .step h1 (mem_adj.mpr ⟨v, hv, .inl ⟨rfl, rfl⟩⟩)
    rcases List.mem_cons.mp hw with rfl | hw
    · exact ⟨h1, h2⟩
    · have := Walk.rch h.2 (fun w hw => hs w (List.mem_cons_of_mem _ hw)) w hw
      exact ⟨h2.trans this.1, h2.trans this.2⟩
theorem Walk.all {us : List (List Nat)} {p q : List Nat} (h : Walk p us q) : ∀ a ∈ pcs us, ∀ b ∈ pcs us, Rch us a b := fun a ha b hb => by
  have go : ∀ x ∈ pcs us, Rch us p x := fun x hx => by
    obtain ⟨w, hw, rfl | rfl⟩ := mem_pcs.mp hx
    · exact (h.rch (fun _ h => h) w hw).1
    · exact (h.rch (fun _ h => h) w hw).2
  exact (go a ha).symm.trans (go b hb)
/-- the words of a walk that comes back have no paper -/
theorem Walk.ring {us : List (List Nat)} {p : List Nat} (h : Walk p us p) (h0 : us ≠ []) : ringD us = .non :=
  ringD_of (fun x => by rw [h.exc x]; omega) h.all h0
end
end Z
namespace Z
noncomputable section
open PySem PySem.Spec PySem.P PyProof.Rows L2
/-! ### the last of a list; picks -/
theorem atI_m1 {α : Type} (xs : List α) (x : α) : atI (xs ++ [x]) (-1) = some x := by
  unfold atI
  have e : ixN (xs ++ [x]).length (-1) = some xs.length := by
    unfold ixN
    rw [if_neg (by decide), List.length_append]
    simp
    omega
  rw [e]
  simp
theorem ixD_m1 (xs : List D) (x : D) : ixD (.lst (xs ++ [x])) (.int (-1)) = .ok x := by
  unfold ixD
  dsimp only
  rw [atI_m1]
theorem ixD_tm1 (xs : List D) (x : D) : ixD (.tup (xs ++ [x])) (.int (-1)) = .ok x := by
  unfold ixD
  dsimp only
  rw [atI_m1]
theorem ixD_sm1 (xs : List Nat) (x : Nat) (h : xs.length + 1 ≤ SZ) : ixD (.str (xs ++ [x])) (.int (-1)) = .ok (.str [x]) := by
  unfold ixD
  dsimp only
  rw [if_pos (by simpa using h), atI_m1]
theorem pick_int (xs : List Int) (n i : Int) (hl : (xs.length : Int) = n) (h : 0 < n) : ∃ x, x ∈ xs ∧ ixD (.lst (xs.map .int)) (.int (i % n)) = .ok (.int x) := by
  obtain ⟨d, hd, e⟩ := pick_mod (xs.map D.int) n i (by simpa using hl) h
  obtain ⟨x, hx, rfl⟩ := List.mem_map.mp hd
  exact ⟨x, hx, e⟩
end
end Z
namespace Z
noncomputable section
open PySem PySem.Spec PySem.P PyProof.Rows L2
/-! ### papers compared; mirrored letters -/
theorem dep_paper (k : List Nat) (S : List (List Nat)) : dep (paperD k S) ≤ 64 := by
  have := depL_strs S
  simp [paperD, dep, depL, this]
theorem eqv_paper (k : List Nat) (S : List (List Nat)) : eqv (paperD k S) (paperD k S) = true := by
  have := eqvL_map S S
  simp [paperD, eqv, eqvL, this]
theorem neD_paper (k : List Nat) (S : List (List Nat)) : neD (paperD k S) (paperD k S) = .ok (.bl false) := by
  rw [neD_ok, if_pos ⟨dep_paper k S, dep_paper k S⟩, eqv_paper]
  rfl
theorem ixD_abc (sg : List Nat) (h6 : sg.length = 6) (c : Nat) (h1 : 97 ≤ c) (h2 : c ≤ 102) : ixD (.str sg) (.int ((c : Int) - 97)) = .ok (.str [sg.getD (c - 97) 0]) := by
  refine ixD_s _ _ (by omega) _ (le_sz (by omega)) ?_
  rw [show ((c : Int) - 97).toNat = c - 97 by omega, List.getD_eq_getElem?_getD]
  rw [List.getElem?_eq_getElem (by omega)]
  rfl
theorem getD_abc (sg : List Nat) (h6 : sg.length = 6) (ha : ∀ c ∈ sg, 97 ≤ c ∧ c ≤ 102) (c : Nat) (h1 : 97 ≤ c) (h2 : c ≤ 102) : 97 ≤ sg.getD (c - 97) 0 ∧ sg.getD (c - 97) 0 ≤ 102 := by
  rw [List.getD_eq_getElem?_getD, List.getElem?_eq_getElem (by omega)]
  exact ha _ (List.getElem_mem _)
end
end Z
namespace Z
noncomputable section
open PySem PySem.Spec PySem.P PyProof.Rows L2
/-! ### papers do not ask for the order of the words -/
theorem Right_perm {us vs : List (List Nat)} (h : us.Perm vs) (S : List (List Nat)) : Right us S ↔ Right vs S := by
  unfold Right
  rw [pcs_perm h]
theorem Apart_perm {us vs : List (List Nat)} (h : us.Perm vs) (S : List (List Nat)) : Apart us S ↔ Apart vs S := by
  unfold Apart
  rw [pcs_perm h]
  exact ⟨fun a => ⟨fun w hw => a.1 w (h.mem_iff.mpr hw), a.2⟩, fun a => ⟨fun w hw => a.1 w (h.mem_iff.mp hw), a.2⟩⟩
theorem NoRingP_perm {us vs : List (List Nat)} (h : us.Perm vs) (k : List Nat) (S : List (List Nat)) : NoRingP us k S ↔ NoRingP vs k S := by
  unfold NoRingP
  rw [Right_perm h, Apart_perm h, excS_perm h]
theorem NoRowP_perm {us vs : List (List Nat)} (h : us.Perm vs) (k : List Nat) (S : List (List Nat)) : NoRowP us k S ↔ NoRowP vs k S := by
  unfold NoRowP
  rw [Right_perm h, Apart_perm h, excS_perm h]
theorem nd_of_asc {S : List (List Nat)} (h : S.Pairwise (· < ·)) : S.Nodup := h.imp fun {a b} hab e => by
  subst e
  exact List.lt_irrefl a hab
theorem sortSet_asc (S : List (List Nat)) : sortT (dedT S) = S ↔ S.Pairwise (· < ·) := by
  constructor
  · intro e
    rw [← e]
    exact sortT_asc (dedT_nodup _)
  · intro h
    exact asc_ext (sortT_asc (dedT_nodup _)) h fun x => by rw [sortT_mem, dedT_mem]
theorem neD_bb (a b : Bool) : neD (.lst [.bl a, .bl b]) (.lst [.bl a, .bl b]) = .ok (.bl false) := by cases a <;> cases b <;> rfl
theorem bl_iff {a b : Bool} {p : Prop} (h1 : a = true ↔ p) (h2 : b = true ↔ p) : a = b := by
  cases a <;> cases b <;> simp_all
theorem Right.le {us S : List (List Nat)} (h : Right us S) : S.length ≤ 2 * us.length := by
  have := nodup_le (nd_of_asc h.2.2) h.2.1
  have := pcs_count us
  omega
end
end Z
namespace Z
noncomputable section
open PySem PySem.Spec PySem.P PyProof.Rows L2
/-! ### sorted(set(x)) of a list or a tuple of texts -/
def sortSetWD (d : D) : R D := match d with
  | .tup x => sortSetD (.lst x)
  | d => sortSetD d
@[simp] theorem sortSetWD_l (x : List D) : sortSetWD (.lst x) = sortSetD (.lst x) := rfl
@[simp] theorem sortSetWD_t (x : List D) : sortSetWD (.tup x) = sortSetD (.lst x) := rfl
section
variable {X : Cx} {C : CT} {W : WX} {a : Expr} {fa : SS → R D} {pos q p2 p : Pos}
theorem s_sortSetW (v : Pl X C W) (hg : Gl X "sorted") (hm : X.mg "sorted" = none) (hg2 : Gl X "set") (hm2 : X.mg "set" = none) (ha : PE X a (tB C W fa))
    (na : starEach [a] X.env = (false, eval a X.env) :: starEach [] X.env := by rfl) : PE X (.Call (.Name "sorted" p) [.Call (.Name "set" p2) [a] [] q] [] pos) (tF C W (eUn sortSetWD fa)) := by
  refine ⟨fun pins s σ H Q I h => ?_⟩
  obtain ⟨F, sd, S, h⟩ := h
  refine Call_ (ld_blt I hg hm (by decide +kernel : bootBuiltins "sorted" = some (.builtin "sorted")) ?_)
  refine PyProof.Rows.callWith_builtin1 (PyProof.Rows.args_cons ?_ rfl) rfl rfl
  refine Call_ (ld_blt I hg2 hm2 boot_set ?_)
  refine PyProof.Rows.callWith_type1 (PyProof.Rows.args_cons (thn (ha.run pins s σ H (fun u H1 => ∃ F1 d, Ext F H F1 H1 ∧ Bor C.G F1 H1 d u ∧ PostE C W F1 H1 σ (pF C H) Q (sortSetWD d)) I ⟨F, sd, S, PostE.bind h fun d u F1 H1 e1 b1 h1 => ⟨F1, d, e1, b1, h1⟩⟩) fun u s1 ⟨x, H1, I1, r1, q1⟩ => PyProof.Rows.args_nil ?_) na) na rfl
  obtain ⟨F1, d, e1, b1, h1⟩ := q1
  have shape : ∃ y, (d = .lst y ∨ d = .tup y) ∧ PostE C W F1 H1 σ (pF C H) Q (sortSetD (.lst y)) := by
    cases d with
    | lst y => exact ⟨y, .inl rfl, h1⟩
    | tup y => exact ⟨y, .inr rfl, h1⟩
    | _ => exact h1.elim
  obtain ⟨y, hd, k1⟩ := shape
  have go : ∀ {ys : List (List Nat)} {c : Nat} {h' : Heap} {tk : Nat} (hok : ∀ x ∈ ys, okS x = true) (hz : ys.length < 4000) (hc : c ≤ (ys.map toS).length) (hk : ∀ b o, s1.heap.get? b = some o → h'.get? b = some o) (hI : L2.Inv X pins σ H1 { s1 with heap := h', toks := tk }) (h1 : PostE C W F1 H1 σ (pF C H) Q (.ok (.lst ((sortT (dedT ys)).map .str)))), ZT.SetRT X.w h' s1.heap.objs.size (fun j => decide (j ∈ ys.map toS)) c →
      wpAny (model X.prog X.w) X.A (call (.builtin "sorted") [.ref s1.heap.objs.size]) (EP X pins σ Q) X.xe { s1 with heap := h', toks := tk } := fun {ys c h' tk} hok hz hc hk I2 h1 R => by
    refine ZT.sorted_setT (s := { s1 with heap := h', toks := tk }) R (by have q := hc; rw [List.length_map] at q; show c < 4096; omega) (I1.ok.hd v.calm) fun s' pp out cc ns k1 g1 o1 hpp hget hst hpw hnd hmem hlen => ?_
    have hperm := ded_perm (ys := ys) hnd hmem
    have e2 : ns.map (fun z => z.cps.toList) = sortT (dedT ys) := sortT_uniq hperm (List.pairwise_map.mpr hpw)
    have e3 : ns = (sortT (dedT ys)).map toS := by
      rw [← e2, List.map_map]
      conv => lhs; rw [← List.map_id ns]
      exact List.map_congr_left fun z _ => (toS_cps z).symm
    have k2 : ∀ b o, s1.heap.get? b = some o → s'.heap.get? b = some o := fun b o e => k1 b o (hk b o e)
    have hsz : s1.heap.objs.size ≤ pp := Nat.le_trans (Nat.le_of_lt R.lt) hpp
    have hfr : H1 pp = none := I1.hok.fresh hsz
    have hzz : ((sortT (dedT ys)).map toS).length ≤ 4096 := by
      rw [List.length_map, (sortT_perm _).length_eq]
      have := dedT_le ys
      omega
    have J : Inv X pins σ (upd H1 pp (.lst (((sortT (dedT ys)).map toS).map V.str))) { s1 with heap := s'.heap, gens := s'.gens, drawn := s'.drawn, toks := s'.toks } :=
      I1.call (ch := []) (Un.laid k2 hsz hfr) (I1.hok.laid k2 hsz ⟨by rw [List.length_map, sizeLine_eq]; omega, out.toList, cc, by rw [← e3]; exact vals_of_strs hst, by rw [Array.toArray_toList]; exact hget⟩) (by rw [g1]; exact I1.bare) (fun _ z => nomatch z)
    have es : s' = { s1 with heap := s'.heap, gens := s'.gens, drawn := s'.drawn, toks := s'.toks } := by
      cases s'
      cases s1
      cases o1
      rfl
    rw [es]
    exact ⟨.ref pp, _, J, rfl, h1 _ F1 _ (Ext.newOwn e1.fh hfr) ⟨_, rfl, e1.hh.free hfr, e1.fh.free hfr, _, upd_same, repL_strs _ fun x hx => hok x (dedT_mem.mp ((sortT_perm _).mem_iff.mp hx))⟩⟩

  unfold sortSetD setD at k1
  dsimp only at k1
  split at k1
  · rename_i ys hys
    split at k1
    · rename_i hz
      rcases hd with rfl | rfl
      · obtain ⟨l, us, rfl, qq, rr⟩ := bor_lst e1.fh b1
        obtain rfl : u = Value.ref l := r1
        obtain ⟨eu, hok⟩ := strs_rep hys rr
        rw [← v.K, eu] at qq
        obtain ⟨its, rv, p', hz2⟩ := I1.list qq
        have hS := rv.strs
        refine ZT.call_set_listT (ys.map toS) (I1.ok.hd v.calm) p'.isList (by simpa using hS) (by rw [List.length_map]; show ys.length ≤ 4096; omega) fun h' tk c R hc hk => ?_
        refine PyProof.Rows.args_nil ?_
        exact go hok hz hc hk (I1.kept hk) k1 R
      · obtain ⟨l, us, rfl, qq, rr⟩ := bor_tup e1.fh b1
        obtain rfl : u = Value.ref l := r1
        obtain ⟨eu, hok⟩ := strs_rep hys rr
        rw [← v.K, eu] at qq
        obtain ⟨its, rv, p', hz2⟩ := I1.tuple qq
        have hS := rv.strs
        refine ZT.call_set_tupT (items := its.toArray) (ys.map toS) (I1.ok.hd v.calm) p' (by simpa using hS) (by rw [List.length_map]; show ys.length ≤ 4096; omega) fun h' tk c R hc hk => ?_
        refine PyProof.Rows.args_nil ?_
        exact go hok hz hc hk (I1.kept hk) k1 R
    · exact k1.elim
  · exact k1.elim
end
end
end Z
namespace Z
noncomputable section
open PySem PySem.Spec PySem.P PyProof.Rows L2
/-! ### papers against rows; no paper gainsays a walk -/
def rowS (ws : List (List Nat)) : List (List Nat) := (pcs ws).filter fun p => decide (0 < exc ws p)
def rowD (ws : List (List Nat)) : D := if 1 < excS ws (rowS ws) then paperD sUneven (rowS ws) else apartD ws
theorem rowS_perm {us vs : List (List Nat)} (h : us.Perm vs) : rowS us = rowS vs := by
  unfold rowS
  rw [pcs_perm h]
  have : (fun p => decide (0 < exc us p)) = fun p => decide (0 < exc vs p) := funext fun p => by rw [exc_perm h]
  rw [this]
theorem rowD_perm {us vs : List (List Nat)} (h : us.Perm vs) : rowD us = rowD vs := by
  unfold rowD
  rw [rowS_perm h, excS_perm h, apartD_perm h]
theorem rowS_asc (ws : List (List Nat)) : (rowS ws).Pairwise (· < ·) := (pcs_asc ws).filter _
theorem Walk.excS {us : List (List Nat)} {p q : List Nat} (h : Walk p us q) : ∀ {S : List (List Nat)}, S.Nodup → Z.excS us S = (if p ∈ S then 1 else 0) - (if q ∈ S then 1 else 0)
  | [], _ => by simp [Z.excS]
  | x :: S, hn => by
    rw [List.nodup_cons] at hn
    have ih := Walk.excS h hn.2
    have e : Z.excS us (x :: S) = Z.exc us x + Z.excS us S := rfl
    rw [e, ih, h.exc x]
    have hp : (if p ∈ x :: S then (1 : Int) else 0) = (if p = x then 1 else 0) + (if p ∈ S then 1 else 0) := by
      by_cases c : p = x
      · subst c; simp [hn.1]
      · simp [c]
    have hq : (if q ∈ x :: S then (1 : Int) else 0) = (if q = x then 1 else 0) + (if q ∈ S then 1 else 0) := by
      by_cases c : q = x
      · subst c; simp [hn.1]
      · simp [c]
    rw [hp, hq]
    omega
theorem Rch.inn {ws S : List (List Nat)} {a b : List Nat} (h : Rch ws a b) (hs : ∀ w ∈ ws, (w.dropLast ∈ S ↔ w.tail ∈ S)) (ha : a ∈ S) : b ∈ S := by
  induction h with
  | here => exact ha
  | step h1 h2 ih =>
    obtain ⟨w, hw, ⟨e1, e2⟩ | ⟨e1, e2⟩⟩ := mem_adj.mp h2
    · rw [← e2]; exact (hs w hw).mp (e1 ▸ ih)
    · rw [← e2]; exact (hs w hw).mpr (e1 ▸ ih)
theorem Walk.apart {us S : List (List Nat)} {p q : List Nat} (h : Walk p us q) (hr : Right us S) : ¬ Apart us S := fun ha => by
  obtain ⟨x, hx⟩ := List.exists_mem_of_ne_nil _ hr.1
  have hsub : ∀ y ∈ pcs us, y ∈ S := fun y hy => (h.all x (hr.2.1 x hx) y hy).inn ha.1 hx
  have := nodup_le (nd_of_asc (pcs_asc us)) hsub
  have := ha.2
  omega
theorem Walk.noRow {us S : List (List Nat)} {p q k : List Nat} (h : Walk p us q) : ¬ NoRowP us k S := by
  rintro ⟨hr, ⟨-, he⟩ | ⟨-, ha⟩⟩
  · rw [h.excS (nd_of_asc hr.2.2)] at he
    split at he <;> split at he <;> simp at he
  · exact h.apart hr ha
theorem Walk.noRing {us S : List (List Nat)} {p k : List Nat} (h : Walk p us p) : ¬ NoRingP us k S := by
  rintro ⟨hr, ⟨-, he⟩ | ⟨-, ha⟩⟩
  · rw [h.excS (nd_of_asc hr.2.2)] at he
    omega
  · exact h.apart hr ha
theorem Walk.row {us : List (List Nat)} {p q : List Nat} (h : Walk p us q) (h0 : us ≠ []) : rowD us = .non := by
  unfold rowD
  have e := h.excS (nd_of_asc (rowS_asc us))
  rw [if_neg (by rw [e]; split <;> split <;> omega), apartD_alt, if_pos]
  have hp : (pcs us).headD [] ∈ pcs us := by
    cases e : pcs us with
    | nil => exact absurd e (pcs_ne h0)
    | cons p r => exact List.mem_cons_self
  exact asc_ext (comp_asc _ _) (pcs_asc _) fun q => by
    rw [mem_comp]
    exact ⟨fun h => h.1, fun hq => ⟨hq, h.all _ hp q hq⟩⟩
/-- the paper against a row that is told is right -/
theorem rowD_shows {ws : List (List Nat)} (h0 : ws ≠ []) : rowD ws = .non ∨ ∃ k S, rowD ws = paperD k S ∧ NoRowP ws k S := by
  unfold rowD
  by_cases c : 1 < excS ws (rowS ws)
  · rw [if_pos c]
    refine .inr ⟨_, _, rfl, ⟨fun e => ?_, fun x hx => (List.mem_filter.mp hx).1, rowS_asc ws⟩, .inl ⟨rfl, by omega⟩⟩
    rw [e] at c
    exact absurd c (by simp [excS])
  · rw [if_neg c]
    unfold apartD
    by_cases c : (comp ws ((pcs ws).headD [])).length < (pcs ws).length
    · rw [if_pos c]
      have hp : (pcs ws).headD [] ∈ pcs ws := by
        cases e : pcs ws with
        | nil => exact absurd e (pcs_ne h0)
        | cons p r => exact List.mem_cons_self
      exact .inr ⟨_, _, rfl, comp_right hp, .inr ⟨rfl, comp_words, c⟩⟩
    · rw [if_neg c]
      exact .inl rfl
end
end Z
namespace Z
noncomputable section
open PySem PySem.Spec PySem.P PyProof.Rows L2
/-! ### rules: numbers of words, letters told -/
theorem range_mul (k : Nat) : ∀ m : Nat, (List.range m).flatMap (fun i => (List.range k).map fun j => i * k + j) = List.range (m * k)
  | 0 => by simp
  | m + 1 => by
    rw [List.range_succ, List.flatMap_append, range_mul k m, Nat.succ_mul, List.range_add]
    simp
theorem abc_range' {k : Nat} (h2 : k ≤ 6) : abc k = (List.range k).map fun j => 97 + j := by
  have : k = 0 ∨ k = 1 ∨ k = 2 ∨ k = 3 ∨ k = 4 ∨ k = 5 ∨ k = 6 := by omega
  rcases this with rfl | rfl | rfl | rfl | rfl | rfl | rfl <;> rfl
theorem allW_num {k : Nat} (h2 : k ≤ 6) : ∀ n : Nat, (allW k n).map (numW k) = (List.range (k ^ n)).map fun i : Nat => (i : Int)
  | 0 => rfl
  | n + 1 => by
    have ih := allW_num h2 n
    have e : (allW k (n + 1)).map (numW k) = ((allW k n).map (numW k)).flatMap fun x : Int => (List.range k).map fun j : Nat => x * (k : Int) + (j : Int) := by
      simp only [allW]
      rw [List.map_flatMap, List.flatMap_map]
      congr 1
      funext w
      rw [List.map_map, abc_range' h2, List.map_map]
      apply List.map_congr_left
      intro j hj
      show numW k (w ++ [97 + j]) = _
      rw [numW_app]
      omega
    rw [e, ih, List.flatMap_map, Nat.pow_succ, ← range_mul k (k ^ n), List.map_flatMap]
    congr 1
    funext i
    rw [List.map_map]
    apply List.map_congr_left
    intro j hj
    simp
theorem allW_at {k n i : Nat} {w : List Nat} (h1 : 1 ≤ k) (h2 : k ≤ 6) (h : (allW k n)[i]? = some w) : numW k w = i ∧ i < k ^ n ∧ w.length = n ∧ Lets k w := by
  have hm := List.mem_of_getElem? h
  have hil : i < (allW k n).length := (List.getElem?_eq_some_iff.mp h).1
  rw [allW_len h2] at hil
  have e := congrArg (fun l => l[i]?) (allW_num h2 n)
  simp only [List.getElem?_map, h, Option.map_some] at e
  rw [List.getElem?_range hil] at e
  simp at e
  have := (mem_allW h1 h2).mp hm
  refine ⟨e, hil, this.1, fun c hc => ?_⟩
  have := this.2 c hc
  omega
theorem allW_of {k n : Nat} {w : List Nat} (h1 : 1 ≤ k) (h2 : k ≤ 6) (hl : w.length = n) (hw : Lets k w) : (allW k n)[(numW k w).toNat]? = some w := by
  have hm : w ∈ allW k n := (mem_allW h1 h2).mpr ⟨hl, fun x hx => by have := hw x hx; omega⟩
  obtain ⟨i, hi, e⟩ := List.mem_iff_getElem.mp hm
  have := allW_at (i := i) h1 h2 (by rw [List.getElem?_eq_getElem hi, e])
  rw [this.1, Int.toNat_natCast, List.getElem?_eq_getElem hi, e]
def lets (k : Int) (t : List Nat) : Bool := t.all fun c => decide (97 ≤ c) && decide ((c : Int) < 97 + k)
theorem lets_iff {k : Int} {t : List Nat} : lets k t = true ↔ Lets k t := by
  unfold lets Lets
  simp
/-- a rule -/
structure RuleOk (t : List Nat) (n k : Nat) : Prop where
  k1 : 1 ≤ k
  k6 : k ≤ 6
  n1 : 1 ≤ n
  n8 : n ≤ 8
  m64 : k ^ n ≤ 64
  len : t.length = k ^ n
  abc : Lets k t
def ruleD (t : List Nat) (n k : Nat) : D := .obj 6 [.int n, .int k, .str t]
def isW (n k : Nat) (w : List Nat) : Bool := decide (w.length = n) && lets k w
theorem isW_iff {n k : Nat} {w : List Nat} : isW n k w = true ↔ w.length = n ∧ Lets k w := by
  unfold isW
  rw [Bool.and_eq_true, decide_eq_true_eq, lets_iff]
theorem isW_good {n k : Nat} {w : List Nat} (h : isW n k w = true) (h1 : 1 ≤ n) (h8 : n ≤ 8) : goodW w k = true := by
  obtain ⟨a, b⟩ := isW_iff.mp h
  exact goodW_iff.mpr ⟨by omega, by omega, b⟩
theorem isW_num {n k : Nat} {w : List Nat} (h : isW n k w = true) (h1 : 1 ≤ k) : ∃ i : Nat, numW k w = i ∧ i < k ^ n := by
  obtain ⟨a, b⟩ := isW_iff.mp h
  obtain ⟨c, d, -⟩ := numW_word (k := (k : Int)) (by omega) n w a b
  refine ⟨(numW k w).toNat, by omega, ?_⟩
  have : ((k ^ n : Nat) : Int) = (k : Int) ^ n := by simp
  omega
end
end Z
namespace Z
noncomputable section
open PySem PySem.Spec PySem.P PyProof.Rows L2
/-! ### zip of two lists, enumerate of a list -/
def zipW (xs ys : List D) : List D := List.zipWith (fun x y => .tup [x, y]) xs ys
def zipD : List D → R (List D)
  | [.lst xs, .lst ys] => .ok (zipW xs ys)
  | _ => .bad
def enuD : List D → R (List D)
  | [.lst xs] => .ok (xs.mapIdx fun i x => .tup [.int (i : Nat), x])
  | _ => .bad
def i_zip (fs : SS → R (List D)) : SS → R (List D) := fun s => (fs s).bind zipD
def i_enumerate (fs : SS → R (List D)) : SS → R (List D) := fun s => (fs s).bind enuD
@[simp] theorem i_zip_s (fs : SS → R (List D)) (s : SS) : i_zip fs s = (fs s).bind zipD := rfl
@[simp] theorem i_enumerate_s (fs : SS → R (List D)) (s : SS) : i_enumerate fs s = (fs s).bind enuD := rfl
@[simp] theorem zipD_l (xs ys : List D) : zipD [.lst xs, .lst ys] = .ok (zipW xs ys) := rfl
@[simp] theorem enuD_l (xs : List D) : enuD [.lst xs] = .ok (xs.mapIdx fun i x => .tup [.int (i : Nat), x]) := rfl
theorem rep_pair {G : GE} {F H : Hp} {T : Addr} {x y : V} {d e : D} (f : Same F H) (hT : H T = none) (r1 : Rep G F d x) (r2 : Rep G F e y) : Rep G (upd F T (.tup [x, y])) (.tup [d, e]) (.ref T) := by
  have s := same_new (o := .tup [x, y]) (f.free hT)
  exact rep_tup.mpr ⟨T, [x, y], rfl, SqT.of upd_same, RepL.cons (Rep.mono s r1) (RepL.cons (Rep.mono s r2) RepL.nil)⟩
theorem it_zip {G : GE} {K : PySem.W.Frag} (hK : K = G.K) {F : Hp} {a b : Addr} {us vs : List V} {xs ys : List D} (q1 : SqL G.K F a us) (r1 : RepL G F xs us) (q2 : SqL G.K F b vs) (r2 : RepL G F ys vs) : ItOk G F (Itz K a b) (zipW xs ys) where
  go := fun i F' H' f h hi => by
    subst hK
    unfold zipW at hi
    rw [List.length_zipWith] at hi
    have h1 : i < us.length := by rw [r1.length]; omega
    have h2 : i < vs.length := by rw [r2.length]; omega
    exact ⟨us, vs, us[i], vs[i], h.seq (f.seq q1), h.seq (f.seq q2), by simp [h1], by simp [h2]⟩
  yld := fun i F' H' x H'' f h hi y => by
    subst hK
    obtain ⟨T, u, v, rfl, hT, rfl, y1, y2⟩ := y
    obtain ⟨d, e1, p1⟩ := r1.get' (y1 us (h.seq (f.seq q1)))
    obtain ⟨e, e2, p2⟩ := r2.get' (y2 vs (h.seq (f.seq q2)))
    exact ⟨upd F' T (.tup [u, v]), .tup [d, e], Ext.new h hT, by unfold zipW; rw [List.getElem?_zipWith, e1, e2], rep_pair h hT (Rep.mono f p1) (Rep.mono f p2)⟩
  stop := fun i F' H' f h hi => by
    subst hK
    unfold zipW at hi
    rw [List.length_zipWith] at hi
    have h1 := r1.length
    have h2 := r2.length
    exact ⟨us, vs, h.seq (f.seq q1), h.seq (f.seq q2), by omega⟩
theorem it_enum {G : GE} {K : PySem.W.Frag} (hK : K = G.K) {F : Hp} {a : Addr} {us : List V} {xs : List D} (q1 : SqL G.K F a us) (r1 : RepL G F xs us) : ItOk G F (Ite K a) (xs.mapIdx fun i x => .tup [.int (i : Nat), x]) where
  go := fun i F' H' f h hi => by
    subst hK
    rw [List.length_mapIdx] at hi
    have h1 : i < us.length := by rw [r1.length]; omega
    exact ⟨us, us[i], h.seq (f.seq q1), by simp [h1]⟩
  yld := fun i F' H' x H'' f h hi y => by
    subst hK
    obtain ⟨T, u, rfl, hT, rfl, y1⟩ := y
    obtain ⟨d, e1, p1⟩ := r1.get' (y1 us (h.seq (f.seq q1)))
    exact ⟨upd F' T (.tup [.int (i : Nat), u]), .tup [.int (i : Nat), d], Ext.new h hT, by simp [e1], rep_pair h hT (rep_int.mpr rfl) (Rep.mono f p1)⟩
  stop := fun i F' H' f h hi => by
    subst hK
    rw [List.length_mapIdx] at hi
    have h1 := r1.length
    exact ⟨us, h.seq (f.seq q1), by omega⟩
section
variable {X : Cx} {C : CT} {W : WX} {a b : Expr} {elts : List Expr} {kk : Nat} {tpos pos p : Pos} {fs : SS → R (List D)}
theorem s_zip (v : Pq X C W) (hg : Gl X "zip") (hm : X.mg "zip" = none) (ha : PA X [a, b] (tA C W fs)) (hs : starEach [a, b] X.env = (false, eval a X.env) :: starEach [b] X.env := by rfl) (hpl : (backTo pos (starEach [b] X.env)).any (·.1) = false := by rfl) : PI X (.Tuple elts kk tpos) (.Call (.Name "zip" p) [a, b] [] pos) (tI C W (i_zip fs)) := by
  refine pi_imp (pi_zip hg hm ha hs hpl) fun σ H Q ⟨F, sd, S, h⟩ => ?_
  refine ⟨F, sd, S, PostI.bindA (P1 := pD C) h fun ds vs F1 H1 e1 r h1 => ?_⟩
  unfold zipD at h1
  split at h1
  · rename_i xs ys
    obtain ⟨u, w, rfl, b1, b2⟩ := pair2 r
    obtain ⟨l1, us, rfl, q1, r1⟩ := rep_lst.mp b1
    obtain ⟨l2, ws, rfl, q2, r2⟩ := rep_lst.mp b2
    refine ⟨l1, l2, us, ws, rfl, by rw [v.K]; exact e1.fh.seq q1, by rw [v.K]; exact e1.fh.seq q2, ?_⟩
    exact h1 _ F1 H1 (Ext.refl e1.fh) (it_zip v.K q1 r1 q2 r2)
  · exact h1.elim
theorem s_enumerate (v : Pq X C W) (hg : Gl X "enumerate") (hm : X.mg "enumerate" = none) (ha : PA X [a] (tA C W fs)) (hs : starEach [a] X.env = [(false, eval a X.env)] := by rfl) : PI X (.Tuple elts kk tpos) (.Call (.Name "enumerate" p) [a] [] pos) (tI C W (i_enumerate fs)) := by
  refine pi_imp (pi_enum hg hm ha hs) fun σ H Q ⟨F, sd, S, h⟩ => ?_
  refine ⟨F, sd, S, PostI.bindA (P1 := pD C) h fun ds vs F1 H1 e1 r h1 => ?_⟩
  unfold enuD at h1
  split at h1
  · rename_i xs
    obtain ⟨u, rfl, b1⟩ := pair1 r
    obtain ⟨l1, us, rfl, q1, r1⟩ := rep_lst.mp b1
    refine ⟨l1, us, rfl, by rw [v.K]; exact e1.fh.seq q1, ?_⟩
    exact h1 _ F1 H1 (Ext.refl e1.fh) (it_enum v.K q1 r1)
  · exact h1.elim
end
end
end Z
namespace Z
noncomputable section
open PySem PySem.Spec PySem.P PyProof.Rows L2
/-! ### list * int as a new own list -/
def fitM (n : Nat) (j : Int) : Prop := j < 9223372036854775808 ∧ -9223372036854775808 ≤ j ∧ n * j.toNat ≤ SZ
instance (n : Nat) (j : Int) : Decidable (fitM n j) := Classical.propDecidable _
def mulLD : D → D → R D
  | .lst xs, .int j => if fitM xs.length j then .ok (.lst (List.replicate j.toNat xs).flatten) else .bad
  | _, _ => .bad
theorem mulLD_ne : NoEx2 mulLD := fun x y c vs h => by
  unfold mulLD at h
  split at h
  · split at h <;> cases h
  · cases h
theorem mulLD_1 (d : D) (n : Nat) (h : n ≤ 16777216) : mulLD (.lst [d]) (.int n) = .ok (.lst (List.replicate n d)) := by
  unfold mulLD
  dsimp only
  rw [if_pos (show fitM [d].length (n : Int) from ⟨by omega, by omega, le_sz (by simpa using h)⟩), Int.toNat_natCast]
  congr 2
  induction n with
  | zero => rfl
  | succ n ih => rw [List.replicate_succ, List.flatten_cons, ih (by omega)]; rfl
def r2F (G : GE) (g : D → D → R D) : R2 := fun x y H Q => ∃ F d e, Same F H ∧ Bor G F H d x ∧ Bor G F H e y ∧ PostVF G F H Q (g d e)
section
variable {X : Cx} {C : CT} {W : WX} {a b : Expr} {fa fb : SS → R D} {g : D → D → R D} {pos : Pos}
theorem bin_readF (hg : NoEx2 g) {σ : L2.St} {H : Hp} {Q : VK} (h : tF C W (eBin g fa fb) σ H Q) : tOp (r2F C.G g) (tB C W fa) (tB C W fb) σ H Q := by
  obtain ⟨F, sd, S, h⟩ := h
  refine ⟨F, sd, S, PostE.bind h fun d v F1 H1 e1 b1 h1 => ?_⟩
  refine ⟨F1, sd, S.mono e1, PostE.bind h1 fun d2 v2 F2 H2 e2 b2 h2 => ?_⟩
  refine ⟨F2, d, d2, e2.fh, Bor.mono e2 b1, b2, ?_⟩
  cases q : g d d2 with
  | ok z =>
    rw [q] at h2
    exact fun a F' H' e hn fn ow => h2 _ F' H' e ⟨a, rfl, e1.hh.free (e2.hh.free hn), fn, ow⟩
  | ex c vs => exact (hg d d2 c vs q).elim
  | bad => rw [q] at h2; exact h2.elim
theorem op_mulLD (hK : X.K = C.G.K) : OpR X (binaryOp .Mult) (r2F C.G mulLD) := by
  intro pins s σ H x y v u Q I rx ry h
  obtain ⟨F, d, e, S, bd, be, p⟩ := h
  unfold mulLD at p
  split at p
  · split at p
    · rename_i hz
      unfold fitM at hz
      obtain ⟨a1, xs1, e1, q1, r1⟩ := bor_lst S bd
      rw [← hK] at q1
      refine op_repL pins s σ H x y v u Q I rx ry ⟨a1, _, xs1, e1, bor_int be, q1, by omega, by omega, ?_, p.lst S (r1.rep _)⟩
      rw [r1.length]
      exact sz_line hz.2.2
    · exact p.elim
  · exact p.elim
theorem s_mulF (v : Pl X C W) (ha : PE X a (tB C W fa)) (hb : PE X b (tB C W fb)) : PE X (.BinOp a .Mult b pos) (tF C W (eBin mulLD fa fb)) :=
  pe_imp (pe_op (op_mulLD v.K) ha hb) fun _ _ _ h => bin_readF mulLD_ne h
end
end
end Z
namespace Z
noncomputable section
open PySem PySem.Spec PySem.P PyProof.Rows L2
/-! ### a def whose first argument is a new own thing -/
theorem ow_there {G : GE} {F H : Hp} {a : Addr} {d : D} (q : OwR G F H a d) : ∃ o, H a = some o := by
  cases d <;> try exact False.elim q
  · obtain ⟨xs, e, r⟩ := q
    exact ⟨_, e⟩
  · obtain ⟨kvs, e, k, nd, r⟩ := q
    exact ⟨_, e⟩
  · obtain ⟨C, dx, fs, ns, g, e, k, r⟩ := q
    exact ⟨_, e⟩
def spO (G : GE) (n : Nat) (g : List D → R D) : Sp := fun vs H Q E => ∃ F H0 d0 ds x ws, vs = .ref x :: ws ∧ Same H0 H ∧ H0 x = none ∧ Same F H ∧ F x = none ∧ OwR G F H x d0 ∧ ds.length = n ∧ RepL G F ds ws ∧ (match g (d0 :: ds) with
  | .ok d => ∀ v F' H', Ext F H0 F' H' → Rep G F' d v → Q v H'
  | .ex c us => ∀ cls dx F' H', Ext F H0 F' H' → XR G F' c us cls dx → E cls dx H'
  | .bad => False)
def runO (m : Nat) (f : SS → RS) : List D → R D
  | d0 :: ds => match f (.ow d0 :: (ds.map Sl.sh ++ List.replicate (m - 1 - ds.length) .no)) with
    | .nx _ => .ok .non
    | .rt b d => if b = false then .ok d else .bad
    | .ex c vs _ => .ex c vs
    | _ => .bad
  | [] => .bad
theorem start_ow {G : GE} {F H H0 : Hp} {ds : List D} {vs : List V} {N : List Str} {x : Addr} {d0 : D} (s0 : Same H0 H) (hx0 : H0 x = none) (s : Same F H) (hxF : F x = none) (r : RepL G F ds vs) (r0 : OwR G F H x d0) (hn : ds.length + 1 ≤ N.length) :
    StR ⟨G, F, H0⟩ F H (.ow d0 :: (ds.map Sl.sh ++ List.replicate (N.length - 1 - ds.length) .no)) (L2.start N (.ref x :: vs)) := by
  have hl := r.length
  have hst : L2.start N (.ref x :: vs) = some (.ref x) :: (vs.map some ++ List.replicate (N.length - (vs.length + 1)) none) := by
    unfold L2.start
    simp
  rw [hst]
  have no : ∀ {i : Nat} {z : Sl}, z ≠ .no → (∀ d, z ≠ .sh d) → (ds.map Sl.sh ++ List.replicate (N.length - 1 - ds.length) Sl.no)[i]? ≠ some z := fun {i z} h1 h2 e => by
    by_cases hi : i < ds.length
    · rw [List.getElem?_append_left (by simpa using hi), List.getElem?_map, List.getElem?_eq_getElem hi] at e
      cases e
      exact h2 _ rfl
    · rw [List.getElem?_append_right (by simpa using hi), List.getElem?_replicate] at e
      split at e <;> cases e
      exact h1 rfl
  have own : ∀ {i : Nat} {d : D}, (Sl.ow d0 :: (ds.map Sl.sh ++ List.replicate (N.length - 1 - ds.length) Sl.no))[i]? = some (.ow d) ∨ (Sl.ow d0 :: (ds.map Sl.sh ++ List.replicate (N.length - 1 - ds.length) Sl.no))[i]? = some (.lk d) → i = 0 ∧ d = d0 := fun {i d} h => by
    cases i with
    | zero =>
      rcases h with h | h
      · cases h; exact ⟨rfl, rfl⟩
      · cases h
    | succ i =>
      rw [List.getElem?_cons_succ] at h
      rcases h with h | h
      · exact (no (by intro z; cases z) (fun d z => by cases z) h).elim
      · exact (no (by intro z; cases z) (fun d z => by cases z) h).elim
  refine ⟨⟨Same.refl F, s0, s, fun _ _ _ h => h⟩, ?_, fun i d h => ?_, fun i d h => ?_, fun i j d e a h h' _ _ => ?_⟩
  · simp only [List.length_cons, List.length_append, List.length_map, List.length_replicate]
    omega
  · cases i with
    | zero => cases h
    | succ i =>
      rw [List.getElem?_cons_succ] at h
      by_cases hi : i < ds.length
      · rw [List.getElem?_append_left (by simpa using hi), List.getElem?_map, List.getElem?_eq_getElem hi] at h
        cases h
        obtain ⟨v, h1, h2⟩ := r.get (List.getElem?_eq_getElem hi)
        refine ⟨v, ?_, h2⟩
        rw [List.getElem?_cons_succ, List.getElem?_append_left (by simpa [hl] using hi), List.getElem?_map, h1]
        rfl
      · rw [List.getElem?_append_right (by simpa using hi), List.getElem?_replicate] at h
        split at h <;> cases h
  · obtain ⟨rfl, rfl⟩ := own h
    exact ⟨x, rfl, hx0, hxF, r0⟩
  · exact (own h).1.trans (own h').1.symm
theorem fn_okO {P : Program} {w : World} {K : PySem.W.Frag} {mg : Str → Option Value} {base : Heap} {G : GE} {x qual : Str} {st : Stmt} {f : Addr} {fd : FuncData} {N ps : List Str} {k n : Nat} {g : List D → R D} {body : SS → RS}
    (Fu : Fun K x qual st f fd) (S : FnScope N ps (defScope st)) (hK : K = G.K) (hps : ps.length = n + 1) (hN : ps.length ≤ N.length)
    (hb : ∀ (cdv : Value) (A : Around) (outer : List PySem.Env) (s : Shared) (H F H0 : Hp) (E : XK), Room k (A.deeper (envOfC qual (defScope st) s.heap.objs.size f cdv)) →
      Pl (cxOf (L2.CX P w) P w K mg base N qual (defScope st) f cdv A outer s H E) ⟨G, F, H0⟩ (fun cls d _ H => E cls d H) →
      PSs (cxOf (L2.CX P w) P w K mg base N qual (defScope st) f cdv A outer s H E) (defBody st) (tS ⟨G, F, H0⟩ (fun cls d _ H => E cls d H) body))
    (hg : ∀ d ds, ds.length = n → g (d :: ds) ≠ .bad → runO N.length body (d :: ds) = g (d :: ds)) : FnOk P w K mg base (L2.CX P w) (k + 1) f fd ps (spO G n g) := by
  refine Fu.okX S (fun vs H Q E h => ?_) (fun cdv A outer s H vs Q E hr h => ?_)
  · obtain ⟨F, H0, d0, ds, x, ws, rfl, _, _, _, _, _, hl, r, _⟩ := h
    rw [List.length_cons, r.length, hl, hps]
  · obtain ⟨F, H0, d0, ds, x, ws, rfl, s0, hx0, sm, hxF, r0, hl, r, h⟩ := h
    have tk : Takes (cxOf (L2.CX P w) P w K mg base N qual (defScope st) f cdv A outer s H E) (fun cls d _ H => E cls d H) := takes_of rfl rfl rfl rfl
    have v : Pl (cxOf (L2.CX P w) P w K mg base N qual (defScope st) f cdv A outer s H E) ⟨G, F, H0⟩ (fun cls d _ H => E cls d H) := by
      refine ⟨⟨hK, ?_, tk, ?_⟩, rfl⟩
      · have := hr.un
        show Around.units (A.deeper _) + 65 < _
        omega
      · exact passes_of rfl
    refine ⟨_, hb cdv A outer s H F H0 E hr v, ?_⟩
    refine ⟨F, .ow d0 :: (ds.map Sl.sh ++ List.replicate (N.length - 1 - ds.length) .no), start_ow s0 hx0 sm hxF r r0 (by omega), ?_⟩
    have hne : g (d0 :: ds) ≠ .bad := fun z => by rw [z] at h; exact h
    have hrun := hg d0 ds hl hne
    unfold runO at hrun
    dsimp only at hrun
    cases q : body (.ow d0 :: (ds.map Sl.sh ++ List.replicate (N.length - 1 - ds.length) .no)) with
    | nx s' =>
      rw [q] at hrun
      have hrun : R.ok D.non = g (d0 :: ds) := hrun
      rw [← hrun] at h
      exact fun F' H' σ' S' f' l' => h .non F' H' S'.ext (rep_non.mpr rfl)
    | rt b d =>
      rw [q] at hrun
      have hrun : (if b = false then R.ok d else .bad) = g (d0 :: ds) := hrun
      by_cases hb : b = false
      · rw [if_pos hb] at hrun
        rw [← hrun] at h
        subst hb
        exact fun u F' H' e f' r' => h u F' H' e r'
      · rw [if_neg hb] at hrun
        rw [← hrun] at hne
        exact (hne rfl).elim
    | ex c vs s' =>
      rw [q] at hrun
      have hrun : R.ex c vs = g (d0 :: ds) := hrun
      rw [← hrun] at h
      exact fun cls dx F' H' σ' S' f' l' x => h cls dx F' H' S'.ext x
    | bk s' => rw [q] at hrun; exact (hne hrun.symm).elim
    | ct s' => rw [q] at hrun; exact (hne hrun.symm).elim
    | bad => rw [q] at hrun; exact (hne hrun.symm).elim
structure KnO (P : Program) (w : World) (K : PySem.W.Frag) (mg : Str → Option Value) (base : Heap) (G : GE) (x : Str) (n : Nat) (g : List D → R D) (k : Nat) : Prop where
  ex : ∃ f fd ps, FnOk P w K mg base (L2.CX P w) k f fd ps (spO G n g) ∧ mg x = some (.ref f) ∧ PySem.W.keepIn K (.ref f) = true ∧ Binds K fd ps []
theorem kn_mkO {P : Program} {w : World} {K : PySem.W.Frag} {mg : Str → Option Value} {base : Heap} {G : GE} {x : Str} {f : Addr} {fd : FuncData} {ps : List Str} {n k : Nat} {g : List D → R D} (h : FnOk P w K mg base (L2.CX P w) k f fd ps (spO G n g))
    (hm : mg x = some (.ref f)) (hk : PySem.W.keepIn K (.ref f) = true) (hb : Binds K fd ps []) : KnO P w K mg base G x n g k := ⟨⟨f, fd, ps, h, hm, hk, hb⟩⟩
section
variable {X : Cx} {C : CT} {W : WX} {a b : Expr} {fa fb : SS → R D} {pos p : Pos} {x : Str} {k : Nat} {g : List D → R D}
theorem s_callO (v : Pq X C W) (F : KnO X.prog X.w X.K X.mg X.base C.G x 1 g k) (hr : Room k X.A) (hg : Gl X x) (ha : PE X a (tF C W fa)) (hb : PE X b (tD C W fb)) (hdb : (x == ("__debug__" : Str)) = false := by decide)
    (he : starEach [a, b] X.env = (false, eval a X.env) :: starEach [b] X.env := by rfl) (he2 : starEach [b] X.env = (false, eval b X.env) :: starEach [] X.env := by rfl) (hpl : (backTo pos (starEach [b] X.env)).any (·.1) = false := by rfl) : PE X (.Call (.Name x p) [a, b] [] pos) (tD C W (eCall g (aCons fa (aCons fb aNil)))) := by
  obtain ⟨f, fd, ps, F1, F2, F3, F4⟩ := F.ex
  refine pe_imp (pe_callS F1 hr hg F2 F3 F4 (fun σ => passAt v.tk σ) (pa_cons ha (pa_cons hb pa_nil he2) he) hdb he hpl) fun σ H Q ⟨F, sd, S, h⟩ => ?_
  refine ⟨F, sd, S, ?_⟩
  unfold eCall aCons at h
  cases q : fa sd with
  | ok d0 =>
    rw [q] at h
    rintro u F1' H1 e1 ⟨y, rfl, hHy, hFy, ow⟩
    refine ⟨F1', sd, S.mono e1, ?_⟩
    cases q2 : fb sd with
    | ok d1 =>
      intro u1 F2' H2 e2 r1
      have h : PostE C W F H σ (pD C) Q (g [d0, d1]) := by simpa [R.bind, q2, aNil] using h
      obtain ⟨o, ho⟩ := ow_there ow
      have e12 := e1.trans e2
      refine ⟨F2', H, d0, [d1], y, [u1], rfl, e12.hh, hHy, e2.fh, e2.ow y o ho hFy, ow.mono e2.ff (e2.hh y), rfl, RepL.cons r1 RepL.nil, ?_⟩
      have ext : ∀ {F' H' : Hp}, Ext F2' H F' H' → Ext F H F' H' := fun {F' H'} e => ⟨e12.ff.trans e.ff, e.hh, e.fh, fun b o h1 h2 => e.ow b o h1 (e12.ow b o h1 h2)⟩
      cases q3 : g [d0, d1] with
      | ok d =>
        rw [q3] at h
        exact fun v F' H' e r => h v F' H' (ext e) r
      | ex c us =>
        rw [q3] at h
        exact fun cls dx F' H' e x => h cls dx F' H' (ext e) x
      | bad => rw [q3] at h; exact h
    | ex c us =>
      have h : PostE C W F H σ (pD C) Q (.ex c us) := by simpa [R.bind, q2, aNil] using h
      exact fun cls dx F' H' e x => h cls dx F' H' (e1.trans e) x
    | bad =>
      have h : PostE C W F H σ (pD C) Q .bad := by simpa [R.bind, q2, aNil] using h
      exact h
  | ex c us =>
    rw [q] at h
    exact h
  | bad => rw [q] at h; exact h
end
end
end Z
namespace Z
noncomputable section
open PySem PySem.Spec PySem.P PyProof.Rows L2
/-! ### orbits of a permutation -/
def itf (f : List Nat → List Nat) : Nat → List Nat → List Nat
  | 0, w => w
  | i + 1, w => f (itf f i w)
theorem itf_add (f : List Nat → List Nat) (j : Nat) (w : List Nat) : ∀ i, itf f (i + j) w = itf f i (itf f j w)
  | 0 => by rw [Nat.zero_add]; rfl
  | i + 1 => by
    rw [Nat.succ_add]
    show f (itf f (i + j) w) = f (itf f i (itf f j w))
    rw [itf_add f j w i]
/-- a permutation of a list of words -/
structure PermOn (A : List (List Nat)) (f : List Nat → List Nat) : Prop where
  into : ∀ w ∈ A, f w ∈ A
  inj : ∀ v ∈ A, ∀ w ∈ A, f v = f w → v = w
theorem PermOn.mem {A : List (List Nat)} {f : List Nat → List Nat} (h : PermOn A f) {w : List Nat} (hw : w ∈ A) : ∀ i, itf f i w ∈ A
  | 0 => hw
  | i + 1 => h.into _ (h.mem hw i)
theorem PermOn.cancel {A : List (List Nat)} {f : List Nat → List Nat} (h : PermOn A f) {v w : List Nat} (hv : v ∈ A) (hw : w ∈ A) : ∀ i, itf f i v = itf f i w → v = w
  | 0, e => e
  | i + 1, e => h.cancel hv hw i (h.inj _ (h.mem hv i) _ (h.mem hw i) e)
/-- the way back: the least number of steps -/
def Back (f : List Nat → List Nat) (w : List Nat) (r : Nat) : Prop := 1 ≤ r ∧ itf f r w = w ∧ ∀ j, 0 < j → j < r → itf f j w ≠ w
theorem least_of {P : Nat → Prop} {m : Nat} (h : P m) : ∃ r, P r ∧ r ≤ m ∧ ∀ j, j < r → ¬ P j := by
  induction m using Nat.strongRecOn with
  | _ m ih =>
    by_cases c : ∃ j, j < m ∧ P j
    · obtain ⟨j, hj, hp⟩ := c
      obtain ⟨r, a, b, d⟩ := ih j hj hp
      exact ⟨r, a, by omega, d⟩
    · exact ⟨m, h, Nat.le_refl _, fun j hj hp => c ⟨j, hj, hp⟩⟩
theorem PermOn.back {A : List (List Nat)} {f : List Nat → List Nat} (h : PermOn A f) {w : List Nat} (hw : w ∈ A) : ∃ r, Back f w r ∧ r ≤ A.length := by
  have ex : ∃ m, (1 ≤ m ∧ itf f m w = w) ∧ m ≤ A.length := by
    refine Classical.byContradiction fun no => ?_
    have nd : ((List.range (A.length + 1)).map fun i => itf f i w).Nodup := by
      refine List.pairwise_map.mpr (List.pairwise_iff_getElem.mpr fun i j hi hj hij e => ?_)
      simp only [List.getElem_range] at e
      have hj' : j < A.length + 1 := by simpa using hj
      have e2 : itf f i (itf f (j - i) w) = itf f i w := by
        rw [← itf_add, show i + (j - i) = j by omega]
        exact e.symm
      exact no ⟨j - i, ⟨by omega, h.cancel (h.mem hw _) hw i e2⟩, by omega⟩
    have := nodup_le nd (fun x hx => by
      obtain ⟨i, _, rfl⟩ := List.mem_map.mp hx
      exact h.mem hw i)
    simp at this
    omega
  obtain ⟨m, hm, hl⟩ := ex
  obtain ⟨r, ⟨a, b⟩, c, d⟩ := least_of (P := fun m => 1 ≤ m ∧ itf f m w = w) hm
  exact ⟨r, ⟨a, b, fun j hj hjr e => d j hjr ⟨hj, e⟩⟩, by omega⟩
def orb (f : List Nat → List Nat) (w : List Nat) (r : Nat) : List (List Nat) := (List.range r).map fun i => itf f i w
theorem orb_len (f : List Nat → List Nat) (w : List Nat) (r : Nat) : (orb f w r).length = r := by simp [orb]
theorem orb_get (f : List Nat → List Nat) (w : List Nat) {r i : Nat} (h : i < r) : (orb f w r)[i]? = some (itf f i w) := by simp [orb, h]
theorem Back.mod {f : List Nat → List Nat} {w : List Nat} {r : Nat} (h : Back f w r) : ∀ i, itf f i w = itf f (i % r) w := fun i => by
  have go : ∀ q m, itf f (m + r * q) w = itf f m w := fun q => by
    induction q with
    | zero => intro m; rw [Nat.mul_zero, Nat.add_zero]
    | succ q ih =>
      intro m
      rw [Nat.mul_succ, ← Nat.add_assoc, itf_add, h.2.1, ih]
  have := go (i / r) (i % r)
  rw [Nat.mod_add_div] at this
  exact this
theorem mem_orb {f : List Nat → List Nat} {w : List Nat} {r : Nat} (h : Back f w r) {x : List Nat} : x ∈ orb f w r ↔ ∃ i, itf f i w = x := by
  unfold orb
  rw [List.mem_map]
  constructor
  · rintro ⟨i, _, e⟩; exact ⟨i, e⟩
  · rintro ⟨i, e⟩
    exact ⟨i % r, by simpa using Nat.mod_lt _ (show 0 < r from h.1), by rw [← h.mod]; exact e⟩
theorem PermOn.orb_nd {A : List (List Nat)} {f : List Nat → List Nat} (h : PermOn A f) {w : List Nat} (hw : w ∈ A) {r : Nat} (hb : Back f w r) : (orb f w r).Nodup := by
  refine List.pairwise_map.mpr (List.pairwise_iff_getElem.mpr fun i j hi hj hij e => ?_)
  simp only [List.getElem_range] at e
  have hj' : j < r := by simpa using hj
  have e2 : itf f i (itf f (j - i) w) = itf f i w := by
    rw [← itf_add, show i + (j - i) = j by omega]
    exact e.symm
  exact hb.2.2 (j - i) (by omega) (by omega) (h.cancel (h.mem hw _) hw i e2)
/-- one reaches the other -/
def Orb (f : List Nat → List Nat) (v w : List Nat) : Prop := ∃ i, itf f i v = w
theorem Orb.refl {f : List Nat → List Nat} (w : List Nat) : Orb f w w := ⟨0, rfl⟩
theorem Orb.trans {f : List Nat → List Nat} {u v w : List Nat} : Orb f u v → Orb f v w → Orb f u w
  | ⟨i, a⟩, ⟨j, b⟩ => ⟨j + i, by rw [itf_add, a, b]⟩
theorem Orb.symm {A : List (List Nat)} {f : List Nat → List Nat} (h : PermOn A f) {v w : List Nat} (hv : v ∈ A) (o : Orb f v w) : Orb f w v := by
  obtain ⟨i, rfl⟩ := o
  obtain ⟨r, hb, _⟩ := h.back hv
  have hm := Nat.mod_lt i (show 0 < r from hb.1)
  refine ⟨r - i % r, ?_⟩
  rw [hb.mod i, ← itf_add, show r - i % r + i % r = r by omega]
  exact hb.2.1
/-- the text of a round: from its least word on, the first letters -/
def minL : List (List Nat) → List Nat
  | [] => []
  | y :: ys => minT y ys
theorem minL_spec {us : List (List Nat)} (h : us ≠ []) : minL us ∈ us ∧ ∀ x ∈ us, ¬ x < minL us := by
  cases us with
  | nil => exact absurd rfl h
  | cons y ys => exact minT_spec ys y
def roundT (us : List (List Nat)) : List Nat := (us.drop (us.idxOf (minL us)) ++ us.take (us.idxOf (minL us))).map fun w => w.headD 0
theorem idxL_t (us : List (List Nat)) (x : List Nat) (h : x ∈ us) : idxL (.lst (us.map .str)) [.str x] = .ok (.int (us.idxOf x : Nat)) := by
  have hd := depL_strs us
  have ha : (us.map D.str).any (fun z => eqv z (.str x)) = true := by
    rw [eqvS_any]
    exact decide_eq_true h
  unfold idxL
  dsimp only
  rw [if_pos ⟨by rw [hd]; omega, by simp [dep]⟩, if_pos ha, List.findIdx_map]
  rfl
theorem min1D_l (us : List (List Nat)) (h : us ≠ []) : min1D [.lst (us.map .str)] = .ok (.str (minL us)) := by
  cases us with
  | nil => exact absurd rfl h
  | cons y ys => exact min1D_s y ys
end
end Z
namespace Z
noncomputable section
open PySem PySem.Spec PySem.P PyProof.Rows L2
/-! ### len of a dict -/
def lenKD : List D → R D
  | [.dic ks _] => .ok (.int ks.length)
  | _ => .bad
theorem lenKD_ne : NoExL lenKD := fun x c vs h => by
  unfold lenKD at h
  split at h <;> cases h
@[simp] theorem lenKD_t (ks : List (List Nat × D)) : lenKD [dicT ks] = .ok (.int ks.length) := by
  simp [lenKD, dicT]
theorem lenKD_set (ms : List (List Nat)) : lenKD [dicT (setP ms)] = .ok (.int ms.length) := by rw [lenKD_t, setP_len]
section
variable {X : Cx} {C : CT} {W : WX}
theorem call_lenKD : CallR X (.builtin "len") (rC C.G lenKD) := by
  intro pins s σ H xs us Q I r h
  obtain ⟨F, ds, S, r2, p⟩ := h
  unfold lenKD at p
  split at p
  · obtain ⟨v, rfl, b⟩ := pair1 r2
    obtain ⟨a, kvs, rfl, hr, rfl, nd, rr⟩ := bor_dic S b
    obtain ⟨u, rfl, ru⟩ := vals1 r
    cases ru
    refine d_len I hr fun t s' I' => ⟨.int kvs.length, H, I', ⟨t, rfl⟩, ?_⟩
    have := p.int S
    rw [List.length_map] at this
    exact this
  · exact p.elim
end
end
end Z
namespace Z
noncomputable section
open PySem PySem.Spec PySem.P PyProof.Rows L2
/-! ### how long a round is -/
theorem Back.uniq {f : List Nat → List Nat} {w : List Nat} {r s : Nat} (h : Back f w r) (g : Back f w s) : r = s := by
  rcases Nat.lt_trichotomy r s with c | c | c
  · exact absurd h.2.1 (g.2.2 r h.1 c)
  · exact c
  · exact absurd g.2.1 (h.2.2 s g.1 c)
open Classical in
def per (f : List Nat → List Nat) (w : List Nat) : Nat := if h : ∃ r, Back f w r then Classical.choose h else 1
theorem per_of {f : List Nat → List Nat} {w : List Nat} {r : Nat} (h : Back f w r) : per f w = r := by
  have e : ∃ r, Back f w r := ⟨r, h⟩
  unfold per
  rw [dif_pos e]
  exact (Classical.choose_spec e).uniq h
theorem PermOn.per {A : List (List Nat)} {f : List Nat → List Nat} (h : PermOn A f) {w : List Nat} (hw : w ∈ A) : Back f w (per f w) ∧ per f w ≤ A.length := by
  obtain ⟨r, hb, hl⟩ := h.back hw
  rw [per_of hb]
  exact ⟨hb, hl⟩
def orbit (f : List Nat → List Nat) (w : List Nat) : List (List Nat) := orb f w (per f w)
theorem PermOn.mem_orbit {A : List (List Nat)} {f : List Nat → List Nat} (h : PermOn A f) {w x : List Nat} (hw : w ∈ A) : x ∈ orbit f w ↔ Orb f w x := mem_orb (h.per hw).1
def rnd (f : List Nat → List Nat) (w : List Nat) : List Nat := roundT (orbit f w)
/-- one word of each round -/
structure Reps (A : List (List Nat)) (f : List Nat → List Nat) (us reps : List (List Nat)) : Prop where
  sub : ∀ u ∈ reps, u ∈ A
  apart : reps.Pairwise fun u v => ¬ Orb f u v
  all : ∀ w ∈ us, ∃ u ∈ reps, Orb f u w
end
end Z
namespace Z
noncomputable section
open PySem PySem.Spec PySem.P PyProof.Rows L2
/-! ### the turning rule: rounds are roots of least turns -/
theorem rot_per {w : List Nat} (hw : w ≠ []) : ∀ k, k < w.length → rot w k = rot w (k % rlen w) := fun k hk => by
  obtain ⟨r1, r2, r3⟩ := rlen_spec hw
  obtain ⟨p1, p2, p3⟩ := rtOk_iff.mp r2
  have hp := List.length_pos_iff.mpr hw
  have hkm : k % rlen w < rlen w := Nat.mod_lt _ p1
  apply List.ext_getElem?
  intro i
  by_cases hi : i < w.length
  · rw [rot_get w k i (by omega) hi, rot_get w _ i (by omega) hi, p3 _ (Nat.mod_lt _ hp), p3 ((i + k % rlen w) % w.length) (Nat.mod_lt _ hp),
      Nat.mod_mod_of_dvd _ (Nat.dvd_of_mod_eq_zero p2), Nat.mod_mod_of_dvd _ (Nat.dvd_of_mod_eq_zero p2), Nat.add_mod_mod]
  · rw [List.getElem?_eq_none (by rw [rot_len]; omega), List.getElem?_eq_none (by rw [rot_len]; omega)]
theorem rot_ne {w : List Nat} (hw : w ≠ []) {j : Nat} (h0 : 0 < j) (hj : j < rlen w) : rot w j ≠ w := fun e => by
  obtain ⟨r1, r2, r3⟩ := rlen_spec hw
  have := rt_of_rot e (by omega) (by omega)
  omega
theorem itf_rot {f : List Nat → List Nat} {A : List (List Nat)} {n : Nat} (hn : 1 ≤ n) (hf : ∀ w ∈ A, f w = rot w 1) (hA : ∀ w ∈ A, w.length = n) (P : PermOn A f) {w : List Nat} (hw : w ∈ A) : ∀ i, itf f i w = rot w (i % n)
  | 0 => by rw [Nat.zero_mod, rot_zero]; rfl
  | i + 1 => by
    have ih := itf_rot hn hf hA P hw i
    have hm := P.mem hw i
    show f (itf f i w) = _
    rw [hf _ hm, ih, rot_rot w _ _ (by rw [hA w hw]; exact Nat.le_of_lt (Nat.mod_lt _ (by omega))) (by rw [hA w hw]; exact hn) (by rw [hA w hw]; omega), hA w hw, Nat.mod_add_mod]
theorem back_rot {f : List Nat → List Nat} {A : List (List Nat)} {n : Nat} (hn : 1 ≤ n) (hf : ∀ w ∈ A, f w = rot w 1) (hA : ∀ w ∈ A, w.length = n) (P : PermOn A f) {w : List Nat} (hw : w ∈ A) : Back f w (rlen w) := by
  have hl := hA w hw
  have h0 : w ≠ [] := fun e => by rw [e] at hl; simp at hl; omega
  obtain ⟨r1, r2, r3⟩ := rlen_spec h0
  have it := itf_rot hn hf hA P hw
  refine ⟨rlen_pos h0, ?_, fun j h1 h2 => ?_⟩
  · rw [it]
    by_cases e : rlen w = n
    · rw [e, Nat.mod_self, rot_zero]
    · have hlt : rlen w < n := by omega
      rw [Nat.mod_eq_of_lt hlt, rot_per h0 _ (by omega), Nat.mod_self, rot_zero]
  · rw [it, Nat.mod_eq_of_lt (by omega)]
    exact rot_ne h0 h1 h2
theorem rnd_rot {f : List Nat → List Nat} {A : List (List Nat)} {n : Nat} (hn : 1 ≤ n) (hf : ∀ w ∈ A, f w = rot w 1) (hA : ∀ w ∈ A, w.length = n) (P : PermOn A f) {w : List Nat} (hw : w ∈ A) : rnd f w = rootW (lrot w) := by
  have hl := hA w hw
  have h0 : w ≠ [] := fun e => by rw [e] at hl; simp at hl; omega
  have hp := List.length_pos_iff.mpr h0
  obtain ⟨r1, r2, r3⟩ := rlen_spec h0
  obtain ⟨p1, p2, p3⟩ := rtOk_iff.mp r2
  have hb := back_rot hn hf hA P hw
  have it := itf_rot hn hf hA P hw
  have eo : orbit f w = (List.range (rlen w)).map (rot w) := by
    unfold orbit orb
    rw [per_of hb]
    refine List.map_congr_left fun i hi => ?_
    have : i < rlen w := by simpa using hi
    rw [it, Nat.mod_eq_of_lt (by omega)]
  unfold rnd roundT
  rw [eo]
  generalize hus : (List.range (rlen w)).map (rot w) = us
  have hul : us.length = rlen w := by rw [← hus]; simp
  have hug : ∀ i, i < rlen w → us[i]? = some (rot w i) := fun i hi => by rw [← hus]; simp [hi]
  have hne : us ≠ [] := fun e => by rw [e] at hul; simp at hul; omega
  obtain ⟨m1, m2⟩ := minL_spec hne
  have hmin : minL us = lrot w := by
    refine lrot_uniq h0 ?_ fun x hx => ?_
    · rw [← hus] at m1
      obtain ⟨i, hi, e⟩ := List.mem_map.mp m1
      rw [← hus, ← e]
      exact mem_rots.mpr ⟨i, by have : i < rlen w := by simpa using hi
                                omega, rfl⟩
    · obtain ⟨k, hk, rfl⟩ := mem_rots.mp hx
      refine m2 _ ?_
      rw [rot_per h0 k hk]
      exact List.mem_of_getElem? (hug _ (Nat.mod_lt _ p1))
  rw [hmin]
  have him : lrot w ∈ us := hmin ▸ m1
  have hi0 : us.idxOf (lrot w) < us.length := List.idxOf_lt_length_of_mem him
  have hi1 : us[us.idxOf (lrot w)]? = some (lrot w) := by
    rw [List.getElem?_eq_getElem hi0, List.getElem_idxOf hi0]
  generalize us.idxOf (lrot w) = i at *
  rw [hul] at hi0
  rw [hug i hi0] at hi1
  have hlr : rot w i = lrot w := by injection hi1
  unfold rootW
  rw [rlen_lrot h0, ← hlr]
  have hhead : ∀ m, m < rlen w → (rot w m).headD 0 = w.getD m 0 := fun m hm => by
    have e := rot_get w m 0 (by omega) hp
    rw [Nat.zero_add, Nat.mod_eq_of_lt (by omega)] at e
    rw [List.getD_eq_getElem?_getD, ← e]
    cases rot w m <;> rfl
  apply List.ext_getElem?
  intro j
  by_cases hj : j < rlen w
  · have hwg : ∀ m, m < rlen w → (us[m]?).map (fun w => w.headD 0) = w[m]? := fun m hm => by
      rw [hug m hm]
      show some ((rot w m).headD 0) = _
      rw [hhead m hm, List.getD_eq_getElem?_getD, List.getElem?_eq_getElem (by omega)]
      rfl
    rw [List.getElem?_map, List.getElem?_take, if_pos hj, rot_get w i j (by omega) (by omega)]
    by_cases c : j < rlen w - i
    · rw [List.getElem?_append_left (by simp; omega), List.getElem?_drop, hwg _ (by omega), Nat.mod_eq_of_lt (by omega), Nat.add_comm]
    · rw [List.getElem?_append_right (by simp; omega), List.length_drop, hul, List.getElem?_take, if_pos (by omega), hwg _ (by omega)]
      by_cases d : j + i < w.length
      · rw [Nat.mod_eq_of_lt d, p3 _ d, Nat.mod_eq_sub_mod (by omega), Nat.mod_eq_of_lt (by omega)]
        congr 1
        omega
      · have hq : w.length = rlen w := by
          obtain ⟨q, hq⟩ := Nat.dvd_of_mod_eq_zero p2
          have : q = 1 := by
            have q0 : q ≠ 0 := fun e => by rw [e] at hq; omega
            refine Classical.byContradiction fun hne => ?_
            have : rlen w * 2 ≤ rlen w * q := Nat.mul_le_mul_left _ (by omega)
            omega
          rw [this] at hq
          omega
        rw [hq, Nat.mod_eq_sub_mod (by omega), Nat.mod_eq_of_lt (by omega)]
        congr 1
        omega
  · rw [List.getElem?_eq_none (by simp; omega), List.getElem?_eq_none (by simp; omega)]
theorem root_same {u v : List Nat} (hu : u ≠ []) (hv : v ≠ []) (hl : u.length = v.length) (e : rootW (lrot u) = rootW (lrot v)) : lrot u = lrot v := by
  have h1 := root_rep (lrot_nil hu)
  have h2 := root_rep (lrot_nil hv)
  have l1 := root_len (lrot_nil hu)
  have l2 := root_len (lrot_nil hv)
  rw [← h1, ← h2, ← l1, ← l2, e, lrot_len hu, lrot_len hv, hl]
theorem orb_of_lrot {f : List Nat → List Nat} {A : List (List Nat)} {n : Nat} (hn : 1 ≤ n) (hf : ∀ w ∈ A, f w = rot w 1) (hA : ∀ w ∈ A, w.length = n) (P : PermOn A f) {u v : List Nat} (hu : u ∈ A) (hv : v ∈ A) (e : lrot u = lrot v) : Orb f u v := by
  have ul := hA u hu
  have vl := hA v hv
  have u0 : u ≠ [] := fun e => by rw [e] at ul; simp at ul; omega
  have v0 : v ≠ [] := fun e => by rw [e] at vl; simp at vl; omega
  obtain ⟨j, hj, ej⟩ := mem_rots.mp (lrot_spec u0).1
  obtain ⟨m, hm, em⟩ := lrot_back v0
  have it := itf_rot hn hf hA P hu
  refine ⟨(j + m) % n, ?_⟩
  rw [it, Nat.mod_mod, em, ← e, ej, rot_rot u j m (by omega) (by omega) (by omega), ul]
end
end Z
namespace L48
open PySem PySem.Spec PySem.P PyProof.Rows L2 Z
noncomputable def m_law_stir : SS → RS :=
  (sSeq (sSet 2 (eBin modD (eBin addD (eBin mulD (eBin modD (eR 0) (eC (.int 1000000007))) (eC (.int 48271))) (eBin mulD (eBin mulD (eBin addD (eR 1) (eC (.int 1))) (eBin addD (eR 1) (eC (.int 1)))) (eC (.int 69621)))) (eC (.int 2147483647))))
  (sRet (eBin modD (eBin mulD (eR 2) (eR 2)) (eC (.int 2147483629)))))
noncomputable def f_law_stir : List D → R D := runB false 3 m_law_stir
theorem law_stir_ok (x : Int) (k : Int) (hk : 0 ≤ k ∧ k ≤ 100000) : ∃ z : Int, f_law_stir [.int x, .int k] = .ok (.int z) ∧ 0 ≤ z := by
  have mu : ∀ p q : Int, p.natAbs < 18446744073709551616 → mulD (.int p) (.int q) = .ok (.int (p * q)) := fun p q h => by rw [mulD_i, if_pos (.inl h)]
  have m1 := modD_i x 1000000007 (by omega)
  have hx : 0 ≤ x % 1000000007 ∧ x % 1000000007 < 1000000007 := ⟨Int.emod_nonneg _ (by omega), Int.emod_lt_of_pos _ (by omega)⟩
  generalize x % 1000000007 = y at *
  have u1 := mu y 48271 (by omega)
  have u2 := mu (k + 1) (k + 1) (by omega)
  have hkk : 0 ≤ (k + 1) * (k + 1) ∧ (k + 1) * (k + 1) ≤ 100001 * 100001 := ⟨Int.mul_nonneg (by omega) (by omega), Int.mul_le_mul (by omega) (by omega) (by omega) (by omega)⟩
  generalize (k + 1) * (k + 1) = kk at *
  have u3 := mu kk 69621 (by omega)
  have m2 := modD_i (y * 48271 + kk * 69621) 2147483647 (by omega)
  have hm : 0 ≤ (y * 48271 + kk * 69621) % 2147483647 ∧ (y * 48271 + kk * 69621) % 2147483647 < 2147483647 := ⟨Int.emod_nonneg _ (by omega), Int.emod_lt_of_pos _ (by omega)⟩
  generalize (y * 48271 + kk * 69621) % 2147483647 = m at *
  have u4 := mu m m (by omega)
  have m3 := modD_i (m * m) 2147483629 (by omega)
  refine ⟨m * m % 2147483629, ?_, Int.emod_nonneg _ (by omega)⟩
  generalize m * m = mm at *
  simp [f_law_stir, m_law_stir, runB_s, List.replicate, m1, u1, u2, u3, m2, u4, m3]

noncomputable def m_law_size : SS → RS :=
  (sSeq (sSet 1 (eLst (aCons (eTup (aCons (eC (.int 6)) (aCons (eC (.int 2)) aNil))) (aCons (eTup (aCons (eC (.int 5)) (aCons (eC (.int 2)) aNil))) (aCons (eTup (aCons (eC (.int 3)) (aCons (eC (.int 4)) aNil))) (aCons (eTup (aCons (eC (.int 3)) (aCons (eC (.int 3)) aNil))) (aCons (eTup (aCons (eC (.int 2)) (aCons (eC (.int 6)) aNil))) (aCons (eTup (aCons (eC (.int 2)) (aCons (eC (.int 5)) aNil))) (aCons (eTup (aCons (eC (.int 4)) (aCons (eC (.int 2)) aNil))) (aCons (eTup (aCons (eC (.int 2)) (aCons (eC (.int 4)) aNil))) (aCons (eTup (aCons (eC (.int 2)) (aCons (eC (.int 3)) aNil))) (aCons (eTup (aCons (eC (.int 3)) (aCons (eC (.int 2)) aNil))) (aCons (eTup (aCons (eC (.int 2)) (aCons (eC (.int 2)) aNil))) aNil)))))))))))))
  (sSeq (sSet 1 (eBin addD (eR 1) (eLst (aCons (eTup (aCons (eC (.int 1)) (aCons (eC (.int 6)) aNil))) (aCons (eTup (aCons (eC (.int 1)) (aCons (eC (.int 5)) aNil))) (aCons (eTup (aCons (eC (.int 1)) (aCons (eC (.int 4)) aNil))) (aCons (eTup (aCons (eC (.int 1)) (aCons (eC (.int 3)) aNil))) (aCons (eTup (aCons (eC (.int 1)) (aCons (eC (.int 2)) aNil))) (aCons (eTup (aCons (eC (.int 1)) (aCons (eC (.int 1)) aNil))) (aCons (eTup (aCons (eC (.int 5)) (aCons (eC (.int 1)) aNil))) (aCons (eTup (aCons (eC (.int 8)) (aCons (eC (.int 1)) aNil))) aNil)))))))))))
  (sRet (eBin ixD (eR 1) (eBin modD (eR 0) (eCall lenD (aCons (eR 1) aNil)))))))
noncomputable def f_law_size : List D → R D := runB false 2 m_law_size
theorem law_size_ok (x : Int) : ∃ n k : Nat, f_law_size [.int x] = .ok (.tup [.int n, .int k]) ∧ 1 ≤ k ∧ k ≤ 6 ∧ 1 ≤ n ∧ n ≤ 8 ∧ k ^ n ≤ 64 := by
  obtain ⟨d, hd, e⟩ := pick_mod [.tup [.int 6, .int 2], .tup [.int 5, .int 2], .tup [.int 3, .int 4], .tup [.int 3, .int 3], .tup [.int 2, .int 6], .tup [.int 2, .int 5], .tup [.int 4, .int 2], .tup [.int 2, .int 4], .tup [.int 2, .int 3], .tup [.int 3, .int 2], .tup [.int 2, .int 2], .tup [.int 1, .int 6], .tup [.int 1, .int 5], .tup [.int 1, .int 4], .tup [.int 1, .int 3], .tup [.int 1, .int 2], .tup [.int 1, .int 1], .tup [.int 5, .int 1], .tup [.int 8, .int 1]] 19 x rfl (by omega)
  have m := modD_i x 19 (by omega)
  have z : (19 : Nat) ≤ SZ := le_sz (by omega)
  have z11 : (11 : Nat) ≤ SZ := le_sz (by omega)
  have z8 : (8 : Nat) ≤ SZ := le_sz (by omega)
  have ad : addD (.lst [.tup [.int 6, .int 2], .tup [.int 5, .int 2], .tup [.int 3, .int 4], .tup [.int 3, .int 3], .tup [.int 2, .int 6], .tup [.int 2, .int 5], .tup [.int 4, .int 2], .tup [.int 2, .int 4], .tup [.int 2, .int 3], .tup [.int 3, .int 2], .tup [.int 2, .int 2]]) (.lst [.tup [.int 1, .int 6], .tup [.int 1, .int 5], .tup [.int 1, .int 4], .tup [.int 1, .int 3], .tup [.int 1, .int 2], .tup [.int 1, .int 1], .tup [.int 5, .int 1], .tup [.int 8, .int 1]]) = .ok (.lst [.tup [.int 6, .int 2], .tup [.int 5, .int 2], .tup [.int 3, .int 4], .tup [.int 3, .int 3], .tup [.int 2, .int 6], .tup [.int 2, .int 5], .tup [.int 4, .int 2], .tup [.int 2, .int 4], .tup [.int 2, .int 3], .tup [.int 3, .int 2], .tup [.int 2, .int 2], .tup [.int 1, .int 6], .tup [.int 1, .int 5], .tup [.int 1, .int 4], .tup [.int 1, .int 3], .tup [.int 1, .int 2], .tup [.int 1, .int 1], .tup [.int 5, .int 1], .tup [.int 8, .int 1]]) := by
    rw [addD_l, if_pos (le_sz (by simp))]
    rfl
  have hh : f_law_size [.int x] = .ok d := by
    generalize x % 19 = y at *
    simp [f_law_size, m_law_size, runB_s, List.replicate, m, z, z11, z8, ad, e]
  rw [hh]
  simp at hd
  have go : ∀ n k : Nat, d = .tup [.int n, .int k] → 1 ≤ k ∧ k ≤ 6 ∧ 1 ≤ n ∧ n ≤ 8 ∧ k ^ n ≤ 64 → ∃ n k : Nat, (R.ok d : R D) = .ok (.tup [.int n, .int k]) ∧ 1 ≤ k ∧ k ≤ 6 ∧ 1 ≤ n ∧ n ≤ 8 ∧ k ^ n ≤ 64 := fun n k h1 h2 => ⟨n, k, by rw [h1], h2⟩
  rcases hd with h | h | h | h | h | h | h | h | h | h | h | h | h | h | h | h | h | h | h
  · exact go 6 2 h (by decide)
  · exact go 5 2 h (by decide)
  · exact go 3 4 h (by decide)
  · exact go 3 3 h (by decide)
  · exact go 2 6 h (by decide)
  · exact go 2 5 h (by decide)
  · exact go 4 2 h (by decide)
  · exact go 2 4 h (by decide)
  · exact go 2 3 h (by decide)
  · exact go 3 2 h (by decide)
  · exact go 2 2 h (by decide)
  · exact go 1 6 h (by decide)
  · exact go 1 5 h (by decide)
  · exact go 1 4 h (by decide)
  · exact go 1 3 h (by decide)
  · exact go 1 2 h (by decide)
  · exact go 1 1 h (by decide)
  · exact go 5 1 h (by decide)
  · exact go 8 1 h (by decide)

noncomputable def m_law_words : SS → RS :=
  (sSeq (sSet 2 (eLst (aCons (eC (.str [])) aNil)))
  (sSeq (sFor (iRg1 (aCons (eR 0) aNil)) (gN 3) (sSeq (sSetO 4 (eLst aNil))
  (sSeq (sFor (iE (eV 2)) (gN 5) (sFor (iE (eSl (eC (.str [97, 98, 99, 100, 101, 102])) oNo (oSo (eV 1)))) (gN 6) (sApp 4 (eBin addD (eR 5) (eR 6)))))
  (sFrz 4 (sSet 2 (eV 4))))))
  (sRet (eV 2))))
noncomputable def f_law_words : List D → R D := runB false 7 m_law_words
theorem law_words_ok (n k : Nat) (h1 : 1 ≤ k) (h6 : k ≤ 6) (hn8 : n ≤ 8) (h : k ^ n ≤ 64) : f_law_words [.int n, .int k] = .ok (.lst ((allW k n).map .str)) := by
  have sab : slD (.str [97, 98, 99, 100, 101, 102]) none (some (k : Int)) = .ok (.str (abc k)) := by
    rw [slD_s _ _ _ (le_sz (by simp)), cutL_to _ _ (by omega)]
    rfl
  have hal : (abc k).length = k := abc_len h6
  have e0 : (D.lst [D.str []]) = .lst ((allW k 0).map .str) := rfl
  simp [f_law_words, m_law_words, runB_s, List.replicate]
  rw [rng1_i _ (by unfold fit62; omega), e0]
  simp
  refine forR_q (Q := fun r => fin false (bnd r _) = .ok (.lst ((allW k n).map .str))) (fun i s => ∃ (a b c d : Sl), s = [.sh (.int n), .sh (.int k), .sh (.lst ((allW k i).map .str)), a, b, c, d] ∧ canS (some a) = true ∧ canS (some b) = true ∧ canS (some c) = true ∧ canS (some d) = true) ⟨_, _, _, _, rfl, rfl, rfl, rfl, rfl⟩ ?_ ?_
  · rintro i s hi ⟨a, b, c, d, rfl, ha, hb, hc, hd⟩
    have hil : k ^ i ≤ 64 := Nat.le_trans (Nat.pow_le_pow_right (by omega) (by omega)) h
    have hul : (allW k i).length = k ^ i := allW_len h6 i
    have hlen : ∀ w ∈ allW k i, w.length = i := fun w hw => ((mem_allW h1 h6).mp hw).1
    have hnext : allW k (i + 1) = (allW k i).flatMap fun w => (abc k).map fun c => w ++ [c] := rfl
    rw [hnext]
    generalize allW k i = us at *
    simp [turn_s, ha, hb, hc, hd, gN, setS_s]
    refine bnd_on _ (forM_in (fun j s => ∃ (c d : Sl), s = [.sh (.int n), .sh (.int k), .sh (.lst (us.map .str)), .sh (.int i), .ow (.lst (((us.take j).flatMap fun w => (abc k).map fun c => w ++ [c]).map .str)), c, d] ∧ canS (some c) = true ∧ canS (some d) = true) ⟨_, _, rfl, hc, hd⟩ ?_ fun s' h => h) ?_
    · rintro j w s hj ⟨c, d, rfl, hc, hd⟩
      have hwm := List.mem_of_getElem? hj
      have hwl := hlen w hwm
      have hjl : j < us.length := (List.getElem?_eq_some_iff.mp hj).1
      have hin : (i : Int) < 8 := by omega
      have ad : ∀ c : Nat, addD (.str w) (.str [c]) = .ok (.str (w ++ [c])) := fun c => by rw [addD_s, if_pos (le_sz (by simp; omega))]
      have hfl : ((us.take j).flatMap fun w => (abc k).map fun c => w ++ [c]).length ≤ j * 6 := by
        have : ∀ (vs : List (List Nat)), (vs.flatMap fun w => (abc k).map fun c => w ++ [c]).length = vs.length * (abc k).length := fun vs => by
          induction vs with
          | nil => simp
          | cons v vs ih => rw [List.flatMap_cons, List.length_append, ih, List.length_map, List.length_cons, Nat.succ_mul]; omega
        rw [this, hal]
        have : (us.take j).length ≤ j := by simp; omega
        exact Nat.mul_le_mul this h6
      have hsnoc : (us.take (j + 1)).flatMap (fun w => (abc k).map fun c => w ++ [c]) = (us.take j).flatMap (fun w => (abc k).map fun c => w ++ [c]) ++ (abc k).map fun c => w ++ [c] := by
        rw [List.take_add_one, hj, List.flatMap_append]
        simp
      rw [hsnoc]
      generalize ((us.take j).flatMap fun w => (abc k).map fun c => w ++ [c]) = lg at *
      simp [turn_s, hc, hd, gN, setS_s, sab]
      refine forM_in (fun m s => ∃ d : Sl, s = [.sh (.int n), .sh (.int k), .sh (.lst (us.map .str)), .sh (.int i), .ow (.lst ((lg ++ ((abc k).take m).map fun c => w ++ [c]).map .str)), .sh (.str w), d] ∧ canS (some d) = true) ⟨_, by simp, hd⟩ ?_ ?_
      · rintro m c s hm ⟨d, rfl, hd⟩
        have hml : m < (abc k).length := (List.getElem?_eq_some_iff.mp hm).1
        have hs2 : ((abc k).take (m + 1)) = (abc k).take m ++ [c] := by rw [List.take_add_one, hm]; rfl
        have hs3 : lg ++ ((abc k).take (m + 1)).map (fun c => w ++ [c]) = (lg ++ ((abc k).take m).map fun c => w ++ [c]) ++ [w ++ [c]] := by rw [hs2, List.map_append, ← List.append_assoc]; rfl
        rw [hs3]
        have hl2 : (lg ++ ((abc k).take m).map fun c => w ++ [c]).length + 1 ≤ SZ := le_sz (by simp; omega)
        generalize (lg ++ ((abc k).take m).map fun c => w ++ [c]) = l2 at *
        simp [turn_s, hd, gN, setS_s, ad, hl2]
      · rintro s ⟨d, rfl, hd⟩
        rw [List.take_length]
        exact ⟨.sh (.str w), d, by simp, rfl, hd⟩
    · rintro s ⟨c, d, rfl, hc, hd⟩
      rw [List.take_length]
      generalize (us.flatMap fun w => (abc k).map fun c => w ++ [c]) = lg at *
      simp [frz]
      exact ⟨_, _, _, _, ⟨rfl, rfl, rfl, rfl⟩, rfl, rfl, hc, hd⟩
  · rintro s ⟨a, b, c, d, rfl, ha, hb, hc, hd⟩
    rw [show (((n : Nat) : Int) - 0).toNat = n by omega]
    simp

noncomputable def m_letters : SS → RS :=
  (sSeq (sIf (eOr (eBin ltD (eR 0) (eC (.int 1))) (eBin gtD (eR 0) (eCall lenD (aCons (eC (.str [97, 98, 99, 100, 101, 102])) aNil)))) (sRaise 1) sNx)
  (sRet (eSl (eC (.str [97, 98, 99, 100, 101, 102])) oNo (oSo (eV 0)))))
noncomputable def f_letters : List D → R D := runB false 1 m_letters
theorem letters_ok (k : Int) (h1 : 1 ≤ k) (h2 : k ≤ 6) : f_letters [.int k] = .ok (.str (abc k)) := by
  have hz : ([97, 98, 99, 100, 101, 102] : List Nat).length ≤ SZ := le_sz (by decide)
  simp at hz
  have e1 : ¬ k < 1 := by omega
  have e2 : ¬ 6 < k := by omega
  simp [f_letters, m_letters, runB_s, hz, e1, e2, slD_s]
  rw [cutL_to _ _ (by omega)]
  rfl
theorem letters_bad (k : Int) (h : ¬ (1 ≤ k ∧ k ≤ 6)) : f_letters [.int k] = .ex 1 [] := by
  have hz : ([97, 98, 99, 100, 101, 102] : List Nat).length ≤ SZ := le_sz (by decide)
  simp at hz
  by_cases e1 : k < 1
  · simp [f_letters, m_letters, runB_s, hz, e1]
  · have e2 : 6 < k := by omega
    simp [f_letters, m_letters, runB_s, hz, e1, e2]

noncomputable def m_word_count : SS → RS :=
  (sSeq (sX (eCall f_letters (aCons (eV 1) aNil)))
  (sSeq (sIf (eOr (eBin ltD (eR 0) (eC (.int 1))) (eBin gtD (eR 0) (eC (.int 24)))) (sRaise 2) sNx)
  (sSeq (sSet 2 (eC (.int 1)))
  (sSeq (sFor (iRg1 (aCons (eR 0) aNil)) (gN 3) (sSet 2 (eBin mulD (eR 2) (eR 1))))
  (sRet (eV 2))))))
noncomputable def f_word_count : List D → R D := runB false 4 m_word_count
theorem word_count_badk (n : D) (k : Int) (h : ¬ (1 ≤ k ∧ k ≤ 6)) : f_word_count [n, .int k] = .ex 1 [] := by
  simp [f_word_count, m_word_count, runB_s, List.replicate, letters_bad k h]
theorem word_count_bad (n k : Int) (h1 : 1 ≤ k) (h2 : k ≤ 6) (h : ¬ (1 ≤ n ∧ n ≤ 24)) : f_word_count [.int n, .int k] = .ex 2 [] := by
  by_cases e1 : n < 1
  · simp [f_word_count, m_word_count, runB_s, List.replicate, letters_ok k h1 h2, e1]
  · have e2 : 24 < n := by omega
    simp [f_word_count, m_word_count, runB_s, List.replicate, letters_ok k h1 h2, e1, e2]
theorem word_count_ok (n k : Int) (h1 : 1 ≤ k) (h2 : k ≤ 6) (h3 : 1 ≤ n) (h4 : n ≤ 24) : f_word_count [.int n, .int k] = .ok (.int (k ^ n.toNat)) := by
  have e1 : ¬ n < 1 := by omega
  have e2 : ¬ 24 < n := by omega
  simp [f_word_count, m_word_count, runB_s, List.replicate, letters_ok k h1 h2, e1, e2]
  rw [rng1_i _ (by unfold fit62; omega)]
  simp
  refine forR_then (k := fun r => fin false (bnd r _)) (fun i s => ∃ a : Sl, s = [.sh (.int n), .sh (.int k), .sh (.int (k ^ i)), a] ∧ canS (some a) = true) ⟨_, by simp; rfl, rfl⟩ ?_ ?_
  · rintro i s hi ⟨a, rfl, ha⟩
    simp [turn_s, ha, mulD_i, show k.natAbs < 18446744073709551616 by omega, Int.pow_succ]
  · rintro s ⟨a, rfl, -⟩
    simp

noncomputable def m_size_asked : SS → RS :=
  (sSeq (sX (eCall f_letters (aCons (eV 1) aNil)))
  (sSeq (sIf (eOr (eBin ltD (eR 0) (eC (.int 1))) (eBin gtD (eR 0) (eC (.int 8)))) (sRaise 2) sNx)
  (sSeq (sSet 2 (eCall f_word_count (aCons (eV 0) (aCons (eV 1) aNil))))
  (sSeq (sIf (eBin gtD (eR 2) (eC (.int 64))) (sRaise 3) sNx)
  (sRet (eV 2))))))
noncomputable def f_size_asked : List D → R D := runB false 3 m_size_asked
theorem size_asked_ok (n k : Nat) (h1 : 1 ≤ k) (h6 : k ≤ 6) (hn : 1 ≤ n) (hn8 : n ≤ 8) (h : k ^ n ≤ 64) : f_size_asked [.int n, .int k] = .ok (.int (k ^ n : Nat)) := by
  have e1 := letters_ok (k : Int) (by omega) (by omega)
  have e2 := word_count_ok (n : Int) (k : Int) (by omega) (by omega) (by omega) (by omega)
  have e3 : ((k : Int) ^ ((n : Int).toNat)) = ((k ^ n : Nat) : Int) := by simp
  rw [e3] at e2
  generalize k ^ n = N at *
  have c1 : ¬ (n : Int) < 1 := by omega
  have c2 : ¬ (8 : Int) < n := by omega
  have c3 : ¬ (64 : Int) < N := by omega
  simp [f_size_asked, m_size_asked, runB_s, List.replicate, e1, e2, c1, c2, c3]
theorem size_asked_badk (n : D) (k : Int) (h : ¬ (1 ≤ k ∧ k ≤ 6)) : f_size_asked [n, .int k] = .ex 1 [] := by
  simp [f_size_asked, m_size_asked, runB_s, List.replicate, letters_bad k h]
theorem size_asked_badn (n k : Int) (h1 : 1 ≤ k) (h6 : k ≤ 6) (h : ¬ (1 ≤ n ∧ n ≤ 8)) : f_size_asked [.int n, .int k] = .ex 2 [] := by
  have e1 := letters_ok k h1 h6
  by_cases c : n < 1
  · simp [f_size_asked, m_size_asked, runB_s, List.replicate, e1, c]
  · have c2 : 8 < n := by omega
    simp [f_size_asked, m_size_asked, runB_s, List.replicate, e1, c, c2]
theorem size_asked_many (n k : Nat) (h1 : 1 ≤ k) (h6 : k ≤ 6) (hn : 1 ≤ n) (hn8 : n ≤ 8) (h : 64 < k ^ n) : f_size_asked [.int n, .int k] = .ex 3 [] := by
  have e1 := letters_ok (k : Int) (by omega) (by omega)
  have e2 := word_count_ok (n : Int) (k : Int) (by omega) (by omega) (by omega) (by omega)
  have e3 : ((k : Int) ^ ((n : Int).toNat)) = ((k ^ n : Nat) : Int) := by simp
  rw [e3] at e2
  generalize k ^ n = N at *
  have c1 : ¬ (n : Int) < 1 := by omega
  have c2 : ¬ (8 : Int) < n := by omega
  have c3 : (64 : Int) < N := by omega
  simp [f_size_asked, m_size_asked, runB_s, List.replicate, e1, e2, c1, c2, c3]

noncomputable def m_count_of : SS → RS :=
  (sSeq (sX (eCall f_letters (aCons (eV 1) aNil)))
  (sSeq (sIf (eOr (eBin ltD (eR 0) (eC (.int 1))) (eBin gtD (eR 0) (eC (.int 24)))) (sRaise 2) sNx)
  (sSeq (sSet 2 (eC (.int 1)))
  (sSeq (sFor (iRg1 (aCons (eR 0) aNil)) (gN 3) (sSet 2 (eBin mulD (eR 2) (eR 1))))
  (sRet (eV 2))))))
noncomputable def f_count_of : List D → R D := runB false 4 m_count_of
theorem count_of_badk (n : D) (k : Int) (h : ¬ (1 ≤ k ∧ k ≤ 6)) : f_count_of [n, .int k] = .ex 1 [] := by
  simp [f_count_of, m_count_of, runB_s, List.replicate, letters_bad k h]
theorem count_of_bad (n k : Int) (h1 : 1 ≤ k) (h2 : k ≤ 6) (h : ¬ (1 ≤ n ∧ n ≤ 24)) : f_count_of [.int n, .int k] = .ex 2 [] := by
  by_cases e1 : n < 1
  · simp [f_count_of, m_count_of, runB_s, List.replicate, letters_ok k h1 h2, e1]
  · have e2 : 24 < n := by omega
    simp [f_count_of, m_count_of, runB_s, List.replicate, letters_ok k h1 h2, e1, e2]
theorem count_of_ok (n k : Int) (h1 : 1 ≤ k) (h2 : k ≤ 6) (h3 : 1 ≤ n) (h4 : n ≤ 24) : f_count_of [.int n, .int k] = .ok (.int (k ^ n.toNat)) := by
  have e1 : ¬ n < 1 := by omega
  have e2 : ¬ 24 < n := by omega
  simp [f_count_of, m_count_of, runB_s, List.replicate, letters_ok k h1 h2, e1, e2]
  rw [rng1_i _ (by unfold fit62; omega)]
  simp
  refine forR_then (k := fun r => fin false (bnd r _)) (fun i s => ∃ a : Sl, s = [.sh (.int n), .sh (.int k), .sh (.int (k ^ i)), a] ∧ canS (some a) = true) ⟨_, by simp; rfl, rfl⟩ ?_ ?_
  · rintro i s hi ⟨a, rfl, ha⟩
    simp [turn_s, ha, mulD_i, show k.natAbs < 18446744073709551616 by omega, Int.pow_succ]
  · rintro s ⟨a, rfl, -⟩
    simp

noncomputable def m_word_of : SS → RS :=
  (sSeq (sSet 3 (eCall f_count_of (aCons (eV 1) (aCons (eV 2) aNil))))
  (sSeq (sIf (eOr (eBin ltD (eR 0) (eC (.int 0))) (eBin geD (eR 0) (eR 3))) (sRaise 5) sNx)
  (sSeq (sSetO 4 (eLst aNil))
  (sSeq (sFor (iRg1 (aCons (eR 1) aNil)) (gN 5) (sSeq (sApp 4 (eBin ixD (eC (.str [97, 98, 99, 100, 101, 102])) (eBin modD (eR 0) (eR 2))))
  (sSet 0 (eBin fdivD (eR 0) (eR 2)))))
  (sRet (eM "str" joinRevM2 (eC (.str [])) (aCons (eR 4) aNil)))))))
noncomputable def f_word_of : List D → R D := runB false 6 m_word_of
theorem word_of_badk (i n : D) (k : Int) (h : ¬ (1 ≤ k ∧ k ≤ 6)) : f_word_of [i, n, .int k] = .ex 1 [] := by
  simp [f_word_of, m_word_of, runB_s, List.replicate, count_of_badk n k h]
theorem word_of_bad (i : D) (n k : Int) (h1 : 1 ≤ k) (h2 : k ≤ 6) (h : ¬ (1 ≤ n ∧ n ≤ 24)) : f_word_of [i, .int n, .int k] = .ex 2 [] := by
  simp [f_word_of, m_word_of, runB_s, List.replicate, count_of_bad n k h1 h2 h]
theorem word_of_none (i n k : Int) (h1 : 1 ≤ k) (h2 : k ≤ 6) (h3 : 1 ≤ n) (h4 : n ≤ 24) (h : ¬ (0 ≤ i ∧ i < k ^ n.toNat)) : f_word_of [.int i, .int n, .int k] = .ex 5 [] := by
  by_cases e1 : i < 0
  · simp [f_word_of, m_word_of, runB_s, List.replicate, count_of_ok n k h1 h2 h3 h4, e1]
  · have e2 : k ^ n.toNat ≤ i := by omega
    simp [f_word_of, m_word_of, runB_s, List.replicate, count_of_ok n k h1 h2 h3 h4, e1, e2]
theorem word_of_ok (i n k : Int) (h1 : 1 ≤ k) (h2 : k ≤ 6) (h3 : 1 ≤ n) (h4 : n ≤ 24) (h5 : 0 ≤ i) (h6 : i < k ^ n.toNat) : f_word_of [.int i, .int n, .int k] = .ok (.str (wordN k n.toNat i)) := by
  have e1 : ¬ i < 0 := by omega
  have e2 : ¬ k ^ n.toNat ≤ i := by omega
  have hz : (0 : Nat) ≤ SZ := Nat.zero_le _
  have hin : ∀ x : Int, 0 ≤ x % k ∧ x % k < k := fun x => ⟨Int.emod_nonneg _ (by omega), Int.emod_lt_of_pos _ (by omega)⟩
  simp [f_word_of, m_word_of, runB_s, List.replicate, count_of_ok n k h1 h2 h3 h4, e1, e2]
  rw [rng1_i _ (by unfold fit62; omega)]
  simp
  refine forR_then (k := fun r => fin false (bnd r _)) (fun j s => ∃ (a : Sl) (x : Int) (ls : List Nat), s = [.sh (.int x), .sh (.int n), .sh (.int k), .sh (.int (k ^ n.toNat)), .ow (.lst (ls.map fun c => .str [c])), a] ∧ canS (some a) = true ∧ ls.length = j ∧ ∀ m, wordN k m x ++ ls.reverse = wordN k (m + j) i)
    ⟨_, i, [], rfl, rfl, rfl, fun m => by simp⟩ ?_ ?_
  · rintro j s hj ⟨a, x, ls, rfl, ha, hl, hw⟩
    have e3 : ls.length + 1 ≤ SZ := le_sz (by omega)
    simp [turn_s, ha, modD_i, show 0 < k by omega, letter_ok _ (hin x).1 (by have := (hin x).2; omega), fdivD_s _ k (by omega) (by omega), e3]
    refine ⟨_, _, ls ++ [97 + (x % k).toNat], ⟨rfl, by simp, rfl⟩, rfl, by simp [hl], fun m => ?_⟩
    have := hw (m + 1)
    rw [show m + (j + 1) = m + 1 + j by omega, ← this]
    simp [wordN]
  · rintro s ⟨a, x, ls, rfl, ha, hl, hw⟩
    have e4 : (ls.map fun c => D.str [c]) = (ls.map fun c => [c]).map .str := by simp
    have := hw 0
    simp [wordN] at this hl
    simp
    rw [e4, joinRevM_m _ _ (by
      have : ((ls.map fun c => [c]).map (·.length)).sum = ls.length := by
        rw [List.map_map]
        clear hw hl e4 this
        induction ls with
        | nil => rfl
        | cons a r ih => simp at ih ⊢; omega
      rw [this]
      simp
      omega), ← List.map_reverse, joinL_one, this]
    simp

noncomputable def m_all_words : SS → RS :=
  (sSeq (sSet 2 (eCall f_count_of (aCons (eV 0) (aCons (eV 1) aNil))))
  (sSeq (sIf (eBin gtD (eR 2) (eC (.int 4096))) (sRaise 3) sNx)
  (sRetF (eComp (iRg1 (aCons (eR 2) aNil)) (gN 3) [3] cYes (eCall f_word_of (aCons (eV 3) (aCons (eV 0) (aCons (eV 1) aNil))))))))
noncomputable def f_all_words : List D → R D := runB true 4 m_all_words
theorem all_words_badk (n : D) (k : Int) (h : ¬ (1 ≤ k ∧ k ≤ 6)) : f_all_words [n, .int k] = .ex 1 [] := by
  simp [f_all_words, m_all_words, runB_s, List.replicate, count_of_badk n k h]
theorem all_words_bad (n k : Int) (h1 : 1 ≤ k) (h2 : k ≤ 6) (h : ¬ (1 ≤ n ∧ n ≤ 24)) : f_all_words [.int n, .int k] = .ex 2 [] := by
  simp [f_all_words, m_all_words, runB_s, List.replicate, count_of_bad n k h1 h2 h]
theorem all_words_many (n k : Int) (h1 : 1 ≤ k) (h2 : k ≤ 6) (h3 : 1 ≤ n) (h4 : n ≤ 24) (h : 4096 < k ^ n.toNat) : f_all_words [.int n, .int k] = .ex 3 [] := by
  simp [f_all_words, m_all_words, runB_s, List.replicate, count_of_ok n k h1 h2 h3 h4, h]
theorem all_words_ok (n k : Int) (h1 : 1 ≤ k) (h2 : k ≤ 6) (h3 : 1 ≤ n) (h4 : n ≤ 24) (h : k ^ n.toNat ≤ 4096) : f_all_words [.int n, .int k] = .ok (.lst ((List.range (k ^ n.toNat).toNat).map fun i : Nat => .str (wordN k n.toNat i))) := by
  have e : ¬ 4096 < k ^ n.toNat := by omega
  have hp : 0 < k ^ n.toNat := Int.pow_pos (by omega)
  simp [f_all_words, m_all_words, runB_s, List.replicate, count_of_ok n k h1 h2 h3 h4, e]
  rw [rng1_i _ (by unfold fit62; omega)]
  simp [-rComp_ok]
  rw [comp_range (fun i => .str (wordN k n.toNat i)) _ _ (k ^ n.toNat).toNat (by simp) (by omega) (fun j hj => by
    simp [cStep_s]
    rw [word_of_ok _ n k h1 h2 h3 h4 (by omega) (by omega)]
    simp)]
  simp
theorem allW_wordN {k n : Nat} (h1 : 1 ≤ k) (h6 : k ≤ 6) : ((List.range (((k : Int) ^ n).toNat)).map fun i : Nat => (D.str (wordN k n i))) = (allW k n).map .str := by
  have e : ((k : Int) ^ n).toNat = k ^ n := by
    have : ((k ^ n : Nat) : Int) = (k : Int) ^ n := by simp
    omega
  rw [e]
  apply List.ext_getElem?
  intro i
  by_cases hi : i < k ^ n
  · have hl : i < (allW k n).length := by rw [allW_len h6]; exact hi
    obtain ⟨a, b, c, d⟩ := allW_at h1 h6 (List.getElem?_eq_getElem hl)
    rw [List.getElem?_map, List.getElem?_range hi, List.getElem?_map, List.getElem?_eq_getElem hl]
    obtain ⟨-, -, f⟩ := numW_word (k := (k : Int)) (by omega) n _ c d
    rw [a] at f
    simp only [Option.map_some]
    rw [f]
  · rw [List.getElem?_eq_none (by simp; omega), List.getElem?_eq_none (by rw [List.length_map, allW_len h6]; omega)]
theorem all_rule {t : List Nat} {n k : Nat} (h : RuleOk t n k) : f_all_words [.int n, .int k] = .ok (.lst ((allW k n).map .str)) := by
  have h1 := h.k1
  have h6 := h.k6
  have h8 := h.n8
  have hn := h.n1
  have h64 := h.m64
  have e : ((k ^ n : Nat) : Int) = (k : Int) ^ n := by simp
  have := all_words_ok (n : Int) (k : Int) (by omega) (by omega) (by omega) (by omega) (by rw [Int.toNat_natCast, ← e]; omega)
  rw [this, Int.toNat_natCast, allW_wordN h1 h6]

noncomputable def m_has_letters : SS → RS :=
  (sSeq (sSet 2 (eCall f_letters (aCons (eV 1) aNil)))
  (sSeq (sFor (iE (eV 0)) (gN 3) (sIf (eBin (inD true) (eR 3) (eR 2)) (sRet (eC (.bl false))) sNx))
  (sRet (eC (.bl true)))))
noncomputable def f_has_letters : List D → R D := runB false 4 m_has_letters
theorem has_letters_ok (t : List Nat) (k : Int) (h1 : 1 ≤ k) (h2 : k ≤ 6) (ht : t.length ≤ 100000) : f_has_letters [.str t, .int k] = .ok (.bl (lets k t)) := by
  simp [f_has_letters, m_has_letters, runB_s, List.replicate, letters_ok k h1 h2]
  refine forM_p (Q := fun r => fin false (bnd r _) = .ok (.bl (lets k t))) (fun i s => ∃ a : Sl, s = [.sh (.str t), .sh (.int k), .sh (.str (abc k)), a] ∧ canS (some a) = true ∧ ∀ c ∈ t.take i, 97 ≤ c ∧ (c : Int) < 97 + k) ⟨_, rfl, rfl, by simp⟩ ?_ ?_
  · rintro i c s hi ⟨a, rfl, ha, hall⟩
    have hsn : t.take (i + 1) = t.take i ++ [c] := by rw [List.take_add_one, hi]; rfl
    by_cases hc : c ∈ abc k
    · simp [turn_s, ha, inS_one, hc, post]
      rw [hsn]
      intro c' h
      rcases List.mem_append.mp h with h | h
      · exact hall c' h
      · rw [List.mem_singleton.mp h]; exact (mem_abc h1 h2).mp hc
    · have : lets k t = false := Bool.eq_false_iff.mpr fun h => hc ((mem_abc h1 h2).mpr (lets_iff.mp h c (List.mem_of_getElem? hi)))
      simp [turn_s, ha, inS_one, hc, post, this]
  · rintro s ⟨a, rfl, ha, hall⟩
    rw [List.take_length] at hall
    have : lets k t = true := lets_iff.mpr hall
    simp [this]

noncomputable def m_Rule : SS → RS :=
  (sSeq (sIf (eOr (eBin neD (eCall lenD (aCons (eR 3) aNil)) (eCall f_size_asked (aCons (eV 1) (aCons (eV 2) aNil)))) (eNot (eCall f_has_letters (aCons (eV 3) (aCons (eV 2) aNil))))) (sRaise 6) sNx)
  (sSeq (sFldK 0 3 4 (eV 1))
  (sSeq (sFldK 0 4 5 (eV 2))
  (sFldK 0 5 6 (eV 3)))))
noncomputable def f_Rule : List D → R (List D) := runK 3 6 4 m_Rule
theorem rule_ok {t : List Nat} {n k : Nat} (h : RuleOk t n k) : f_Rule [.int n, .int k, .str t] = .ok [.int n, .int k, .str t] := by
  have h1 := h.k1
  have h6 := h.k6
  have h64 := h.m64
  have hl := h.len
  have e1 := size_asked_ok n k h.k1 h.k6 h.n1 h.n8 h.m64
  have e2 := has_letters_ok t k (by omega) (by omega) (by omega)
  rw [lets_iff.mpr h.abc] at e2
  have zt : t.length ≤ SZ := le_sz (by omega)
  rw [← hl] at e1
  simp [f_Rule, m_Rule, runK_s, List.replicate, e1, e2, zt]
theorem rule_bad (t : List Nat) (n k : Nat) (h1 : 1 ≤ k) (h6 : k ≤ 6) (hn : 1 ≤ n) (hn8 : n ≤ 8) (h : k ^ n ≤ 64) (ht : t.length ≤ 100000) (hb : ¬ (t.length = k ^ n ∧ Lets k t)) : f_Rule [.int n, .int k, .str t] = .ex 6 [] := by
  have e1 := size_asked_ok n k h1 h6 hn hn8 h
  have e2 := has_letters_ok t k (by omega) (by omega) ht
  have zt : t.length ≤ SZ := le_sz (by omega)
  generalize k ^ n = N at *
  by_cases c : t.length = N
  · have hl : lets k t = false := Bool.eq_false_iff.mpr fun z => hb ⟨c, lets_iff.mp z⟩
    rw [hl] at e2
    subst c
    simp [f_Rule, m_Rule, runK_s, List.replicate, e1, e2, zt]
  · have c' : ¬ ((t.length : Int) = N) := by omega
    have cb : ((t.length : Int) == N) = false := by simpa using c'
    simp [f_Rule, m_Rule, runK_s, List.replicate, e1, e2, zt, cb, c', c]
theorem rule_ex (t : List Nat) (n k : D) (c : Nat) (ht : t.length ≤ 100000) (h : f_size_asked [n, k] = .ex c []) : f_Rule [n, k, .str t] = .ex c [] := by
  have zt : t.length ≤ SZ := le_sz (by omega)
  have o : ∀ x : R D, orR (.ex c []) x = .ex c [] := fun x => rfl
  simp [f_Rule, m_Rule, runK_s, List.replicate, h, zt, o]

noncomputable def m_turning : SS → RS :=
  (sSeq (sX (eCall f_size_asked (aCons (eV 0) (aCons (eV 1) aNil))))
  (sRet (eMk 6 f_Rule (aCons (eV 0) (aCons (eV 1) (aCons (eM "str" joinM (eC (.str [])) (aCons (eComp (iE (eCall f_all_words (aCons (eV 0) (aCons (eV 1) aNil)))) (gN 2) [2] cYes (eBin ixD (eR 2) (eC (.int 0)))) aNil)) aNil))))))
noncomputable def f_turning : List D → R D := runB false 3 m_turning
def headsT (k n : Nat) : List Nat := (allW k n).map fun w => w.headD 0
theorem heads_rule {n k : Nat} (h1 : 1 ≤ k) (h6 : k ≤ 6) (hn : 1 ≤ n) (hn8 : n ≤ 8) (h64 : k ^ n ≤ 64) : RuleOk (headsT k n) n k := by
  refine ⟨h1, h6, hn, hn8, h64, by unfold headsT; rw [List.length_map, allW_len h6], fun c hc => ?_⟩
  obtain ⟨w, hw, rfl⟩ := List.mem_map.mp hc
  obtain ⟨a, b⟩ := (mem_allW h1 h6).mp hw
  obtain ⟨x, r, rfl⟩ : ∃ x r, w = x :: r := by cases w with | nil => simp at a; omega | cons x r => exact ⟨x, r, rfl⟩
  have := b x List.mem_cons_self
  exact ⟨this.1, by show (x : Int) < _; omega⟩
theorem turning_ok {n k : Nat} (h1 : 1 ≤ k) (h6 : k ≤ 6) (hn : 1 ≤ n) (hn8 : n ≤ 8) (h64 : k ^ n ≤ 64) : f_turning [.int n, .int k] = .ok (ruleD (headsT k n) n k) := by
  have hR := heads_rule h1 h6 hn hn8 h64
  have e1 := size_asked_ok n k h1 h6 hn hn8 h64
  have e2 := all_rule hR
  have e3 := rule_ok hR
  have hl := hR.len
  have hul : (allW k n).length = k ^ n := allW_len h6 n
  have cm : ∀ s : SS, s = [.sh (.int n), .sh (.int k), .no] → rComp (mapD (cStep (gN 2) [2] cYes (eBin ixD (eR 2) (eC (.int 0))) s) ((allW k n).map .str)) = .ok (.lst (((headsT k n).map fun c => [c]).map .str)) := fun s hs => by
    subst hs
    rw [comp_mapped _ (fun w => .str [w.headD 0]) _ (by omega) (fun w hw => by
      have := (mem_allW h1 h6).mp hw
      obtain ⟨a, r, rfl⟩ : ∃ a r, w = a :: r := by cases w with | nil => simp at this; omega | cons a r => exact ⟨a, r, rfl⟩
      have hl := this.1
      have ix : ixD (.str (a :: r)) (.int 0) = .ok (.str [a]) := ixD_s _ _ (by omega) _ (le_sz (by omega)) rfl
      simp [cStep_s, gN, setS_s, rStep, ix])]
    unfold headsT
    rw [List.map_map, List.map_map]
    rfl
  have jn := joinM_ch (headsT k n) (by omega)
  generalize hH : ((headsT k n).map fun c => [c]).map D.str = HH at *
  have hRd : ruleD (headsT k n) n k = .obj 6 [.int n, .int k, .str (headsT k n)] := rfl
  rw [hRd]
  generalize headsT k n = t at *
  generalize allW k n = us at *
  generalize k ^ n = N at *
  simp [f_turning, m_turning, runB_s, List.replicate, e1, e2, -rComp_ok]
  rw [cm _ rfl]
  simp [jn, e3]

noncomputable def m_law_least : SS → RS :=
  (sRet (eCall min1D (aCons (eComp (iRg1 (aCons (eCall lenD (aCons (eR 0) aNil)) aNil)) (gN 1) [1] cYes (eBin addD (eSl (eR 0) (oSo (eV 1)) oNo) (eSl (eR 0) oNo (oSo (eV 1))))) aNil)))
noncomputable def f_law_least : List D → R D := runB false 2 m_law_least
theorem minL_rots {w : List Nat} (h0 : w ≠ []) : minL (rots w) = lrot w := by
  have hp := List.length_pos_iff.mpr h0
  have hne : rots w ≠ [] := fun e => by
    have := congrArg List.length e
    simp [rots] at this
    exact h0 this
  obtain ⟨a, b⟩ := minL_spec hne
  exact lrot_uniq h0 a b
theorem law_least_ok (w : List Nat) (h0 : w ≠ []) (h : w.length ≤ 1000) : f_law_least [.str w] = .ok (.str (lrot w)) := by
  have zw : w.length ≤ SZ := le_sz (by omega)
  have hne : rots w ≠ [] := fun e => by
    have := congrArg List.length e
    simp [rots] at this
    exact h0 this
  have m1 := min1D_l (rots w) hne
  rw [minL_rots h0] at m1
  have cm : ∀ s : SS, s = [.sh (.str w), .no] → rComp (mapD (cStep (gN 1) [1] cYes (eBin addD (eSl (eR 0) (oSo (eV 1)) oNo) (eSl (eR 0) oNo (oSo (eV 1)))) s) (rangeD 0 w.length)) = .ok (.lst ((rots w).map .str)) := fun s hs => by
    subst hs
    rw [comp_range (fun j => .str (rot w j)) _ _ w.length (by omega) (by omega) (fun j hj => by
      have s1 : slD (.str w) (some (j : Int)) none = .ok (.str (w.drop j)) := by rw [slD_s _ _ _ zw, cutL_from _ _ (by omega), Int.toNat_natCast]
      have s2 : slD (.str w) none (some (j : Int)) = .ok (.str (w.take j)) := by rw [slD_s _ _ _ zw, cutL_to _ _ (by omega), Int.toNat_natCast]
      have ad : addD (.str (w.drop j)) (.str (w.take j)) = .ok (.str (rot w j)) := by rw [addD_s, if_pos (le_sz (by simp; omega))]; rfl
      rw [Int.zero_add]
      simp [cStep_s, gN, setS_s, rStep, s1, s2, ad])]
    unfold rots
    rw [List.map_map]
    rfl
  generalize (rots w).map D.str = RR at *
  simp [f_law_least, m_law_least, runB_s, List.replicate, zw, -rComp_ok]
  rw [rng1_i _ (by unfold fit62; omega)]
  simp [-rComp_ok]
  rw [cm _ rfl]
  simp [m1]

noncomputable def m_law_root : SS → RS :=
  (sSeq (sFor (iRg2 (aCons (eC (.int 1)) (aCons (eBin addD (eCall lenD (aCons (eR 0) aNil)) (eC (.int 1))) aNil))) (gN 1) (sIf (eAnd (eBin eqD (eBin modD (eCall lenD (aCons (eR 0) aNil)) (eR 1)) (eC (.int 0))) (eBin eqD (eBin mulD (eSl (eR 0) oNo (oSo (eV 1))) (eBin fdivD (eCall lenD (aCons (eR 0) aNil)) (eR 1))) (eR 0))) (sRet (eSl (eR 0) oNo (oSo (eV 1)))) sNx))
  (sRet (eV 0)))
noncomputable def f_law_root : List D → R D := runB false 2 m_law_root
theorem law_root_ok (w : List Nat) (h0 : w ≠ []) (h : w.length ≤ 1000) : f_law_root [.str w] = .ok (.str (rootW w)) := by
  have h1 : w.length ≤ SZ := le_sz (by omega)
  obtain ⟨r1, r2, r3⟩ := rlen_spec h0
  have rp := rlen_pos h0
  simp [f_law_root, m_law_root, runB_s, List.replicate, h1]
  rw [rng2_i _ _ (by unfold fit62; omega) (by unfold fit62; omega)]
  simp
  refine forL_ind (fun i s => ∃ a : Sl, s = [.sh (.str w), a] ∧ canS (some a) = true ∧ i < rlen w) (fun r => fin false (bnd r _) = .ok (.str (rootW w))) _ _ ⟨_, rfl, rfl, rp⟩ ?_ ?_
  · rintro i d s hd ⟨a, rfl, ha, hlt⟩
    obtain ⟨rfl, hi⟩ := rangeD_get hd
    have e0 : (1 : Int) + (i : Int) = ((i + 1 : Nat) : Int) := by omega
    rw [e0]
    generalize hn : i + 1 = n
    have hd' : ((w.length : Int) / (n : Int)).toNat = w.length / n := by
      rw [← Int.natCast_ediv]; rfl
    have hd0 : 0 ≤ (w.length : Int) / (n : Int) := Int.ediv_nonneg (by omega) (by omega)
    have hdl : (w.length : Int) / (n : Int) ≤ w.length := Int.ediv_le_self _ (by omega)
    have hz : min n w.length * (w.length / n) ≤ SZ := le_sz (by
      have := Nat.mul_div_le w.length n
      have : min n w.length = n := by omega
      rw [this]
      omega)
    have hm : (((w.length : Int) % (n : Int)) == 0) = decide (w.length % n = 0) := by
      rw [Bool.beq_eq_decide_eq]
      congr 1
      rw [← Int.natCast_emod]
      exact propext ⟨fun z => by omega, fun z => by omega⟩
    have cond : eAnd (eBin eqD (eBin modD (eCall lenD (aCons (eR 0) aNil)) (eR 1)) (eC (.int 0))) (eBin eqD (eBin mulD (eSl (eR 0) oNo (oSo (eV 1))) (eBin fdivD (eCall lenD (aCons (eR 0) aNil)) (eR 1))) (eR 0)) [.sh (.str w), .sh (.int n)] = .ok (.bl (rtOk w n)) := by
      simp [h1, modD_i (w.length : Int) (n : Int) (by omega), slD_s, cutL_to, fdivD_s _ (n : Int) (by omega) (by omega), mulD_s, hd', hz, show (w.length : Int) / (n : Int) < 9223372036854775808 by omega, show -9223372036854775808 ≤ (w.length : Int) / (n : Int) by omega]
      rw [hm]
      unfold rtOk
      simp [show 0 < n by omega]
    rw [turn_s]
    simp [ha, -eAnd_s]
    rw [cond]
    by_cases e : n = rlen w
    · rw [e, r2]
      simp [slD_s, h1, cutL_to, rootW]
    · rw [r3 n (by omega)]
      simp
      omega
  · rintro s ⟨a, rfl, ha, hlt⟩
    simp at hlt
    omega

noncomputable def m_word_asked : SS → RS :=
  (sIf (eOr (eBin neD (eCall lenD (aCons (eR 1) aNil)) (eUn (fldD 6 0) (eR 0))) (eNot (eCall f_has_letters (aCons (eV 1) (aCons (eUn (fldD 6 1) (eR 0)) aNil))))) (sRaise 2) sNx)
noncomputable def f_word_asked : List D → R D := runB false 2 m_word_asked
theorem word_asked_all {t : List Nat} {n k : Nat} (h : RuleOk t n k) (w : List Nat) (hw : w.length ≤ 1000) : f_word_asked [ruleD t n k, .str w] = if isW n k w = true then .ok .non else .ex 2 [] := by
  have h1 := h.k1
  have h6 := h.k6
  have e2 := has_letters_ok w k (by omega) (by omega) (by omega)
  have zw : w.length ≤ SZ := le_sz (by omega)
  unfold ruleD isW
  by_cases c : w.length = n
  · subst c
    by_cases c2 : lets k w = true
    · rw [c2] at e2
      simp [f_word_asked, m_word_asked, runB_s, List.replicate, e2, zw, c2]
    · have c2 : lets k w = false := by simpa using c2
      rw [c2] at e2
      simp [f_word_asked, m_word_asked, runB_s, List.replicate, e2, zw, c2]
  · have c' : ¬ ((w.length : Int) = n) := by omega
    have cb : ((w.length : Int) == n) = false := by simpa using c'
    simp [f_word_asked, m_word_asked, runB_s, List.replicate, e2, zw, c, c', cb]

noncomputable def m_looked : SS → RS :=
  (sSeq (sSet 2 (eCall f_letters (aCons (eV 1) aNil)))
  (sSeq (sIf (eOr (eBin ltD (eCall lenD (aCons (eR 0) aNil)) (eC (.int 1))) (eBin gtD (eCall lenD (aCons (eR 0) aNil)) (eC (.int 24)))) (sRaise 2) sNx)
  (sFor (iE (eV 0)) (gN 3) (sIf (eBin (inD true) (eR 3) (eR 2)) (sRaise 2) sNx))))
noncomputable def f_looked : List D → R D := runB false 4 m_looked
theorem looked_badk (w : D) (k : Int) (h : ¬ (1 ≤ k ∧ k ≤ 6)) : f_looked [w, .int k] = .ex 1 [] := by
  simp [f_looked, m_looked, runB_s, List.replicate, letters_bad k h]
theorem looked_all (w : List Nat) (k : Int) (h1 : 1 ≤ k) (h2 : k ≤ 6) (hw : w.length ≤ 100000) : f_looked [.str w, .int k] = if goodW w k = true then .ok .non else .ex 2 [] := by
  have hz : w.length ≤ SZ := le_sz (by omega)
  by_cases e : w.length < 1 ∨ 24 < w.length
  · have : goodW w k = false := by
      unfold goodW
      rcases e with e | e
      · simp; omega
      · simp; omega
    rw [this]
    rcases e with e | e
    · have e' : (w.length : Int) < 1 := by omega
      have e0 : w = [] := List.length_eq_zero_iff.mp (by omega)
      subst e0
      simp [f_looked, m_looked, runB_s, List.replicate, letters_ok k h1 h2]
    · have e' : (24 : Int) < w.length := by omega
      simp [f_looked, m_looked, runB_s, List.replicate, letters_ok k h1 h2, hz, e']
  · have e1 : ¬ (w.length : Int) < 1 := by omega
    have e2 : ¬ (24 : Int) < w.length := by omega
    simp [f_looked, m_looked, runB_s, List.replicate, letters_ok k h1 h2, hz, e1, e2]
    refine forL_ind (fun i s => ∃ a : Sl, s = [.sh (.str w), .sh (.int k), .sh (.str (abc k)), a] ∧ canS (some a) = true ∧ ∀ j c, j < i → w[j]? = some c → 97 ≤ c ∧ (c : Int) < 97 + k)
      (fun r => fin false r = if goodW w k = true then .ok .non else .ex 2 []) _ _ ⟨_, rfl, rfl, fun j c h => absurd h (Nat.not_lt_zero _)⟩ ?_ ?_
    · rintro i d s hd ⟨a, rfl, ha, hall⟩
      rw [List.getElem?_map] at hd
      cases q : w[i]? with
      | none => rw [q] at hd; cases hd
      | some c =>
        rw [q] at hd
        cases hd
        simp [turn_s, ha, inS_one]
        by_cases hc : c ∈ abc k
        · simp [hc]
          intro j c' hj hc'
          by_cases hji : j < i
          · exact hall j c' hji hc'
          · have : j = i := by omega
            subst this
            rw [q] at hc'
            cases hc'
            exact (mem_abc h1 h2).mp hc
        · simp [hc]
          have : goodW w k = false := by
            cases g : goodW w k with
            | false => rfl
            | true =>
              exact absurd ((mem_abc h1 h2).mpr ((goodW_iff.mp g).2.2 c (List.mem_of_getElem? q))) hc
          simp [this]
    · rintro s ⟨a, rfl, ha, hall⟩
      have : goodW w k = true := goodW_iff.mpr ⟨by omega, by omega, fun c hc => by
        obtain ⟨j, hj, rfl⟩ := List.mem_iff_getElem.mp hc
        exact hall j _ (by simpa using hj) (List.getElem?_eq_getElem hj)⟩
      simp [this]

noncomputable def m_number_of : SS → RS :=
  (sSeq (sX (eCall f_looked (aCons (eV 0) (aCons (eV 1) aNil))))
  (sSeq (sSet 2 (eC (.int 0)))
  (sSeq (sFor (iE (eV 0)) (gN 3) (sSet 2 (eBin addD (eBin mulD (eR 2) (eR 1)) (eM "str" idxS (eC (.str [97, 98, 99, 100, 101, 102])) (aCons (eR 3) aNil)))))
  (sRet (eV 2)))))
noncomputable def f_number_of : List D → R D := runB false 4 m_number_of
theorem number_of_badk (w : D) (k : Int) (h : ¬ (1 ≤ k ∧ k ≤ 6)) : f_number_of [w, .int k] = .ex 1 [] := by
  simp [f_number_of, m_number_of, runB_s, List.replicate, looked_badk w k h]
theorem number_of_bad (w : List Nat) (k : Int) (h1 : 1 ≤ k) (h2 : k ≤ 6) (hw : w.length ≤ 100000) (h : goodW w k = false) : f_number_of [.str w, .int k] = .ex 2 [] := by
  simp [f_number_of, m_number_of, runB_s, List.replicate, looked_all w k h1 h2 hw, h]
theorem number_of_ok (w : List Nat) (k : Int) (h1 : 1 ≤ k) (h2 : k ≤ 6) (h : goodW w k = true) : f_number_of [.str w, .int k] = .ok (.int (numW k w)) := by
  obtain ⟨g1, g2, g3⟩ := goodW_iff.mp h
  simp [f_number_of, m_number_of, runB_s, List.replicate, looked_all w k h1 h2 (by omega), h]
  refine forM_then (k := fun r => fin false (bnd r _)) (fun i s => ∃ a : Sl, s = [.sh (.str w), .sh (.int k), .sh (.int (numW k (w.take i))), a] ∧ canS (some a) = true) ⟨_, by simp; rfl, rfl⟩ ?_ ?_
  · rintro i c s hc ⟨a, rfl, ha⟩
    have hl := g3 c (List.mem_of_getElem? hc)
    have hi : i < w.length := (List.getElem?_eq_some_iff.mp hc).1
    have e : w.take (i + 1) = w.take i ++ [c] := by rw [List.take_add_one, hc]; rfl
    simp [turn_s, ha, mulD_i, show k.natAbs < 18446744073709551616 by omega]
    rw [letters_idx c hl.1 (by omega)]
    simp
    rw [e, numW_app]
    exact ⟨_, ⟨rfl, rfl⟩, rfl⟩
  · rintro s ⟨a, rfl, -⟩
    simp

noncomputable def m_next_word : SS → RS :=
  (sSeq (sX (eCall f_word_asked (aCons (eV 0) (aCons (eV 1) aNil))))
  (sRet (eBin addD (eSl (eR 1) (oSo (eC (.int 1))) oNo) (eBin ixD (eUn (fldD 6 2) (eR 0)) (eCall f_number_of (aCons (eV 1) (aCons (eUn (fldD 6 1) (eR 0)) aNil)))))))
noncomputable def f_next_word : List D → R D := runB false 2 m_next_word
theorem next_word_ok {t : List Nat} {n k : Nat} (h : RuleOk t n k) (w : List Nat) (hw : isW n k w = true) : f_next_word [ruleD t n k, .str w] = .ok (.str (w.tail ++ [t.getD (numW k w).toNat 0])) := by
  have h1 := h.k1
  have h6 := h.k6
  have h8 := h.n8
  have h64 := h.m64
  have hl := h.len
  have hwl := (isW_iff.mp hw).1
  have e1 := word_asked_all h w (by omega)
  rw [if_pos hw] at e1
  have e2 := number_of_ok w k (by omega) (by omega) (isW_good hw h.n1 h.n8)
  obtain ⟨i, hi, hil⟩ := isW_num hw h.k1
  rw [hi] at e2
  rw [hi, Int.toNat_natCast]
  have sl : slD (.str w) (some 1) none = .ok (.str w.tail) := by rw [slD_s _ _ _ (le_sz (by omega)), cutL_1]
  have ix := ixD_getD (w := t) (i := (i : Int)) (j := i) rfl (by omega) (le_sz (by omega))
  have ad : addD (.str w.tail) (.str [t.getD i 0]) = .ok (.str (w.tail ++ [t.getD i 0])) := by rw [addD_s, if_pos (le_sz (by simp; omega))]
  unfold ruleD at *
  generalize t.getD i 0 = c at *
  simp [f_next_word, m_next_word, runB_s, List.replicate, e1, e2, sl, ix, ad]
theorem next_word_bad {t : List Nat} {n k : Nat} (h : RuleOk t n k) (w : List Nat) (hl : w.length ≤ 1000) (hw : isW n k w = false) : f_next_word [ruleD t n k, .str w] = .ex 2 [] := by
  have e1 := word_asked_all h w hl
  rw [if_neg (by simp [hw])] at e1
  simp [f_next_word, m_next_word, runB_s, List.replicate, e1]

noncomputable def m_is_fair : SS → RS :=
  (sSeq (sSetO 1 eDic0)
  (sSeq (sFor (iE (eCall f_all_words (aCons (eUn (fldD 6 0) (eR 0)) (aCons (eUn (fldD 6 1) (eR 0)) aNil)))) (gN 2) (sPutD 1 (eCall f_next_word (aCons (eV 0) (aCons (eV 2) aNil))) (eC (.bl true))))
  (sRet (eBin eqD (eCall lenKD (aCons (eR 1) aNil)) (eCall lenD (aCons (eUn (fldD 6 2) (eR 0)) aNil))))))
noncomputable def f_is_fair : List D → R D := runB false 3 m_is_fair
def nextW (t : List Nat) (k : Nat) (w : List Nat) : List Nat := w.tail ++ [t.getD (numW k w).toNat 0]
theorem memW {k n : Nat} {w : List Nat} (h1 : 1 ≤ k) (h6 : k ≤ 6) : w ∈ allW k n ↔ isW n k w = true := by
  rw [mem_allW h1 h6, isW_iff]
  constructor
  · exact fun ⟨a, b⟩ => ⟨a, fun c hc => by have := b c hc; omega⟩
  · exact fun ⟨a, b⟩ => ⟨a, fun c hc => by have := b c hc; omega⟩
theorem next_ok {t : List Nat} {n k : Nat} (h : RuleOk t n k) {w : List Nat} (hw : w ∈ allW k n) : f_next_word [ruleD t n k, .str w] = .ok (.str (nextW t k w)) := next_word_ok h w ((memW h.k1 h.k6).mp hw)
theorem lets_get {k : Int} {t : List Nat} {i : Nat} (h : Lets k t) (hi : i < t.length) : 97 ≤ t.getD i 0 ∧ (t.getD i 0 : Int) < 97 + k := by
  rw [List.getD_eq_getElem?_getD, List.getElem?_eq_getElem hi]
  exact h _ (List.getElem_mem hi)
theorem next_into {t : List Nat} {n k : Nat} (h : RuleOk t n k) {w : List Nat} (hw : w ∈ allW k n) : nextW t k w ∈ allW k n := by
  have h1 := h.k1
  have h6 := h.k6
  have hn := h.n1
  have hW := (memW h1 h6).mp hw
  obtain ⟨a, b⟩ := isW_iff.mp hW
  obtain ⟨i, hi, hil⟩ := isW_num hW h1
  refine (memW h1 h6).mpr (isW_iff.mpr ⟨by simp [nextW]; omega, fun c hc => ?_⟩)
  rcases List.mem_append.mp hc with hc | hc
  · exact b c (List.mem_of_mem_tail hc)
  · rw [List.mem_singleton.mp hc, hi, Int.toNat_natCast]
    exact lets_get h.abc (by rw [h.len]; exact hil)
def fairT (t : List Nat) (n k : Nat) : Prop := ((allW k n).map (nextW t k)).Nodup
theorem nd_ded {us ms : List (List Nat)} (hn : ms.Nodup) (hm : ∀ x, x ∈ ms ↔ x ∈ us) : ms.length = (dedT us).length :=
  ((List.perm_ext_iff_of_nodup hn (dedT_nodup us)).mpr fun x => by rw [hm, dedT_mem]).length_eq
theorem is_fair_ok {t : List Nat} {n k : Nat} (h : RuleOk t n k) : ∃ b, f_is_fair [ruleD t n k] = .ok (.bl b) ∧ (b = true ↔ fairT t n k) := by
  have h1 := h.k1
  have h6 := h.k6
  have h64 := h.m64
  have hl := h.len
  have e1 := all_rule h
  have hul : (allW k n).length = k ^ n := allW_len h6 n
  have nx := fun w hw => next_ok h (w := w) hw
  have zt : t.length ≤ SZ := le_sz (by omega)
  have e0 : dicT [] = dicT (setP []) := rfl
  refine ⟨decide (((dedT ((allW k n).map (nextW t k))).length : Int) = t.length), ?_, ?_⟩
  · generalize allW k n = us at *
    have hR : ruleD t n k = .obj 6 [.int n, .int k, .str t] := rfl
    generalize nextW t k = f at *
    simp [f_is_fair, m_is_fair, runB_s, List.replicate, hR, e1]
    rw [← hR]
    have fld : eUn (fldD 6 2) (eR 0) = eUn (fldD 6 2) (eR 0) := rfl
    rw [e0]
    refine forM_q (Q := fun r => fin false (bnd r _) = .ok (.bl (decide (((dedT (us.map f)).length : Int) = t.length)))) (fun i s => ∃ (a : Sl) (ms : List (List Nat)), s = [.sh (ruleD t n k), .ow (dicT (setP ms)), a] ∧ canS (some a) = true ∧ ms.Nodup ∧ ms.length ≤ i ∧ ∀ x, x ∈ ms ↔ x ∈ (us.take i).map f) ⟨_, [], rfl, rfl, List.nodup_nil, by simp, by simp⟩ ?_ ?_
    · rintro i w s hi ⟨a, ms, rfl, ha', hnd, hml, hms⟩
      have hwm := List.mem_of_getElem? hi
      have hil : i < us.length := (List.getElem?_eq_some_iff.mp hi).1
      have z1 : (setP ms).length + 1 ≤ SZ := le_sz (by rw [setP_len]; omega)
      have n1 := nx w hwm
      have k1 := putDS_t [.sh (ruleD t n k), .ow (dicT (setP ms)), .sh (.str w)] 1 (setP ms) (f w) (.bl true) z1
      rw [putA_set] at k1
      generalize hRR : ruleD t n k = R at *
      simp [turn_s, ha', gN, setS_s, n1, k1]
      refine ⟨_, _, ⟨rfl, rfl⟩, rfl, ins1_nodup hnd, by have := ins1_len ms (f w); omega, fun x => ?_⟩
      rw [mem_ins1, hms x, ← List.map_take, List.take_add_one, hi]
      simp [eq_comm]
    · rintro s ⟨a, ms, rfl, ha', hnd, hml, hms⟩
      rw [List.take_length] at hms
      have hlen := nd_ded hnd hms
      have l1 := lenKD_set ms
      rw [← hlen]
      generalize setP ms = S at *
      simp [ruleD, l1, zt]
      by_cases c : (ms.length : Int) = t.length <;> simp [c]
  · rw [decide_eq_true_eq]
    unfold fairT
    rw [← ded_len]
    rw [List.length_map, hul, hl]
    omega

noncomputable def m_fair_asked : SS → RS :=
  (sIf (eNot (eCall f_is_fair (aCons (eV 0) aNil))) (sRaise 6) sNx)
noncomputable def f_fair_asked : List D → R D := runB false 1 m_fair_asked
theorem fair_asked_ok {t : List Nat} {n k : Nat} (h : RuleOk t n k) (hf : fairT t n k) : f_fair_asked [ruleD t n k] = .ok .non := by
  obtain ⟨b, e, hb⟩ := is_fair_ok h
  have : b = true := hb.mpr hf
  subst this
  simp [f_fair_asked, m_fair_asked, runB_s, List.replicate, e]
theorem fair_asked_no {t : List Nat} {n k : Nat} (h : RuleOk t n k) (hf : ¬ fairT t n k) : f_fair_asked [ruleD t n k] = .ex 6 [] := by
  obtain ⟨b, e, hb⟩ := is_fair_ok h
  have : b = false := Bool.eq_false_iff.mpr fun z => hf (hb.mp z)
  subst this
  simp [f_fair_asked, m_fair_asked, runB_s, List.replicate, e]
theorem nd_map_inj {f : List Nat → List Nat} : ∀ {A : List (List Nat)}, (A.map f).Nodup → ∀ v ∈ A, ∀ w ∈ A, f v = f w → v = w
  | [], _, v, hv, _, _, _ => by cases hv
  | a :: A, h, v, hv, w, hw, e => by
    rw [List.map_cons, List.nodup_cons] at h
    obtain ⟨h1, h2⟩ := h
    rcases List.mem_cons.mp hv with hva | hvA
    · rcases List.mem_cons.mp hw with hwa | hwA
      · rw [hva, hwa]
      · exact absurd (show f a ∈ A.map f from List.mem_map.mpr ⟨w, hwA, by rw [← e, hva]⟩) h1
    · rcases List.mem_cons.mp hw with hwa | hwA
      · exact absurd (show f a ∈ A.map f from List.mem_map.mpr ⟨v, hvA, by rw [e, hwa]⟩) h1
      · exact nd_map_inj h2 v hvA w hwA e
theorem fair_perm {t : List Nat} {n k : Nat} (h : RuleOk t n k) (hf : fairT t n k) : PermOn (allW k n) (nextW t k) :=
  ⟨fun w hw => next_into h hw, nd_map_inj hf⟩

noncomputable def m_words_from : SS → RS :=
  (sSeq (sSetO 2 (eLst (aCons (eV 1) aNil)))
  (sSeq (sSet 3 (eCall f_next_word (aCons (eV 0) (aCons (eV 1) aNil))))
  (sSeq (sWh fuel (eBin neD (eR 3) (eR 1)) (sSeq (sApp 2 (eV 3))
  (sSet 3 (eCall f_next_word (aCons (eV 0) (aCons (eV 3) aNil))))))
  (sFrz 2 (sRet (eV 2))))))
noncomputable def f_words_from : List D → R D := runB false 4 m_words_from
def PFrom (R : D) (f : List Nat → List Nat) (w : List Nat) (r : Nat) (s : SS) : Prop := ∃ i : Nat, i + 1 ≤ r ∧ s = [.sh R, .sh (.str w), .ow (.lst ((orb f w (i + 1)).map .str)), .sh (.str (itf f (i + 1) w))]
def muFrom (r : Nat) : SS → Nat
  | [_, _, .ow (.lst us), _] => r - us.length
  | _ => 0
theorem orb_succ (f : List Nat → List Nat) (w : List Nat) (r : Nat) : orb f w (r + 1) = orb f w r ++ [itf f r w] := by
  unfold orb
  rw [List.range_succ, List.map_append]
  rfl
theorem words_from_ok {t : List Nat} {n k : Nat} (h : RuleOk t n k) {w : List Nat} (hw : w ∈ allW k n) {r : Nat} (hb : Back (nextW t k) w r) (hr : r ≤ 1000) : f_words_from [ruleD t n k, .str w] = .ok (.lst ((orb (nextW t k) w r).map .str)) := by
  have nx : ∀ v, v ∈ allW k n → f_next_word [ruleD t n k, .str v] = .ok (.str (nextW t k v)) := fun v hv => next_ok h hv
  have into : ∀ i, itf (nextW t k) i w ∈ allW k n := fun i => by
    induction i with
    | zero => exact hw
    | succ i ih => exact next_into h ih
  have n0 := nx w hw
  generalize ruleD t n k = R at *
  generalize nextW t k = f at *
  have i1 : f w = itf f 1 w := rfl
  rw [i1] at n0
  have o1 : D.lst [.str w] = .lst ((orb f w (0 + 1)).map .str) := rfl
  simp [f_words_from, m_words_from, runB_s, List.replicate, n0]
  rw [o1]
  refine whL_nx (P := PFrom R f w r) (mu := muFrom r) (Q := fun x => fin false (bnd x _) = .ok (.lst ((orb f w r).map .str))) ?_ _ _ ⟨0, hb.1, rfl⟩ ?_
  · rintro s ⟨i, hi, rfl⟩
    by_cases c : i + 1 = r
    · subst c
      have e := hb.2.1
      rw [e]
      refine ⟨false, by simp, fun z => (by cases z), fun _ => ?_⟩
      generalize orb f w (i + 1) = o at *
      simp [frz]
    · have hne : itf f (i + 1) w ≠ w := hb.2.2 (i + 1) (by omega) (by omega)
      have n1 := nx _ (into (i + 1))
      have i2 : f (itf f (i + 1) w) = itf f (i + 1 + 1) w := rfl
      rw [i2] at n1
      have os := orb_succ f w (i + 1)
      have ol := orb_len f w (i + 1)
      have zo : (orb f w (i + 1)).length + 1 ≤ SZ := le_sz (by omega)
      have ol2 := orb_len f w (i + 1 + 1)
      generalize itf f (i + 1) w = x at *
      generalize hy : itf f (i + 1 + 1) w = y at *
      generalize orb f w (i + 1) = o at *
      refine ⟨true, by simp [hne], fun _ => ?_, fun z => (by cases z)⟩
      simp [n1, zo]
      refine ⟨⟨i + 1, by omega, by rw [os, hy]; simp⟩, ?_⟩
      show r - (o.map D.str ++ [D.str x]).length < r - (o.map D.str).length
      simp
      omega
  · rw [fuel_is]
    show r - 1 < _
    omega

noncomputable def m_round_told : SS → RS :=
  (sSeq (sSet 1 (eM "list" idxL (eR 0) (aCons (eCall min1D (aCons (eR 0) aNil)) aNil)))
  (sRet (eM "str" joinM (eC (.str [])) (aCons (eComp (iE (eBin addD (eSl (eR 0) (oSo (eV 1)) oNo) (eSl (eR 0) oNo (oSo (eV 1))))) (gN 2) [2] cYes (eBin ixD (eR 2) (eC (.int 0)))) aNil))))
noncomputable def f_round_told : List D → R D := runB false 3 m_round_told
theorem round_told_ok (us : List (List Nat)) (h0 : us ≠ []) (hl : us.length ≤ 1000) (hw : ∀ w ∈ us, 1 ≤ w.length ∧ w.length ≤ 1000) : f_round_told [.lst (us.map .str)] = .ok (.str (roundT us)) := by
  have m1 := min1D_l us h0
  have i1 := idxL_t us (minL us) (minL_spec h0).1
  unfold roundT
  have hi : us.idxOf (minL us) < us.length := List.idxOf_lt_length_of_mem (minL_spec h0).1
  generalize us.idxOf (minL us) = i at *
  generalize minL us = m at *
  have s1 : slD (.lst (us.map .str)) (some (i : Int)) none = .ok (.lst ((us.drop i).map .str)) := by
    rw [slD_l, cutL_map, cutL_from _ _ (by omega), Int.toNat_natCast]
  have s2 : slD (.lst (us.map .str)) none (some (i : Int)) = .ok (.lst ((us.take i).map .str)) := by
    rw [slD_l, cutL_map, cutL_to _ _ (by omega), Int.toNat_natCast]
  have ad : addD (.lst ((us.drop i).map .str)) (.lst ((us.take i).map .str)) = .ok (.lst ((us.drop i ++ us.take i).map .str)) := by
    rw [addD_l, if_pos (le_sz (by simp; omega)), ← List.map_append]
  have hv : ∀ w ∈ us.drop i ++ us.take i, 1 ≤ w.length ∧ w.length ≤ 1000 := fun w hw' => by
    rcases List.mem_append.mp hw' with h | h
    · exact hw w (List.mem_of_mem_drop h)
    · exact hw w (List.mem_of_mem_take h)
  have hvl : (us.drop i ++ us.take i).length ≤ 1000 := by simp; omega
  generalize us.drop i ++ us.take i = vs at *
  generalize us.drop i = v1 at *
  generalize us.take i = v2 at *
  have cm : ∀ s : SS, s = [.sh (.lst (us.map .str)), .sh (.int i), .no] → rComp (mapD (cStep (gN 2) [2] cYes (eBin ixD (eR 2) (eC (.int 0))) s) (vs.map .str)) = .ok (.lst (((vs.map fun w => w.headD 0).map fun c => [c]).map .str)) := fun s hs => by
    subst hs
    rw [comp_mapped _ (fun w => .str [w.headD 0]) _ (by omega) (fun w hw' => by
      have := hv w hw'
      obtain ⟨a, r, rfl⟩ : ∃ a r, w = a :: r := by cases w with | nil => simp at this | cons a r => exact ⟨a, r, rfl⟩
      have ix : ixD (.str (a :: r)) (.int 0) = .ok (.str [a]) := ixD_s _ _ (by omega) _ (le_sz (by omega)) rfl
      simp [cStep_s, gN, setS_s, rStep, ix])]
    rw [List.map_map, List.map_map]
    rfl
  have jn := joinM_ch (vs.map fun w => w.headD 0) (by simp; omega)
  generalize (vs.map fun w => w.headD 0) = z at *
  simp [f_round_told, m_round_told, runB_s, List.replicate, m1, i1, s1, s2, ad, -rComp_ok, -slD_l, -List.map_append]
  rw [cm _ rfl]
  simp only [R.bind_ok]
  generalize (z.map fun c => [c]).map D.str = zz at *
  simp [jn]

noncomputable def m_rounds : SS → RS :=
  (sSeq (sX (eCall f_fair_asked (aCons (eV 0) aNil)))
  (sSeq (sSetO 1 eDic0)
  (sSeq (sSetO 2 (eLst aNil))
  (sSeq (sFor (iE (eCall f_all_words (aCons (eUn (fldD 6 0) (eR 0)) (aCons (eUn (fldD 6 1) (eR 0)) aNil)))) (gN 3) (sIf (eBin (inD true) (eR 3) (eR 1)) (sSeq (sSet 4 (eCall f_words_from (aCons (eV 0) (aCons (eV 3) aNil))))
  (sSeq (sFor (iE (eV 4)) (gN 5) (sPutD 1 (eR 5) (eC (.bl true))))
  (sApp 2 (eCall f_round_told (aCons (eV 4) aNil))))) sNx))
  (sRet (eCall sortD (aCons (eR 2) aNil)))))))
noncomputable def f_rounds : List D → R D := runB false 6 m_rounds
theorem orbit_in {A : List (List Nat)} {f : List Nat → List Nat} (P : PermOn A f) {w x : List Nat} (hw : w ∈ A) (h : Orb f w x) : x ∈ A := by
  obtain ⟨i, rfl⟩ := h
  exact P.mem hw i
theorem rnd_ok {t : List Nat} {n k : Nat} (h : RuleOk t n k) (P : PermOn (allW k n) (nextW t k)) {w : List Nat} (hw : w ∈ allW k n) : f_words_from [ruleD t n k, .str w] = .ok (.lst ((orbit (nextW t k) w).map .str)) ∧ f_round_told [.lst ((orbit (nextW t k) w).map .str)] = .ok (.str (rnd (nextW t k) w)) := by
  have h6 := h.k6
  have h1 := h.k1
  have h64 := h.m64
  have hn1 := h.n1
  have hn8 := h.n8
  have hul : (allW k n).length = k ^ n := allW_len h6 n
  obtain ⟨hb, hl⟩ := P.per hw
  refine ⟨words_from_ok h hw hb (by omega), round_told_ok _ (fun e => ?_) (by unfold orbit; rw [orb_len]; omega) (fun x hx => ?_)⟩
  · have := orb_len (nextW t k) w (per (nextW t k) w)
    unfold orbit at e
    rw [e] at this
    have := hb.1
    simp at *
    omega
  · have hx := orbit_in P hw ((P.mem_orbit hw).mp hx)
    have := (isW_iff.mp ((memW h1 h6).mp hx)).1
    omega
theorem rounds_ok {t : List Nat} {n k : Nat} (h : RuleOk t n k) (hf : fairT t n k) : ∃ reps : List (List Nat), f_rounds [ruleD t n k] = .ok (.lst ((sortT (reps.map (rnd (nextW t k)))).map .str)) ∧ Reps (allW k n) (nextW t k) (allW k n) reps := by
  have h6 := h.k6
  have h1 := h.k1
  have h64 := h.m64
  have P := fair_perm h hf
  have fa := fair_asked_ok h hf
  have e1 := all_rule h
  have rk := fun w hw => rnd_ok h P (w := w) hw
  have hul : (allW k n).length = k ^ n := allW_len h6 n
  have hR : ruleD t n k = .obj 6 [.int n, .int k, .str t] := rfl
  have e0 : dicT [] = dicT (setP []) := rfl
  have e00 : D.lst [] = .lst ((([] : List (List Nat)).map (rnd (nextW t k))).map .str) := rfl
  generalize nextW t k = f at *
  generalize allW k n = A at *
  rw [hR] at fa
  simp [f_rounds, m_rounds, runB_s, List.replicate, hR, fa, e1]
  rw [← hR, e0, e00]
  generalize ruleD t n k = R at *
  refine forM_q (Q := fun r => ∃ reps : List (List Nat), fin _ (bnd r _) = .ok (.lst ((sortT (reps.map (rnd f))).map .str)) ∧ Reps A f A reps) (fun i s => ∃ (a b c : Sl) (ms reps : List (List Nat)), s = [.sh R, .ow (dicT (setP ms)), .ow (.lst ((reps.map (rnd f)).map .str)), a, b, c] ∧ canS (some a) = true ∧ canS (some b) = true ∧ canS (some c) = true ∧ ms.Nodup ∧ (∀ x, x ∈ ms ↔ ∃ u ∈ reps, Orb f u x) ∧ reps.length ≤ i ∧ Reps A f (A.take i) reps) ⟨_, _, _, [], [], rfl, rfl, rfl, rfl, List.nodup_nil, by simp, by simp, ⟨by simp, List.Pairwise.nil, by simp⟩⟩ ?_ ?_
  · rintro i w s hi ⟨a, b, c, ms, reps, rfl, ha, hb, hc, hnd, hms, hrl, hrep⟩
    have hwm := List.mem_of_getElem? hi
    have hil : i < A.length := (List.getElem?_eq_some_iff.mp hi).1
    have hsn : A.take (i + 1) = A.take i ++ [w] := by rw [List.take_add_one, hi]; rfl
    have inn := inD_t true w (setP ms)
    rw [setP_keys] at inn
    have hmsA : ∀ x ∈ ms, x ∈ A := fun x hx => by
      obtain ⟨u, hu, o⟩ := (hms x).mp hx
      exact orbit_in P (hrep.sub u hu) o
    by_cases cc : w ∈ ms
    · simp [turn_s, ha, hb, hc, gN, setS_s, inn, cc]
      refine ⟨_, _, _, ms, reps, ⟨rfl, rfl, rfl, rfl, rfl⟩, rfl, hb, hc, hnd, hms, by omega, ⟨hrep.sub, hrep.apart, fun v hv => ?_⟩⟩
      rw [hsn] at hv
      rcases List.mem_append.mp hv with hv | hv
      · exact hrep.all v hv
      · rw [List.mem_singleton.mp hv]; exact (hms w).mp cc
    · obtain ⟨wf, rt⟩ := rk w hwm
      have hon : (orbit f w).Nodup := P.orb_nd hwm (P.per hwm).1
      have hol : (orbit f w).length ≤ A.length := nodup_le hon fun x hx => orbit_in P hwm ((P.mem_orbit hwm).mp hx)
      have hom := fun x => P.mem_orbit hwm (x := x)
      have zr : (reps.map (rnd f)).length + 1 ≤ SZ := le_sz (by simp; omega)
      simp [turn_s, ha, hb, hc, gN, setS_s, inn, cc, wf]
      refine bnd_on _ (forM_in (fun j s => ∃ (c : Sl) (ms' : List (List Nat)), s = [.sh R, .ow (dicT (setP ms')), .ow (.lst ((reps.map (rnd f)).map .str)), .sh (.str w), .sh (.lst ((orbit f w).map .str)), c] ∧ canS (some c) = true ∧ ms'.Nodup ∧ ∀ x, x ∈ ms' ↔ x ∈ ms ∨ x ∈ (orbit f w).take j) ⟨_, ms, by simp, hc, hnd, by simp⟩ ?_ fun s' h => h) ?_
      · rintro j x s hj ⟨c, ms', rfl, hc, hnd', hms'⟩
        have hxo := List.mem_of_getElem? hj
        have hl' : ms'.length ≤ A.length := nodup_le hnd' fun y hy => by
          rcases (hms' y).mp hy with h | h
          · exact hmsA y h
          · exact orbit_in P hwm ((hom y).mp (List.mem_of_mem_take h))
        have z1 : (setP ms').length + 1 ≤ SZ := le_sz (by rw [setP_len]; omega)
        have k1 := putDS_t [.sh R, .ow (dicT (setP ms')), .ow (.lst ((reps.map (rnd f)).map .str)), .sh (.str w), .sh (.lst ((orbit f w).map .str)), .sh (.str x)] 1 (setP ms') x (.bl true) z1
        rw [putA_set] at k1
        have hsn2 : (orbit f w).take (j + 1) = (orbit f w).take j ++ [x] := by rw [List.take_add_one, hj]; rfl
        rw [hsn2]
        generalize hG : (orbit f w) = O at *
        generalize hRR : (reps.map (rnd f)).map D.str = RR at *
        simp [turn_s, hc, gN, setS_s, k1]
        exact ⟨_, ins1 ms' x, ⟨rfl, rfl⟩, rfl, ins1_nodup hnd', fun y => by rw [mem_ins1, hms' y]; exact or_assoc⟩
      · rintro s ⟨c, ms', rfl, hc, hnd', hms'⟩
        rw [List.take_length] at hms'
        have ea : (reps.map (rnd f)).map D.str ++ [.str (rnd f w)] = ((reps ++ [w]).map (rnd f)).map .str := by simp
        have zr' : ((reps.map (rnd f)).map D.str).length + 1 ≤ SZ := by simpa using zr
        have fin : ∃ (a' b' c' : Sl) (ms2 reps2 : List (List Nat)), ([.sh R, .ow (dicT (setP ms')), .ow (.lst (((reps ++ [w]).map (rnd f)).map .str)), .sh (.str w), .sh (.lst ((orbit f w).map .str)), c] : SS) = [.sh R, .ow (dicT (setP ms2)), .ow (.lst ((reps2.map (rnd f)).map .str)), a', b', c'] ∧ (canS (some a') = true ∧ canS (some b') = true ∧ canS (some c') = true) ∧ ms2.Nodup ∧ (∀ x, x ∈ ms2 ↔ ∃ u ∈ reps2, Orb f u x) ∧ reps2.length ≤ i + 1 ∧ Reps A f (A.take (i + 1)) reps2 := by
          refine ⟨_, _, _, ms', reps ++ [w], rfl, ⟨rfl, rfl, hc⟩, hnd', fun x => ?_, by simp; omega, ⟨fun u hu => ?_, ?_, fun v hv => ?_⟩⟩
          · rw [hms' x, hms x, hom x]
            constructor
            · rintro (⟨u, hu, o⟩ | o)
              · exact ⟨u, List.mem_append_left _ hu, o⟩
              · exact ⟨w, by simp, o⟩
            · rintro ⟨u, hu, o⟩
              rcases List.mem_append.mp hu with hu | hu
              · exact .inl ⟨u, hu, o⟩
              · rw [List.mem_singleton.mp hu] at o; exact .inr o
          · rcases List.mem_append.mp hu with hu | hu
            · exact hrep.sub u hu
            · rw [List.mem_singleton.mp hu]; exact hwm
          · refine List.pairwise_append.mpr ⟨hrep.apart, by simp, fun u hu v hv o => ?_⟩
            rw [List.mem_singleton.mp hv] at o
            exact cc ((hms w).mpr ⟨u, hu, o⟩)
          · rw [hsn] at hv
            rcases List.mem_append.mp hv with hv | hv
            · obtain ⟨u, hu, o⟩ := hrep.all v hv
              exact ⟨u, List.mem_append_left _ hu, o⟩
            · rw [List.mem_singleton.mp hv]
              exact ⟨w, by simp, Orb.refl w⟩
        rw [← ea] at fin
        generalize hRR : (reps.map (rnd f)).map D.str = RR at *
        generalize hG : (orbit f w).map D.str = O at *
        obtain ⟨a2, b2, c2, ms2, reps2, e, ⟨q1, q2, q3⟩, rest⟩ := fin
        refine ⟨[.sh R, .ow (dicT (setP ms')), .ow (.lst (RR ++ [.str (rnd f w)])), .sh (.str w), .sh (.lst O), c], ?_, a2, b2, c2, ms2, reps2, by rw [e, List.map_map], q1, q2, q3, rest⟩
        simp [rt, zr', hc]
  · rintro s ⟨a, b, c, ms, reps, rfl, ha, hb, hc, hnd, hms, hrl, hrep⟩
    rw [List.take_length] at hrep
    refine ⟨reps, ?_, hrep⟩
    generalize reps.map (rnd f) = T at *
    simp

noncomputable def m_law_texts : SS → RS :=
  (sSeq (sIf (eOr (eNot (eUn (isiD "list") (eR 0))) (eBin neD (eCall lenD (aCons (eR 0) aNil)) (eCall lenD (aCons (eR 1) aNil)))) (sRet (eC (.bl false))) sNx)
  (sSeq (sFor (i_zip (aCons (eV 0) (aCons (eV 1) aNil))) (gT [(gN 2), (gN 3)]) (sIf (eOr (eNot (eUn (isiD "str") (eR 2))) (eBin neD (eR 2) (eR 3))) (sRet (eC (.bl false))) sNx))
  (sRet (eC (.bl true)))))
noncomputable def f_law_texts : List D → R D := runB false 4 m_law_texts
theorem law_texts_ok (us : List (List Nat)) (hl : us.length ≤ 100000) : f_law_texts [.lst (us.map .str), .lst (us.map .str)] = .ok (.bl true) := by
  have zu : us.length ≤ SZ := le_sz (by omega)
  have ez : zipW (us.map .str) (us.map .str) = us.map fun u => .tup [.str u, .str u] := by
    unfold zipW
    rw [List.zipWith_map, List.zipWith_self]
  simp [f_law_texts, m_law_texts, runB_s, List.replicate, zu, ez]
  refine forM_q (Q := fun r => fin false (bnd r _) = .ok (.bl true)) (fun i s => ∃ (a b : Sl), s = [.sh (.lst (us.map .str)), .sh (.lst (us.map .str)), a, b] ∧ canS (some a) = true ∧ canS (some b) = true) ⟨_, _, rfl, rfl, rfl⟩ ?_ ?_
  · rintro i u s hi ⟨a, b, rfl, ha, hb⟩
    simp [turn_s, ha, hb, gN, setS_s]
    exact ⟨_, _, ⟨rfl, rfl⟩, rfl, rfl⟩
  · rintro s ⟨a, b, rfl, ha, hb⟩
    simp

noncomputable def m_round_of : SS → RS :=
  (sSeq (sX (eCall f_word_asked (aCons (eV 0) (aCons (eV 1) aNil))))
  (sSeq (sX (eCall f_fair_asked (aCons (eV 0) aNil)))
  (sRet (eCall f_round_told (aCons (eCall f_words_from (aCons (eV 0) (aCons (eV 1) aNil))) aNil)))))
noncomputable def f_round_of : List D → R D := runB false 2 m_round_of
theorem round_of_ok {t : List Nat} {n k : Nat} (h : RuleOk t n k) (hf : fairT t n k) {w : List Nat} (hw : w ∈ allW k n) : f_round_of [ruleD t n k, .str w] = .ok (.str (rnd (nextW t k) w)) := by
  have hn8 := h.n8
  have P := fair_perm h hf
  have fa := fair_asked_ok h hf
  have hW := (memW h.k1 h.k6).mp hw
  have hl := (isW_iff.mp hW).1
  have wa := word_asked_all h w (by omega)
  rw [if_pos hW] at wa
  obtain ⟨wf, rt⟩ := rnd_ok h P hw
  generalize (orbit (nextW t k) w).map D.str = O at *
  simp [f_round_of, m_round_of, runB_s, List.replicate, wa, fa, wf, rt]

noncomputable def m_law_fine : SS → RS :=
  (sSeq (sSet 1 (eCall f_law_stir (aCons (eV 0) (aCons (eC (.int 3)) aNil))))
  (sSeq (sAsg (gT [(gN 2), (gN 3)]) (eCall f_law_size (aCons (eBin fdivD (eR 1) (eC (.int 7))) aNil)))
  (sSeq (sSet 4 (eCall f_law_words (aCons (eV 2) (aCons (eV 3) aNil))))
  (sSeq (sSet 5 (eCall f_turning (aCons (eV 2) (aCons (eV 3) aNil))))
  (sSeq (sIf (eBin neD (eTup (aCons (eUn (fldD 6 0) (eR 5)) (aCons (eUn (fldD 6 1) (eR 5)) (aCons (eUn (fldD 6 2) (eR 5)) aNil)))) (eTup (aCons (eV 2) (aCons (eV 3) (aCons (eM "str" joinM (eC (.str [])) (aCons (eComp (iE (eV 4)) (gN 7) [7] cYes (eBin ixD (eR 7) (eC (.int 0)))) aNil)) aNil))))) (sRet (eC (.bl false))) sNx)
  (sSeq (sSet 6 (eUn sortSetD (eComp (iE (eV 4)) (gN 7) [7] cYes (eCall f_law_root (aCons (eCall f_law_least (aCons (eV 7) aNil)) aNil)))))
  (sSeq (sIf (eOr (eBin (isN true) (eCall f_is_fair (aCons (eV 5) aNil)) (eC (.bl true))) (eNot (eCall f_law_texts (aCons (eCall f_rounds (aCons (eV 5) aNil)) (aCons (eV 6) aNil))))) (sRet (eC (.bl false))) sNx)
  (sSeq (sSet 7 (eBin ixD (eR 4) (eBin modD (eBin fdivD (eR 1) (eC (.int 200))) (eCall lenD (aCons (eR 4) aNil)))))
  (sRet (eBin eqD (eCall f_round_of (aCons (eV 5) (aCons (eV 7) aNil))) (eCall f_law_root (aCons (eCall f_law_least (aCons (eV 7) aNil)) aNil))))))))))))
noncomputable def f_law_fine : List D → R D := runB false 8 m_law_fine

noncomputable def m_law : SS → RS :=
  (sSeq (sFor (iE (eBin addD (eSl (eR 0) oNo (oSo (eC (.int 12)))) (eLst (aCons (eCall sumD (aCons (eR 0) aNil)) aNil)))) (gN 1) (sIf (eNot (eCall f_law_fine (aCons (eV 1) aNil))) (sRet (eC (.bl false))) sNx))
  (sRet (eC (.bl true))))
noncomputable def f_law : List D → R D := runB false 2 m_law
theorem heads_next {n k : Nat} (h1 : 1 ≤ k) (h6 : k ≤ 6) (hn : 1 ≤ n) {w : List Nat} (hw : w ∈ allW k n) : nextW (headsT k n) k w = rot w 1 := by
  have hW := (memW h1 h6).mp hw
  obtain ⟨a, b⟩ := isW_iff.mp hW
  have e := allW_of h1 h6 a b
  obtain ⟨x, r, rfl⟩ : ∃ x r, w = x :: r := by cases w with | nil => simp at a; omega | cons x r => exact ⟨x, r, rfl⟩
  unfold nextW headsT
  have : (((allW k n).map fun w => w.headD 0).getD (numW k (x :: r)).toNat 0) = x := by
    rw [List.getD_eq_getElem?_getD, List.getElem?_map, e]
    rfl
  rw [this]
  rfl
theorem heads_fair {n k : Nat} (h1 : 1 ≤ k) (h6 : k ≤ 6) (hn : 1 ≤ n) : fairT (headsT k n) n k := by
  unfold fairT
  have e : (allW k n).map (nextW (headsT k n) k) = (allW k n).map fun w => rot w 1 := List.map_congr_left fun w hw => heads_next h1 h6 hn hw
  rw [e]
  refine List.pairwise_map.mpr ((nodup_lt (allW_sorted h1 h6 n)).imp_of_mem fun {a b} ha hb hab q => hab ?_)
  have la := ((mem_allW h1 h6).mp ha).1
  have lb := ((mem_allW h1 h6).mp hb).1
  have q2 : rot (rot a 1) (n - 1) = rot (rot b 1) (n - 1) := by rw [q]
  rw [rot_rot a _ _ (by omega) (by omega) (by omega), rot_rot b _ _ (by omega) (by omega) (by omega), la, lb, show 1 + (n - 1) = n by omega, Nat.mod_self, rot_zero, rot_zero] at q2
  exact q2
theorem neD_trip (n k : Nat) (t : List Nat) : neD (.tup [.int n, .int k, .str t]) (.tup [.int n, .int k, .str t]) = .ok (.bl false) := by
  rw [neD_ok, if_pos ⟨by simp [dep, depL], by simp [dep, depL]⟩]
  simp [eqv, eqvL]
theorem fine_ok (x : Int) : f_law_fine [.int x] = .ok (.bl true) := by
  obtain ⟨z, ez, hz⟩ := law_stir_ok x 3 (by omega)
  obtain ⟨n, k, es, h1, h6, hn, hn8, h64⟩ := law_size_ok (z / 7)
  have f7 := fdivD_s z 7 (by omega) (by omega)
  have f200 := fdivD_s z 200 (by omega) (by omega)
  have ew := law_words_ok n k h1 h6 hn8 h64
  have et := turning_ok h1 h6 hn hn8 h64
  have hR := heads_rule h1 h6 hn hn8 h64
  have hF := heads_fair h1 h6 hn
  have P := fair_perm hR hF
  obtain ⟨b, ef, hb⟩ := is_fair_ok hR
  have : b = true := hb.mpr hF
  subst this
  obtain ⟨reps, er, hreps⟩ := rounds_ok hR hF
  have ro := fun w hw => round_of_ok hR hF (w := w) hw
  have hnx : ∀ w ∈ allW k n, nextW (headsT k n) k w = rot w 1 := fun w hw => heads_next h1 h6 hn hw
  have hA : ∀ w ∈ allW k n, w.length = n := fun w hw => ((mem_allW h1 h6).mp hw).1
  have hAne : ∀ w ∈ allW k n, w ≠ [] := fun w hw e => by have := hA w hw; rw [e] at this; simp at this; omega
  have hrn := fun w hw => rnd_rot hn hnx hA P (w := w) hw
  have hul : (allW k n).length = k ^ n := allW_len h6 n
  have hp : 0 < k ^ n := Nat.pow_pos (by omega)
  have zN : k ^ n ≤ SZ := le_sz (by omega)
  have hS : sortT (reps.map (rnd (nextW (headsT k n) k))) = sortT (dedT ((allW k n).map fun w => rootW (lrot w))) := by
    have nd : (reps.map (rnd (nextW (headsT k n) k))).Nodup := by
      refine List.pairwise_map.mpr (hreps.apart.imp_of_mem fun {u v} hu hv hno e => hno ?_)
      have hu := hreps.sub u hu
      have hv := hreps.sub v hv
      rw [hrn u hu, hrn v hv] at e
      exact orb_of_lrot hn hnx hA P hu hv (root_same (hAne u hu) (hAne v hv) (by rw [hA u hu, hA v hv]) e)
    refine asc_ext (sortT_asc nd) (sortT_asc (dedT_nodup _)) fun y => ?_
    rw [sortT_mem, sortT_mem, dedT_mem, List.mem_map, List.mem_map]
    constructor
    · rintro ⟨u, hu, rfl⟩
      exact ⟨u, hreps.sub u hu, (hrn u (hreps.sub u hu)).symm⟩
    · rintro ⟨w, hw, rfl⟩
      obtain ⟨u, hu, i, o⟩ := hreps.all w hw
      have huA := hreps.sub u hu
      refine ⟨u, hu, ?_⟩
      rw [hrn u huA, ← o, itf_rot hn hnx hA P huA, lrot_rot (by rw [hA u huA]; exact Nat.mod_lt _ (by omega))]
  rw [hS] at er
  have cm1 : ∀ s : SS, ∀ R : D, s = [.sh (.int x), .sh (.int z), .sh (.int n), .sh (.int k), .sh (.lst ((allW k n).map .str)), .sh R, .no, .no] → rComp (mapD (cStep (gN 7) [7] cYes (eBin ixD (eR 7) (eC (.int 0))) s) ((allW k n).map .str)) = .ok (.lst (((headsT k n).map fun c => [c]).map .str)) := fun s R hs => by
    subst hs
    rw [comp_mapped _ (fun w => .str [w.headD 0]) _ (by omega) (fun w hw => by
      have := hA w hw
      obtain ⟨a, r, rfl⟩ : ∃ a r, w = a :: r := by cases w with | nil => simp at this; omega | cons a r => exact ⟨a, r, rfl⟩
      have ix : ixD (.str (a :: r)) (.int 0) = .ok (.str [a]) := ixD_s _ _ (by omega) _ (le_sz (by omega)) rfl
      simp [cStep_s, gN, setS_s, rStep, ix])]
    unfold headsT
    rw [List.map_map, List.map_map]
    rfl
  have lr : ∀ w ∈ allW k n, f_law_least [.str w] = .ok (.str (lrot w)) ∧ f_law_root [.str (lrot w)] = .ok (.str (rootW (lrot w))) := fun w hw => by
    have hwl := hA w hw
    have h0 := hAne w hw
    exact ⟨law_least_ok w h0 (by omega), law_root_ok _ (lrot_nil h0) (by rw [lrot_len h0]; omega)⟩
  have cm2 : ∀ s : SS, ∀ R : D, s = [.sh (.int x), .sh (.int z), .sh (.int n), .sh (.int k), .sh (.lst ((allW k n).map .str)), .sh R, .no, .no] → rComp (mapD (cStep (gN 7) [7] cYes (eCall f_law_root (aCons (eCall f_law_least (aCons (eV 7) aNil)) aNil)) s) ((allW k n).map .str)) = .ok (.lst (((allW k n).map fun w => rootW (lrot w)).map .str)) := fun s R hs => by
    subst hs
    rw [comp_mapped _ (fun w => .str (rootW (lrot w))) _ (by omega) (fun w hw => by
      obtain ⟨q1, q2⟩ := lr w hw
      simp [cStep_s, gN, setS_s, rStep, q1, q2])]
    rw [List.map_map]
    rfl
  have ss := sortSetD_m ((allW k n).map fun w => rootW (lrot w)) (by rw [List.length_map]; omega)
  have jn := joinM_ch (headsT k n) (by have := hR.len; omega)
  have tx := law_texts_ok (sortT (dedT ((allW k n).map fun w => rootW (lrot w)))) (by
    rw [sortT_len]
    have := dedT_le ((allW k n).map fun w => rootW (lrot w))
    simp at this
    omega)
  have md := modD_i (z / 200) (k ^ n : Nat) (by omega)
  obtain ⟨i, hi, hil⟩ : ∃ i : Nat, z / 200 % ((k ^ n : Nat) : Int) = i ∧ i < k ^ n := ⟨(z / 200 % ((k ^ n : Nat) : Int)).toNat, by have := Int.emod_nonneg (z / 200) (show ((k ^ n : Nat) : Int) ≠ 0 by omega); omega, by have := Int.emod_lt_of_pos (z / 200) (show (0 : Int) < (k ^ n : Nat) by omega); have := Int.emod_nonneg (z / 200) (show ((k ^ n : Nat) : Int) ≠ 0 by omega); omega⟩
  rw [hi] at md
  have hw : (allW k n)[i]? = some ((allW k n)[i]'(by omega)) := List.getElem?_eq_getElem (by omega)
  generalize (allW k n)[i]'(by omega) = w at hw
  have hwA : w ∈ allW k n := List.mem_of_getElem? hw
  have iw : ixD (.lst ((allW k n).map .str)) (.int i) = .ok (.str w) := ixD_l _ _ (by omega) _ (by simp [hw])
  obtain ⟨q1, q2⟩ := lr w hwA
  have q3 := ro w hwA
  rw [hrn w hwA] at q3
  have nt := neD_trip n k (headsT k n)
  have isb : isN true (.bl true) (.bl true) = .ok (.bl false) := rfl
  have hRd : ruleD (headsT k n) n k = .obj 6 [.int n, .int k, .str (headsT k n)] := rfl
  rw [hRd] at et ef er q3
  generalize hH : ((headsT k n).map fun c => [c]).map D.str = HH at *
  generalize headsT k n = t at *
  generalize hRR : (((allW k n).map fun w => rootW (lrot w)).map D.str) = RR at *
  generalize hSS : ((sortT (dedT ((allW k n).map fun w => rootW (lrot w)))).map D.str) = S9 at *
  generalize rootW (lrot w) = rw1 at *
  generalize allW k n = us at *
  generalize k ^ n = N at *
  simp [f_law_fine, m_law_fine, runB_s, List.replicate, ez, f7, es, gN, setS_s, ew, et, -rComp_ok]
  rw [cm1 _ _ rfl]
  simp [jn, nt, -rComp_ok]
  rw [cm2 _ _ rfl]
  simp [ss, ef, er, tx, isb, f200, hul, zN, md, iw, q1, q2, q3]
theorem main : ∀ ns : List Int, ns.length ≤ 63 → f_law [.lst (ns.map .int)] = .ok (.bl true) := by
  intro ns hns
  have ad : addD (.lst (cutL (ns.map D.int) none (some 12))) (.lst [.int ns.sum]) = .ok (.lst ((ns.take 12 ++ [ns.sum]).map .int)) := by
    rw [cutL_map, cutL_to _ _ (by omega), addD_l, if_pos (le_sz (by simp; omega))]
    simp
  generalize ns.take 12 ++ [ns.sum] = cs at *
  generalize hs : ns.sum = q at *
  simp [f_law, m_law, runB_s, List.replicate, hs, ad]
  refine forM_q (Q := fun r => fin false (bnd r _) = .ok (.bl true)) (fun i s => ∃ (a : Sl), s = [.sh (.lst (ns.map .int)), a] ∧ canS (some a) = true) ⟨_, rfl, rfl⟩ ?_ ?_
  · rintro i x s hi ⟨a, rfl, ha⟩
    have fo := fine_ok x
    simp [turn_s, ha, gN, setS_s, fo]
  · rintro s ⟨a, rfl, ha⟩
    simp
def topS (i : Nat) : Stmt := PySem.Challenge.pw_onceround_k48_turning_rules.main.body.getD i (.Pass ⟨0, 0, 0, 0⟩)
structure TF (K : PySem.W.Frag) (mg : Str → Option Value) (G : GE) : Prop where
  c_LETTERS : ∃ tk, mg "LETTERS" = some (.str "abcdef" tk)
  c_LONGEST : ∃ tk, mg "LONGEST" = some (.int 24 tk)
  c_MOST_LENGTH : ∃ tk, mg "MOST_LENGTH" = some (.int 8 tk)
  c_MOST_LETTERS : ∃ tk, mg "MOST_LETTERS" = some (.int 24 tk)
  c_MOST_WORDS_rules : ∃ tk, mg "MOST_WORDS_rules" = some (.int 64 tk)
  c_MOST_WORDS_words : ∃ tk, mg "MOST_WORDS_words" = some (.int 4096 tk)
  f_Rule_kinds : FldC G 6 "kinds" 1
  f_Rule_length : FldC G 6 "length" 0
  f_Rule_told : FldC G 6 "told" 2
  s_Rule_kinds : SetC G 4 5 "kinds"
  s_Rule_length : SetC G 3 4 "length"
  s_Rule_told : SetC G 5 6 "told"
  x_BadKinds : RsC K mg G "BadKinds" 1
  x_BadRule : RsC K mg G "BadRule" 6
  x_BadWord : RsC K mg G "BadWord" 2
  x_NoSuch : RsC K mg G "NoSuch" 5
  x_TooMany : RsC K mg G "TooMany" 3
  z_isinstance : mg "isinstance" = none
  z_len : mg "len" = none
  z_list : mg "list" = none
  z_min : mg "min" = none
  z_range : mg "range" = none
  z_reversed : mg "reversed" = none
  z_set : mg "set" = none
  z_sorted : mg "sorted" = none
  z_str : mg "str" = none
  z_sum : mg "sum" = none
  z_zip : mg "zip" = none
abbrev st_law_stir : Stmt := topS 37
theorem sc__law_stir : FnScope ["cell", "k", "m"] ["cell", "k"] (defScope st_law_stir) := ⟨rfl, rfl, rfl, by decide +kernel, rfl, by decide +kernel, by decide +kernel⟩
theorem ok_law_stir {P : Program} {w : World} {K : PySem.W.Frag} {mg : Str → Option Value} {base : Heap} {G : GE} {f : Addr} {fd : FuncData} (hK : K = G.K) (T : TF K mg G)  (Fu : Fun K "_law_stir" "_law_stir" st_law_stir f fd) :
    FnOk P w K mg base (L2.CX P w) 1 f fd ["cell", "k"] (spD G 2 f_law_stir false) :=
  fn_ok Fu sc__law_stir hK (by decide) (fun cdv A outer s H F E hr v =>
    (ss_cons (s_set 2 (s_mod v (s_b (s_add v (s_b (s_mul v (s_b (s_mod v (s_r 0) (s_b s_int))) (s_b s_int))) (s_b (s_mul v (s_b (s_mul v (s_b (s_add v (s_r 1) (s_b s_int))) (s_b (s_add v (s_r 1) (s_b s_int))))) (s_b s_int))))) (s_b s_int)) sc__law_stir.nd)
    (ss_one (s_ret (s_mod v (s_b (s_mul v (s_r 2) (s_r 2))) (s_b s_int)))))) (fun _ _ _ => rfl)
abbrev st_law_size : Stmt := topS 39
theorem sc__law_size : FnScope ["cell", "sizes"] ["cell"] (defScope st_law_size) := ⟨rfl, rfl, rfl, by decide +kernel, rfl, by decide +kernel, by decide +kernel⟩
theorem ok_law_size {P : Program} {w : World} {K : PySem.W.Frag} {mg : Str → Option Value} {base : Heap} {G : GE} {f : Addr} {fd : FuncData} (hK : K = G.K) (T : TF K mg G)  (Fu : Fun K "_law_size" "_law_size" st_law_size f fd) :
    FnOk P w K mg base (L2.CX P w) 1 f fd ["cell"] (spD G 1 f_law_size false) :=
  fn_ok Fu sc__law_size hK (by decide) (fun cdv A outer s H F E hr v =>
    (ss_cons (s_set 1 (s_f (s_lst (s_acons (s_tup (s_acons s_int (s_acons s_int s_anil))) (s_acons (s_tup (s_acons s_int (s_acons s_int s_anil))) (s_acons (s_tup (s_acons s_int (s_acons s_int s_anil))) (s_acons (s_tup (s_acons s_int (s_acons s_int s_anil))) (s_acons (s_tup (s_acons s_int (s_acons s_int s_anil))) (s_acons (s_tup (s_acons s_int (s_acons s_int s_anil))) (s_acons (s_tup (s_acons s_int (s_acons s_int s_anil))) (s_acons (s_tup (s_acons s_int (s_acons s_int s_anil))) (s_acons (s_tup (s_acons s_int (s_acons s_int s_anil))) (s_acons (s_tup (s_acons s_int (s_acons s_int s_anil))) (s_acons (s_tup (s_acons s_int (s_acons s_int s_anil))) s_anil))))))))))))) sc__law_size.nd)
    (ss_cons (s_set 1 (s_add v (s_r 1) (s_b (s_f (s_lst (s_acons (s_tup (s_acons s_int (s_acons s_int s_anil))) (s_acons (s_tup (s_acons s_int (s_acons s_int s_anil))) (s_acons (s_tup (s_acons s_int (s_acons s_int s_anil))) (s_acons (s_tup (s_acons s_int (s_acons s_int s_anil))) (s_acons (s_tup (s_acons s_int (s_acons s_int s_anil))) (s_acons (s_tup (s_acons s_int (s_acons s_int s_anil))) (s_acons (s_tup (s_acons s_int (s_acons s_int s_anil))) (s_acons (s_tup (s_acons s_int (s_acons s_int s_anil))) s_anil)))))))))))) sc__law_size.nd)
    (ss_one (s_ret (s_ix v.K v.hu (s_r 1) (s_b (s_mod v (s_r 0) (s_b (s_bi lenD_ne (call_lenD v.K) rfl T.z_len (by decide +kernel) (s_bcons (s_r 1) s_bnil))))))))))) (fun _ _ _ => rfl)
abbrev st_law_words : Stmt := topS 40
theorem sc__law_words : FnScope ["length", "kinds", "words", "k", "longer", "word", "letter"] ["length", "kinds"] (defScope st_law_words) := ⟨rfl, rfl, rfl, by decide +kernel, rfl, by decide +kernel, by decide +kernel⟩
theorem ok_law_words {P : Program} {w : World} {K : PySem.W.Frag} {mg : Str → Option Value} {base : Heap} {G : GE} {f : Addr} {fd : FuncData} (hK : K = G.K) (T : TF K mg G)  (Fu : Fun K "_law_words" "_law_words" st_law_words f fd) :
    FnOk P w K mg base (L2.CX P w) 1 f fd ["length", "kinds"] (spD G 2 f_law_words false) :=
  fn_ok Fu sc__law_words hK (by decide) (fun cdv A outer s H F E hr v =>
    (ss_cons (s_set 2 (s_f (s_lst (s_acons (s_str []) s_anil))) sc__law_words.nd)
    (ss_cons (s_for v (s_range1 v rfl T.z_range (s_bcons (s_r 0) s_bnil)) (g_n 3 sc__law_words.nd) (ss_cons (s_seto 4 (s_lst s_anil) sc__law_words.nd)
    (ss_cons (s_for v (s_iter v (s_v 2)) (g_n 5 sc__law_words.nd) (ss_one (s_for v (s_iter v (s_sl v.K (s_b (s_str [97, 98, 99, 100, 101, 102])) s_ono (s_oso (s_v 1)))) (g_n 6 sc__law_words.nd) (ss_one (s_app 4 (s_add v (s_r 5) (s_r 6)))))))
    (ss_one (s_frz 4 (s_set 2 (s_v 4) sc__law_words.nd))))))
    (ss_one (s_ret (s_v 2)))))) (fun _ _ _ => rfl)
abbrev st_letters : Stmt := topS 11
theorem sc_letters : FnScope ["kinds"] ["kinds"] (defScope st_letters) := ⟨rfl, rfl, rfl, by decide +kernel, rfl, by decide +kernel, by decide +kernel⟩
theorem ok_letters {P : Program} {w : World} {K : PySem.W.Frag} {mg : Str → Option Value} {base : Heap} {G : GE} {f : Addr} {fd : FuncData} (hK : K = G.K) (T : TF K mg G)  (Fu : Fun K "letters" "letters" st_letters f fd) :
    FnOk P w K mg base (L2.CX P w) 1 f fd ["kinds"] (spD G 1 f_letters false) :=
  fn_ok Fu sc_letters hK (by decide) (fun cdv A outer s H F E hr v =>
    (ss_cons (s_ifs (PW.pt (s_tor (t_lt v (s_r 0) (s_b s_int)) (s_tor1 (t_gt v (s_r 0) (s_b (s_bi lenD_ne (call_lenD v.K) rfl T.z_len (by decide +kernel) (s_bcons (s_b (s_gstr [97, 98, 99, 100, 101, 102] rfl T.c_LETTERS.choose_spec)) s_bnil))))))) (ss_one (s_raiseC v T.x_BadKinds rfl)) ss_nil)
    (ss_one (s_ret (s_sl v.K (s_b (s_gstr [97, 98, 99, 100, 101, 102] rfl T.c_LETTERS.choose_spec)) s_ono (s_oso (s_v 0))))))) (fun _ _ _ => rfl)
abbrev st_word_count : Stmt := topS 19
theorem sc_word_count : FnScope ["length", "kinds", "many", "k"] ["length", "kinds"] (defScope st_word_count) := ⟨rfl, rfl, rfl, by decide +kernel, rfl, by decide +kernel, by decide +kernel⟩
theorem ok_word_count {P : Program} {w : World} {K : PySem.W.Frag} {mg : Str → Option Value} {base : Heap} {G : GE} {f : Addr} {fd : FuncData} (hK : K = G.K) (T : TF K mg G) (K_letters : Kn P w K mg base G "letters" 1 f_letters false 1) (Fu : Fun K "word_count" "word_count" st_word_count f fd) :
    FnOk P w K mg base (L2.CX P w) 2 f fd ["length", "kinds"] (spD G 2 f_word_count false) :=
  fn_ok Fu sc_word_count hK (by decide) (fun cdv A outer s H F E hr v =>
    (ss_cons (s_x (s_call v K_letters (hr.mono (by decide)) rfl (n_cons n_nil) (s_acons (s_v 1) s_anil)))
    (ss_cons (s_ifs (PW.pt (s_tor (t_lt v (s_r 0) (s_b s_int)) (s_tor1 (t_gt v (s_r 0) (s_b (s_gint rfl T.c_MOST_LETTERS.choose_spec)))))) (ss_one (s_raiseC v T.x_BadWord rfl)) ss_nil)
    (ss_cons (s_set 2 s_int sc_word_count.nd)
    (ss_cons (s_for v (s_range1 v rfl T.z_range (s_bcons (s_r 0) s_bnil)) (g_n 3 sc_word_count.nd) (ss_one (s_set 2 (s_mul v (s_r 2) (s_r 1)) sc_word_count.nd)))
    (ss_one (s_ret (s_v 2)))))))) (fun _ _ _ => rfl)
abbrev st_size_asked : Stmt := topS 23
theorem sc_size_asked : FnScope ["length", "kinds", "size"] ["length", "kinds"] (defScope st_size_asked) := ⟨rfl, rfl, rfl, by decide +kernel, rfl, by decide +kernel, by decide +kernel⟩
theorem ok_size_asked {P : Program} {w : World} {K : PySem.W.Frag} {mg : Str → Option Value} {base : Heap} {G : GE} {f : Addr} {fd : FuncData} (hK : K = G.K) (T : TF K mg G) (K_letters : Kn P w K mg base G "letters" 1 f_letters false 1) (K_word_count : Kn P w K mg base G "word_count" 2 f_word_count false 2) (Fu : Fun K "size_asked" "size_asked" st_size_asked f fd) :
    FnOk P w K mg base (L2.CX P w) 3 f fd ["length", "kinds"] (spD G 2 f_size_asked false) :=
  fn_ok Fu sc_size_asked hK (by decide) (fun cdv A outer s H F E hr v =>
    (ss_cons (s_x (s_call v K_letters (hr.mono (by decide)) rfl (n_cons n_nil) (s_acons (s_v 1) s_anil)))
    (ss_cons (s_ifs (PW.pt (s_tor (t_lt v (s_r 0) (s_b s_int)) (s_tor1 (t_gt v (s_r 0) (s_b (s_gint rfl T.c_MOST_LENGTH.choose_spec)))))) (ss_one (s_raiseC v T.x_BadWord rfl)) ss_nil)
    (ss_cons (s_set 2 (s_call v K_word_count (hr.mono (by decide)) rfl (n_cons (n_cons n_nil)) (s_acons (s_v 0) (s_acons (s_v 1) s_anil))) sc_size_asked.nd)
    (ss_cons (s_ifs (t_gt v (s_r 2) (s_b (s_gint rfl T.c_MOST_WORDS_rules.choose_spec))) (ss_one (s_raiseC v T.x_TooMany rfl)) ss_nil)
    (ss_one (s_ret (s_v 2)))))))) (fun _ _ _ => rfl)
abbrev st_count_of : Stmt := topS 14
theorem sc_count_of : FnScope ["length", "kinds", "count", "k"] ["length", "kinds"] (defScope st_count_of) := ⟨rfl, rfl, rfl, by decide +kernel, rfl, by decide +kernel, by decide +kernel⟩
theorem ok_count_of {P : Program} {w : World} {K : PySem.W.Frag} {mg : Str → Option Value} {base : Heap} {G : GE} {f : Addr} {fd : FuncData} (hK : K = G.K) (T : TF K mg G) (K_letters : Kn P w K mg base G "letters" 1 f_letters false 1) (Fu : Fun K "count_of" "count_of" st_count_of f fd) :
    FnOk P w K mg base (L2.CX P w) 2 f fd ["length", "kinds"] (spD G 2 f_count_of false) :=
  fn_ok Fu sc_count_of hK (by decide) (fun cdv A outer s H F E hr v =>
    (ss_cons (s_x (s_call v K_letters (hr.mono (by decide)) rfl (n_cons n_nil) (s_acons (s_v 1) s_anil)))
    (ss_cons (s_ifs (PW.pt (s_tor (t_lt v (s_r 0) (s_b s_int)) (s_tor1 (t_gt v (s_r 0) (s_b (s_gint rfl T.c_LONGEST.choose_spec)))))) (ss_one (s_raiseC v T.x_BadWord rfl)) ss_nil)
    (ss_cons (s_set 2 s_int sc_count_of.nd)
    (ss_cons (s_for v (s_range1 v rfl T.z_range (s_bcons (s_r 0) s_bnil)) (g_n 3 sc_count_of.nd) (ss_one (s_set 2 (s_mul v (s_r 2) (s_r 1)) sc_count_of.nd)))
    (ss_one (s_ret (s_v 2)))))))) (fun _ _ _ => rfl)
abbrev st_word_of : Stmt := topS 15
theorem sc_word_of : FnScope ["number", "length", "kinds", "count", "signs", "k"] ["number", "length", "kinds"] (defScope st_word_of) := ⟨rfl, rfl, rfl, by decide +kernel, rfl, by decide +kernel, by decide +kernel⟩
theorem ok_word_of {P : Program} {w : World} {K : PySem.W.Frag} {mg : Str → Option Value} {base : Heap} {G : GE} {f : Addr} {fd : FuncData} (hK : K = G.K) (T : TF K mg G) (K_count_of : Kn P w K mg base G "count_of" 2 f_count_of false 2) (Fu : Fun K "word_of" "word_of" st_word_of f fd) :
    FnOk P w K mg base (L2.CX P w) 3 f fd ["number", "length", "kinds"] (spD G 3 f_word_of false) :=
  fn_ok Fu sc_word_of hK (by decide) (fun cdv A outer s H F E hr v =>
    (ss_cons (s_set 3 (s_call v K_count_of (hr.mono (by decide)) rfl (n_cons (n_cons n_nil)) (s_acons (s_v 1) (s_acons (s_v 2) s_anil))) sc_word_of.nd)
    (ss_cons (s_ifs (PW.pt (s_tor (t_lt v (s_r 0) (s_b s_int)) (s_tor1 (t_ge v (s_r 0) (s_r 3))))) (ss_one (s_raiseC v T.x_NoSuch rfl)) ss_nil)
    (ss_cons (s_seto 4 (s_lst s_anil) sc_word_of.nd)
    (ss_cons (s_for v (s_range1 v rfl T.z_range (s_bcons (s_r 1) s_bnil)) (g_n 5 sc_word_of.nd) (ss_cons (s_app 4 (s_ix v.K v.hu (s_b (s_gstr [97, 98, 99, 100, 101, 102] rfl T.c_LETTERS.choose_spec)) (s_b (s_mod v (s_r 0) (s_r 2)))))
    (ss_one (s_set 0 (s_fdiv v (s_r 0) (s_r 2)) sc_word_of.nd))))
    (ss_one (s_ret (s_joinRev2 v rfl T.z_reversed (s_b (s_str [])) (s_r 4))))))))) (fun _ _ _ => rfl)
abbrev st_all_words : Stmt := topS 16
theorem sc_all_words : FnScope ["length", "kinds", "count", "number"] ["length", "kinds"] (defScope st_all_words) := ⟨rfl, rfl, rfl, by decide +kernel, rfl, by decide +kernel, by decide +kernel⟩
theorem ok_all_words {P : Program} {w : World} {K : PySem.W.Frag} {mg : Str → Option Value} {base : Heap} {G : GE} {f : Addr} {fd : FuncData} (hK : K = G.K) (T : TF K mg G) (K_count_of : Kn P w K mg base G "count_of" 2 f_count_of false 2) (K_word_of : Kn P w K mg base G "word_of" 3 f_word_of false 3) (Fu : Fun K "all_words" "all_words" st_all_words f fd) :
    FnOk P w K mg base (L2.CX P w) 4 f fd ["length", "kinds"] (spD G 2 f_all_words true) :=
  fn_ok Fu sc_all_words hK (by decide) (fun cdv A outer s H F E hr v =>
    (ss_cons (s_set 2 (s_call v K_count_of (hr.mono (by decide)) rfl (n_cons (n_cons n_nil)) (s_acons (s_v 0) (s_acons (s_v 1) s_anil))) sc_all_words.nd)
    (ss_cons (s_ifs (t_gt v (s_r 2) (s_b (s_gint rfl T.c_MOST_WORDS_words.choose_spec))) (ss_one (s_raiseC v T.x_TooMany rfl)) ss_nil)
    (ss_one (s_retf (s_comp v (own := [("number", 3)]) (ok := blkOk_by (N := ["length", "kinds", "count", "number"]) (sc := defScope st_all_words) (by decide +kernel)) sc_all_words.nd (s_range1 v rfl T.z_range (s_bcons (s_r 2) s_bnil)) rfl (fun _ _ _ _ _ v => (g_n 3 sc_all_words.nd)) (fun _ _ _ _ _ v => c_none) (fun _ _ _ _ _ v => (s_call v K_word_of (hr.mono (by decide)) rfl (n_cons (n_cons (n_cons n_nil))) (s_acons (s_v 3) (s_acons (s_v 0) (s_acons (s_v 1) s_anil))))))))))) (fun _ _ _ => rfl)
abbrev st_has_letters : Stmt := topS 24
theorem sc_has_letters : FnScope ["text", "kinds", "some", "sign"] ["text", "kinds"] (defScope st_has_letters) := ⟨rfl, rfl, rfl, by decide +kernel, rfl, by decide +kernel, by decide +kernel⟩
theorem ok_has_letters {P : Program} {w : World} {K : PySem.W.Frag} {mg : Str → Option Value} {base : Heap} {G : GE} {f : Addr} {fd : FuncData} (hK : K = G.K) (T : TF K mg G) (K_letters : Kn P w K mg base G "letters" 1 f_letters false 1) (Fu : Fun K "has_letters" "has_letters" st_has_letters f fd) :
    FnOk P w K mg base (L2.CX P w) 2 f fd ["text", "kinds"] (spD G 2 f_has_letters false) :=
  fn_ok Fu sc_has_letters hK (by decide) (fun cdv A outer s H F E hr v =>
    (ss_cons (s_set 2 (s_call v K_letters (hr.mono (by decide)) rfl (n_cons n_nil) (s_acons (s_v 1) s_anil)) sc_has_letters.nd)
    (ss_cons (s_for v (s_iter v (s_v 0)) (g_n 3 sc_has_letters.nd) (ss_one (s_ifs (t_nin v (s_r 3) (s_r 2)) (ss_one (s_ret s_bl)) ss_nil)))
    (ss_one (s_ret s_bl))))) (fun _ _ _ => rfl)
abbrev st_Rule : Stmt := inClass (topS 25) 0
theorem sc_Rule : FnScope ["self", "length", "kinds", "told"] ["self", "length", "kinds", "told"] (defScope st_Rule) := ⟨rfl, rfl, rfl, by decide +kernel, rfl, by decide +kernel, by decide +kernel⟩
theorem ok_Rule {P : Program} {w : World} {K : PySem.W.Frag} {mg : Str → Option Value} {base : Heap} {G : GE} {f : Addr} {fd : FuncData} (hK : K = G.K) (T : TF K mg G) (K_size_asked : Kn P w K mg base G "size_asked" 2 f_size_asked false 3) (K_has_letters : Kn P w K mg base G "has_letters" 2 f_has_letters false 2) (Fu : Fun K "__init__" "Rule.__init__" st_Rule f fd) :
    FnOk P w K mg base (L2.CX P w) 4 f fd ["self", "length", "kinds", "told"] (spI G 3 6 3 f_Rule) :=
  init_ok Fu sc_Rule hK (by decide) (by decide) (fun cdv A outer s H F H0 E hr v =>
    (ss_cons (s_ifs (PW.pt (s_tor (t_ne v (s_b (s_bi lenD_ne (call_lenD v.K) rfl T.z_len (by decide +kernel) (s_bcons (s_r 3) s_bnil))) (s_b (s_call v K_size_asked (hr.mono (by decide)) rfl (n_cons (n_cons n_nil)) (s_acons (s_v 1) (s_acons (s_v 2) s_anil))))) (s_tor1 (s_tnot (s_t (s_call v K_has_letters (hr.mono (by decide)) rfl (n_cons (n_cons n_nil)) (s_acons (s_v 3) (s_acons (s_v 2) s_anil)))))))) (ss_one (s_raiseC v T.x_BadRule rfl)) ss_nil)
    (ss_cons (s_fldK 0 v.K T.s_Rule_length (s_v 1))
    (ss_cons (s_fldK 0 v.K T.s_Rule_kinds (s_v 2))
    (ss_one (s_fldK 0 v.K T.s_Rule_told (s_v 3))))))) (fun _ _ _ => rfl)
abbrev st_turning : Stmt := topS 29
theorem sc_turning : FnScope ["length", "kinds", "word"] ["length", "kinds"] (defScope st_turning) := ⟨rfl, rfl, rfl, by decide +kernel, rfl, by decide +kernel, by decide +kernel⟩
theorem ok_turning {P : Program} {w : World} {K : PySem.W.Frag} {mg : Str → Option Value} {base : Heap} {G : GE} {f : Addr} {fd : FuncData} (hK : K = G.K) (T : TF K mg G) (K_size_asked : Kn P w K mg base G "size_asked" 2 f_size_asked false 3) (K_all_words : Kn P w K mg base G "all_words" 2 f_all_words true 4) (K_Rule : KnC P w K mg base G "Rule" 3 6 3 f_Rule 4) (Fu : Fun K "turning" "turning" st_turning f fd) :
    FnOk P w K mg base (L2.CX P w) 6 f fd ["length", "kinds"] (spD G 2 f_turning false) :=
  fn_ok Fu sc_turning hK (by decide) (fun cdv A outer s H F E hr v =>
    (ss_cons (s_x (s_call v K_size_asked (hr.mono (by decide)) rfl (n_cons (n_cons n_nil)) (s_acons (s_v 0) (s_acons (s_v 1) s_anil))))
    (ss_one (s_ret (s_f (s_make v K_Rule (hr.mono (by decide)) rfl (n_cons (n_cons (n_cons n_nil))) (s_acons (s_v 0) (s_acons (s_v 1) (s_acons (s_join v (s_b (s_str [])) (s_bcons (s_b (s_f (s_comp v (own := [("word", 2)]) (ok := blkOk_by (N := ["length", "kinds", "word"]) (sc := defScope st_turning) (by decide +kernel)) sc_turning.nd (s_iter v (s_f (s_callF v K_all_words (hr.mono (by decide)) rfl (n_cons (n_cons n_nil)) (s_acons (s_v 0) (s_acons (s_v 1) s_anil))))) rfl (fun _ _ _ _ _ v => (g_n 2 sc_turning.nd)) (fun _ _ _ _ _ v => c_none) (fun _ _ _ _ _ v => (s_ix v.K v.hu (s_r 2) (s_b s_int)))))) s_bnil)) s_anil))))))))) (fun _ _ _ => rfl)
abbrev st_law_least : Stmt := topS 43
theorem sc__law_least : FnScope ["word", "k"] ["word"] (defScope st_law_least) := ⟨rfl, rfl, rfl, by decide +kernel, rfl, by decide +kernel, by decide +kernel⟩
theorem ok_law_least {P : Program} {w : World} {K : PySem.W.Frag} {mg : Str → Option Value} {base : Heap} {G : GE} {f : Addr} {fd : FuncData} (hK : K = G.K) (T : TF K mg G)  (Fu : Fun K "_law_least" "_law_least" st_law_least f fd) :
    FnOk P w K mg base (L2.CX P w) 1 f fd ["word"] (spD G 1 f_law_least false) :=
  fn_ok Fu sc__law_least hK (by decide) (fun cdv A outer s H F E hr v =>
    (ss_one (s_ret (s_bi min1D_ne (call_min1D v) rfl T.z_min (by decide +kernel) (s_bcons (s_b (s_f (s_comp v (own := [("k", 1)]) (ok := blkOk_by (N := ["word", "k"]) (sc := defScope st_law_least) (by decide +kernel)) sc__law_least.nd (s_range1 v rfl T.z_range (s_bcons (s_b (s_bi lenD_ne (call_lenD v.K) rfl T.z_len (by decide +kernel) (s_bcons (s_r 0) s_bnil))) s_bnil)) rfl (fun _ _ _ _ _ v => (g_n 1 sc__law_least.nd)) (fun _ _ _ _ _ v => c_none) (fun _ _ _ _ _ v => (s_add v (s_b (s_sl v.K (s_r 0) (s_oso (s_v 1)) s_ono)) (s_b (s_sl v.K (s_r 0) s_ono (s_oso (s_v 1))))))))) s_bnil))))) (fun _ _ _ => rfl)
abbrev st_law_root : Stmt := topS 42
theorem sc__law_root : FnScope ["word", "size"] ["word"] (defScope st_law_root) := ⟨rfl, rfl, rfl, by decide +kernel, rfl, by decide +kernel, by decide +kernel⟩
theorem ok_law_root {P : Program} {w : World} {K : PySem.W.Frag} {mg : Str → Option Value} {base : Heap} {G : GE} {f : Addr} {fd : FuncData} (hK : K = G.K) (T : TF K mg G)  (Fu : Fun K "_law_root" "_law_root" st_law_root f fd) :
    FnOk P w K mg base (L2.CX P w) 1 f fd ["word"] (spD G 1 f_law_root false) :=
  fn_ok Fu sc__law_root hK (by decide) (fun cdv A outer s H F E hr v =>
    (ss_cons (s_for v (s_range2 v rfl T.z_range (s_bcons (s_b s_int) (s_bcons (s_b (s_add v (s_b (s_bi lenD_ne (call_lenD v.K) rfl T.z_len (by decide +kernel) (s_bcons (s_r 0) s_bnil))) (s_b s_int))) s_bnil))) (g_n 1 sc__law_root.nd) (ss_one (s_ifs (PW.pt (s_tand (t_eq v (s_b (s_mod v (s_b (s_bi lenD_ne (call_lenD v.K) rfl T.z_len (by decide +kernel) (s_bcons (s_r 0) s_bnil))) (s_r 1))) (s_b s_int)) (s_tand1 (t_eq v (s_b (s_mul v (s_b (s_sl v.K (s_r 0) s_ono (s_oso (s_v 1)))) (s_b (s_fdiv v (s_b (s_bi lenD_ne (call_lenD v.K) rfl T.z_len (by decide +kernel) (s_bcons (s_r 0) s_bnil))) (s_r 1))))) (s_r 0))))) (ss_one (s_ret (s_sl v.K (s_r 0) s_ono (s_oso (s_v 1))))) ss_nil)))
    (ss_one (s_ret (s_v 0))))) (fun _ _ _ => rfl)
abbrev st_word_asked : Stmt := topS 26
theorem sc_word_asked : FnScope ["rule", "word"] ["rule", "word"] (defScope st_word_asked) := ⟨rfl, rfl, rfl, by decide +kernel, rfl, by decide +kernel, by decide +kernel⟩
theorem ok_word_asked {P : Program} {w : World} {K : PySem.W.Frag} {mg : Str → Option Value} {base : Heap} {G : GE} {f : Addr} {fd : FuncData} (hK : K = G.K) (T : TF K mg G) (K_has_letters : Kn P w K mg base G "has_letters" 2 f_has_letters false 2) (Fu : Fun K "word_asked" "word_asked" st_word_asked f fd) :
    FnOk P w K mg base (L2.CX P w) 3 f fd ["rule", "word"] (spD G 2 f_word_asked false) :=
  fn_ok Fu sc_word_asked hK (by decide) (fun cdv A outer s H F E hr v =>
    (ss_one (s_ifs (PW.pt (s_tor (t_ne v (s_b (s_bi lenD_ne (call_lenD v.K) rfl T.z_len (by decide +kernel) (s_bcons (s_r 1) s_bnil))) (s_b (s_fld v.K T.f_Rule_length (s_r 0)))) (s_tor1 (s_tnot (s_t (s_call v K_has_letters (hr.mono (by decide)) rfl (n_cons (n_cons n_nil)) (s_acons (s_v 1) (s_acons (s_fld v.K T.f_Rule_kinds (s_r 0)) s_anil)))))))) (ss_one (s_raiseC v T.x_BadWord rfl)) ss_nil))) (fun _ _ _ => rfl)
abbrev st_looked : Stmt := topS 12
theorem sc_looked : FnScope ["word", "kinds", "signs", "sign"] ["word", "kinds"] (defScope st_looked) := ⟨rfl, rfl, rfl, by decide +kernel, rfl, by decide +kernel, by decide +kernel⟩
theorem ok_looked {P : Program} {w : World} {K : PySem.W.Frag} {mg : Str → Option Value} {base : Heap} {G : GE} {f : Addr} {fd : FuncData} (hK : K = G.K) (T : TF K mg G) (K_letters : Kn P w K mg base G "letters" 1 f_letters false 1) (Fu : Fun K "looked" "looked" st_looked f fd) :
    FnOk P w K mg base (L2.CX P w) 2 f fd ["word", "kinds"] (spD G 2 f_looked false) :=
  fn_ok Fu sc_looked hK (by decide) (fun cdv A outer s H F E hr v =>
    (ss_cons (s_set 2 (s_call v K_letters (hr.mono (by decide)) rfl (n_cons n_nil) (s_acons (s_v 1) s_anil)) sc_looked.nd)
    (ss_cons (s_ifs (PW.pt (s_tor (t_lt v (s_b (s_bi lenD_ne (call_lenD v.K) rfl T.z_len (by decide +kernel) (s_bcons (s_r 0) s_bnil))) (s_b s_int)) (s_tor1 (t_gt v (s_b (s_bi lenD_ne (call_lenD v.K) rfl T.z_len (by decide +kernel) (s_bcons (s_r 0) s_bnil))) (s_b (s_gint rfl T.c_LONGEST.choose_spec)))))) (ss_one (s_raiseC v T.x_BadWord rfl)) ss_nil)
    (ss_one (s_for v (s_iter v (s_v 0)) (g_n 3 sc_looked.nd) (ss_one (s_ifs (t_nin v (s_r 3) (s_r 2)) (ss_one (s_raiseC v T.x_BadWord rfl)) ss_nil))))))) (fun _ _ _ => rfl)
abbrev st_number_of : Stmt := topS 13
theorem sc_number_of : FnScope ["word", "kinds", "number", "sign"] ["word", "kinds"] (defScope st_number_of) := ⟨rfl, rfl, rfl, by decide +kernel, rfl, by decide +kernel, by decide +kernel⟩
theorem ok_number_of {P : Program} {w : World} {K : PySem.W.Frag} {mg : Str → Option Value} {base : Heap} {G : GE} {f : Addr} {fd : FuncData} (hK : K = G.K) (T : TF K mg G) (K_looked : Kn P w K mg base G "looked" 2 f_looked false 2) (Fu : Fun K "number_of" "number_of" st_number_of f fd) :
    FnOk P w K mg base (L2.CX P w) 3 f fd ["word", "kinds"] (spD G 2 f_number_of false) :=
  fn_ok Fu sc_number_of hK (by decide) (fun cdv A outer s H F E hr v =>
    (ss_cons (s_x (s_call v K_looked (hr.mono (by decide)) rfl (n_cons (n_cons n_nil)) (s_acons (s_v 0) (s_acons (s_v 1) s_anil))))
    (ss_cons (s_set 2 s_int sc_number_of.nd)
    (ss_cons (s_for v (s_iter v (s_v 0)) (g_n 3 sc_number_of.nd) (ss_one (s_set 2 (s_add v (s_b (s_mul v (s_r 2) (s_r 1))) (s_b (s_idxS v (s_b (s_gstr [97, 98, 99, 100, 101, 102] rfl T.c_LETTERS.choose_spec)) (s_bcons (s_r 3) s_bnil)))) sc_number_of.nd)))
    (ss_one (s_ret (s_v 2))))))) (fun _ _ _ => rfl)
abbrev st_next_word : Stmt := topS 27
theorem sc_next_word : FnScope ["rule", "word"] ["rule", "word"] (defScope st_next_word) := ⟨rfl, rfl, rfl, by decide +kernel, rfl, by decide +kernel, by decide +kernel⟩
theorem ok_next_word {P : Program} {w : World} {K : PySem.W.Frag} {mg : Str → Option Value} {base : Heap} {G : GE} {f : Addr} {fd : FuncData} (hK : K = G.K) (T : TF K mg G) (K_word_asked : Kn P w K mg base G "word_asked" 2 f_word_asked false 3) (K_number_of : Kn P w K mg base G "number_of" 2 f_number_of false 3) (Fu : Fun K "next_word" "next_word" st_next_word f fd) :
    FnOk P w K mg base (L2.CX P w) 4 f fd ["rule", "word"] (spD G 2 f_next_word false) :=
  fn_ok Fu sc_next_word hK (by decide) (fun cdv A outer s H F E hr v =>
    (ss_cons (s_x (s_call v K_word_asked (hr.mono (by decide)) rfl (n_cons (n_cons n_nil)) (s_acons (s_v 0) (s_acons (s_v 1) s_anil))))
    (ss_one (s_ret (s_add v (s_b (s_sl v.K (s_r 1) (s_oso s_int) s_ono)) (s_b (s_ix v.K v.hu (s_b (s_fld v.K T.f_Rule_told (s_r 0))) (s_b (s_call v K_number_of (hr.mono (by decide)) rfl (n_cons (n_cons n_nil)) (s_acons (s_v 1) (s_acons (s_fld v.K T.f_Rule_kinds (s_r 0)) s_anil))))))))))) (fun _ _ _ => rfl)
abbrev st_is_fair : Stmt := topS 28
theorem sc_is_fair : FnScope ["rule", "behind", "word"] ["rule"] (defScope st_is_fair) := ⟨rfl, rfl, rfl, by decide +kernel, rfl, by decide +kernel, by decide +kernel⟩
theorem ok_is_fair {P : Program} {w : World} {K : PySem.W.Frag} {mg : Str → Option Value} {base : Heap} {G : GE} {f : Addr} {fd : FuncData} (hK : K = G.K) (T : TF K mg G) (K_all_words : Kn P w K mg base G "all_words" 2 f_all_words true 4) (K_next_word : Kn P w K mg base G "next_word" 2 f_next_word false 4) (Fu : Fun K "is_fair" "is_fair" st_is_fair f fd) :
    FnOk P w K mg base (L2.CX P w) 5 f fd ["rule"] (spD G 1 f_is_fair false) :=
  fn_ok Fu sc_is_fair hK (by decide) (fun cdv A outer s H F E hr v =>
    (ss_cons (s_seto 1 s_dic0 sc_is_fair.nd)
    (ss_cons (s_for v (s_iter v (s_f (s_callF v K_all_words (hr.mono (by decide)) rfl (n_cons (n_cons n_nil)) (s_acons (s_fld v.K T.f_Rule_length (s_r 0)) (s_acons (s_fld v.K T.f_Rule_kinds (s_r 0)) s_anil))))) (g_n 2 sc_is_fair.nd) (ss_one (s_putd v 1 (s_b (s_call v K_next_word (hr.mono (by decide)) rfl (n_cons (n_cons n_nil)) (s_acons (s_v 0) (s_acons (s_v 2) s_anil)))) s_bl)))
    (ss_one (s_ret (s_eq v (s_b (s_bi lenKD_ne call_lenKD rfl T.z_len (by decide +kernel) (s_bcons (s_r 1) s_bnil))) (s_b (s_bi lenD_ne (call_lenD v.K) rfl T.z_len (by decide +kernel) (s_bcons (s_b (s_fld v.K T.f_Rule_told (s_r 0))) s_bnil))))))))) (fun _ _ _ => rfl)
abbrev st_fair_asked : Stmt := topS 31
theorem sc_fair_asked : FnScope ["rule"] ["rule"] (defScope st_fair_asked) := ⟨rfl, rfl, rfl, by decide +kernel, rfl, by decide +kernel, by decide +kernel⟩
theorem ok_fair_asked {P : Program} {w : World} {K : PySem.W.Frag} {mg : Str → Option Value} {base : Heap} {G : GE} {f : Addr} {fd : FuncData} (hK : K = G.K) (T : TF K mg G) (K_is_fair : Kn P w K mg base G "is_fair" 1 f_is_fair false 5) (Fu : Fun K "fair_asked" "fair_asked" st_fair_asked f fd) :
    FnOk P w K mg base (L2.CX P w) 6 f fd ["rule"] (spD G 1 f_fair_asked false) :=
  fn_ok Fu sc_fair_asked hK (by decide) (fun cdv A outer s H F E hr v =>
    (ss_one (s_ifs (s_tnot (s_t (s_call v K_is_fair (hr.mono (by decide)) rfl (n_cons n_nil) (s_acons (s_v 0) s_anil)))) (ss_one (s_raiseC v T.x_BadRule rfl)) ss_nil))) (fun _ _ _ => rfl)
abbrev st_words_from : Stmt := topS 32
theorem sc_words_from : FnScope ["rule", "word", "found", "here"] ["rule", "word"] (defScope st_words_from) := ⟨rfl, rfl, rfl, by decide +kernel, rfl, by decide +kernel, by decide +kernel⟩
theorem ok_words_from {P : Program} {w : World} {K : PySem.W.Frag} {mg : Str → Option Value} {base : Heap} {G : GE} {f : Addr} {fd : FuncData} (hK : K = G.K) (T : TF K mg G) (K_next_word : Kn P w K mg base G "next_word" 2 f_next_word false 4) (Fu : Fun K "words_from" "words_from" st_words_from f fd) :
    FnOk P w K mg base (L2.CX P w) 5 f fd ["rule", "word"] (spD G 2 f_words_from false) :=
  fn_ok Fu sc_words_from hK (by decide) (fun cdv A outer s H F E hr v =>
    (ss_cons (s_seto 2 (s_lst (s_acons (s_v 1) s_anil)) sc_words_from.nd)
    (ss_cons (s_set 3 (s_call v K_next_word (hr.mono (by decide)) rfl (n_cons (n_cons n_nil)) (s_acons (s_v 0) (s_acons (s_v 1) s_anil))) sc_words_from.nd)
    (ss_cons (s_wh v fuel (t_ne v (s_r 3) (s_r 1)) (ss_cons (s_app 2 (s_v 3))
    (ss_one (s_set 3 (s_call v K_next_word (hr.mono (by decide)) rfl (n_cons (n_cons n_nil)) (s_acons (s_v 0) (s_acons (s_v 3) s_anil))) sc_words_from.nd))))
    (ss_one (s_frz 2 (s_ret (s_v 2)))))))) (fun _ _ _ => rfl)
abbrev st_round_told : Stmt := topS 33
theorem sc_round_told : FnScope ["found", "at", "word"] ["found"] (defScope st_round_told) := ⟨rfl, rfl, rfl, by decide +kernel, rfl, by decide +kernel, by decide +kernel⟩
theorem ok_round_told {P : Program} {w : World} {K : PySem.W.Frag} {mg : Str → Option Value} {base : Heap} {G : GE} {f : Addr} {fd : FuncData} (hK : K = G.K) (T : TF K mg G)  (Fu : Fun K "round_told" "round_told" st_round_told f fd) :
    FnOk P w K mg base (L2.CX P w) 1 f fd ["found"] (spD G 1 f_round_told false) :=
  fn_ok Fu sc_round_told hK (by decide) (fun cdv A outer s H F E hr v =>
    (ss_cons (s_set 1 (s_idxL v (s_r 0) (s_bcons (s_b (s_bi min1D_ne (call_min1D v) rfl T.z_min (by decide +kernel) (s_bcons (s_r 0) s_bnil))) s_bnil)) sc_round_told.nd)
    (ss_one (s_ret (s_join v (s_b (s_str [])) (s_bcons (s_b (s_f (s_comp v (own := [("word", 2)]) (ok := blkOk_by (N := ["found", "at", "word"]) (sc := defScope st_round_told) (by decide +kernel)) sc_round_told.nd (s_iter v (s_add v (s_b (s_sl v.K (s_r 0) (s_oso (s_v 1)) s_ono)) (s_b (s_sl v.K (s_r 0) s_ono (s_oso (s_v 1)))))) rfl (fun _ _ _ _ _ v => (g_n 2 sc_round_told.nd)) (fun _ _ _ _ _ v => c_none) (fun _ _ _ _ _ v => (s_ix v.K v.hu (s_r 2) (s_b s_int)))))) s_bnil)))))) (fun _ _ _ => rfl)
abbrev st_rounds : Stmt := topS 34
theorem sc_rounds : FnScope ["rule", "met", "told", "word", "found", "one"] ["rule"] (defScope st_rounds) := ⟨rfl, rfl, rfl, by decide +kernel, rfl, by decide +kernel, by decide +kernel⟩
theorem ok_rounds {P : Program} {w : World} {K : PySem.W.Frag} {mg : Str → Option Value} {base : Heap} {G : GE} {f : Addr} {fd : FuncData} (hK : K = G.K) (T : TF K mg G) (K_fair_asked : Kn P w K mg base G "fair_asked" 1 f_fair_asked false 6) (K_all_words : Kn P w K mg base G "all_words" 2 f_all_words true 4) (K_words_from : Kn P w K mg base G "words_from" 2 f_words_from false 5) (K_round_told : Kn P w K mg base G "round_told" 1 f_round_told false 1) (Fu : Fun K "rounds" "rounds" st_rounds f fd) :
    FnOk P w K mg base (L2.CX P w) 7 f fd ["rule"] (spD G 1 f_rounds false) :=
  fn_ok Fu sc_rounds hK (by decide) (fun cdv A outer s H F E hr v =>
    (ss_cons (s_x (s_call v K_fair_asked (hr.mono (by decide)) rfl (n_cons n_nil) (s_acons (s_v 0) s_anil)))
    (ss_cons (s_seto 1 s_dic0 sc_rounds.nd)
    (ss_cons (s_seto 2 (s_lst s_anil) sc_rounds.nd)
    (ss_cons (s_for v (s_iter v (s_f (s_callF v K_all_words (hr.mono (by decide)) rfl (n_cons (n_cons n_nil)) (s_acons (s_fld v.K T.f_Rule_length (s_r 0)) (s_acons (s_fld v.K T.f_Rule_kinds (s_r 0)) s_anil))))) (g_n 3 sc_rounds.nd) (ss_one (s_ifs (t_nin v (s_r 3) (s_r 1)) (ss_cons (s_set 4 (s_call v K_words_from (hr.mono (by decide)) rfl (n_cons (n_cons n_nil)) (s_acons (s_v 0) (s_acons (s_v 3) s_anil))) sc_rounds.nd)
    (ss_cons (s_for v (s_iter v (s_v 4)) (g_n 5 sc_rounds.nd) (ss_one (s_putd v 1 (s_r 5) s_bl)))
    (ss_one (s_app 2 (s_call v K_round_told (hr.mono (by decide)) rfl (n_cons n_nil) (s_acons (s_v 4) s_anil)))))) ss_nil)))
    (ss_one (s_ret (s_f (s_biF sortD_ne (call_sortD v) rfl T.z_sorted (by decide +kernel) (s_bcons (s_r 2) s_bnil)))))))))) (fun _ _ _ => rfl)
abbrev st_law_texts : Stmt := topS 41
theorem sc__law_texts : FnScope ["found", "due", "one", "text"] ["found", "due"] (defScope st_law_texts) := ⟨rfl, rfl, rfl, by decide +kernel, rfl, by decide +kernel, by decide +kernel⟩
theorem ok_law_texts {P : Program} {w : World} {K : PySem.W.Frag} {mg : Str → Option Value} {base : Heap} {G : GE} {f : Addr} {fd : FuncData} (hK : K = G.K) (T : TF K mg G)  (Fu : Fun K "_law_texts" "_law_texts" st_law_texts f fd) :
    FnOk P w K mg base (L2.CX P w) 1 f fd ["found", "due"] (spD G 2 f_law_texts false) :=
  fn_ok Fu sc__law_texts hK (by decide) (fun cdv A outer s H F E hr v =>
    (ss_cons (s_ifs (PW.pt (s_tor (s_tnot (s_t (s_isi v "list" rfl rfl T.z_isinstance rfl T.z_list (by decide +kernel) (s_r 0)))) (s_tor1 (t_ne v (s_b (s_bi lenD_ne (call_lenD v.K) rfl T.z_len (by decide +kernel) (s_bcons (s_r 0) s_bnil))) (s_b (s_bi lenD_ne (call_lenD v.K) rfl T.z_len (by decide +kernel) (s_bcons (s_r 1) s_bnil))))))) (ss_one (s_ret s_bl)) ss_nil)
    (ss_cons (s_for v (s_zip v rfl T.z_zip (s_acons (s_v 0) (s_acons (s_v 1) s_anil))) (g_t v (g_cons (g_n 2 sc__law_texts.nd) (g_cons (g_n 3 sc__law_texts.nd) g_nil))) (ss_one (s_ifs (PW.pt (s_tor (s_tnot (s_t (s_isi v "str" rfl rfl T.z_isinstance rfl T.z_str (by decide +kernel) (s_r 2)))) (s_tor1 (t_ne v (s_r 2) (s_r 3))))) (ss_one (s_ret s_bl)) ss_nil)))
    (ss_one (s_ret s_bl))))) (fun _ _ _ => rfl)
abbrev st_round_of : Stmt := topS 35
theorem sc_round_of : FnScope ["rule", "word"] ["rule", "word"] (defScope st_round_of) := ⟨rfl, rfl, rfl, by decide +kernel, rfl, by decide +kernel, by decide +kernel⟩
theorem ok_round_of {P : Program} {w : World} {K : PySem.W.Frag} {mg : Str → Option Value} {base : Heap} {G : GE} {f : Addr} {fd : FuncData} (hK : K = G.K) (T : TF K mg G) (K_word_asked : Kn P w K mg base G "word_asked" 2 f_word_asked false 3) (K_fair_asked : Kn P w K mg base G "fair_asked" 1 f_fair_asked false 6) (K_words_from : Kn P w K mg base G "words_from" 2 f_words_from false 5) (K_round_told : Kn P w K mg base G "round_told" 1 f_round_told false 1) (Fu : Fun K "round_of" "round_of" st_round_of f fd) :
    FnOk P w K mg base (L2.CX P w) 7 f fd ["rule", "word"] (spD G 2 f_round_of false) :=
  fn_ok Fu sc_round_of hK (by decide) (fun cdv A outer s H F E hr v =>
    (ss_cons (s_x (s_call v K_word_asked (hr.mono (by decide)) rfl (n_cons (n_cons n_nil)) (s_acons (s_v 0) (s_acons (s_v 1) s_anil))))
    (ss_cons (s_x (s_call v K_fair_asked (hr.mono (by decide)) rfl (n_cons n_nil) (s_acons (s_v 0) s_anil)))
    (ss_one (s_ret (s_call v K_round_told (hr.mono (by decide)) rfl (n_cons n_nil) (s_acons (s_call v K_words_from (hr.mono (by decide)) rfl (n_cons (n_cons n_nil)) (s_acons (s_v 0) (s_acons (s_v 1) s_anil))) s_anil))))))) (fun _ _ _ => rfl)
abbrev st_law_fine : Stmt := topS 44
theorem sc__law_fine : FnScope ["cell", "n", "length", "kinds", "words", "rule", "due", "word"] ["cell"] (defScope st_law_fine) := ⟨rfl, rfl, rfl, by decide +kernel, rfl, by decide +kernel, by decide +kernel⟩
theorem ok_law_fine {P : Program} {w : World} {K : PySem.W.Frag} {mg : Str → Option Value} {base : Heap} {G : GE} {f : Addr} {fd : FuncData} (hK : K = G.K) (T : TF K mg G) (K__law_stir : Kn P w K mg base G "_law_stir" 2 f_law_stir false 1) (K__law_size : Kn P w K mg base G "_law_size" 1 f_law_size false 1) (K__law_words : Kn P w K mg base G "_law_words" 2 f_law_words false 1) (K_turning : Kn P w K mg base G "turning" 2 f_turning false 6) (K__law_least : Kn P w K mg base G "_law_least" 1 f_law_least false 1) (K__law_root : Kn P w K mg base G "_law_root" 1 f_law_root false 1) (K_is_fair : Kn P w K mg base G "is_fair" 1 f_is_fair false 5) (K_rounds : Kn P w K mg base G "rounds" 1 f_rounds false 7) (K__law_texts : Kn P w K mg base G "_law_texts" 2 f_law_texts false 1) (K_round_of : Kn P w K mg base G "round_of" 2 f_round_of false 7) (Fu : Fun K "_law_fine" "_law_fine" st_law_fine f fd) :
    FnOk P w K mg base (L2.CX P w) 8 f fd ["cell"] (spD G 1 f_law_fine false) :=
  fn_ok Fu sc__law_fine hK (by decide) (fun cdv A outer s H F E hr v =>
    (ss_cons (s_set 1 (s_call v K__law_stir (hr.mono (by decide)) rfl (n_cons (n_cons n_nil)) (s_acons (s_v 0) (s_acons s_int s_anil))) sc__law_fine.nd)
    (ss_cons (s_asg (s_call v K__law_size (hr.mono (by decide)) rfl (n_cons n_nil) (s_acons (s_fdiv v (s_r 1) (s_b s_int)) s_anil)) (g_t v (g_cons (g_n 2 sc__law_fine.nd) (g_cons (g_n 3 sc__law_fine.nd) g_nil))))
    (ss_cons (s_set 4 (s_call v K__law_words (hr.mono (by decide)) rfl (n_cons (n_cons n_nil)) (s_acons (s_v 2) (s_acons (s_v 3) s_anil))) sc__law_fine.nd)
    (ss_cons (s_set 5 (s_call v K_turning (hr.mono (by decide)) rfl (n_cons (n_cons n_nil)) (s_acons (s_v 2) (s_acons (s_v 3) s_anil))) sc__law_fine.nd)
    (ss_cons (s_ifs (t_ne v (s_b (s_tup (s_acons (s_fld v.K T.f_Rule_length (s_r 5)) (s_acons (s_fld v.K T.f_Rule_kinds (s_r 5)) (s_acons (s_fld v.K T.f_Rule_told (s_r 5)) s_anil))))) (s_b (s_tup (s_acons (s_v 2) (s_acons (s_v 3) (s_acons (s_join v (s_b (s_str [])) (s_bcons (s_b (s_f (s_comp v (own := [("word", 7)]) (ok := blkOk_by (N := ["cell", "n", "length", "kinds", "words", "rule", "due", "word"]) (sc := defScope st_law_fine) (by decide +kernel)) sc__law_fine.nd (s_iter v (s_v 4)) rfl (fun _ _ _ _ _ v => (g_n 7 sc__law_fine.nd)) (fun _ _ _ _ _ v => c_none) (fun _ _ _ _ _ v => (s_ix v.K v.hu (s_r 7) (s_b s_int)))))) s_bnil)) s_anil)))))) (ss_one (s_ret s_bl)) ss_nil)
    (ss_cons (s_set 6 (s_f (s_sortSet v rfl T.z_sorted rfl T.z_set (s_b (s_f (s_comp v (own := [("word", 7)]) (ok := blkOk_by (N := ["cell", "n", "length", "kinds", "words", "rule", "due", "word"]) (sc := defScope st_law_fine) (by decide +kernel)) sc__law_fine.nd (s_iter v (s_v 4)) rfl (fun _ _ _ _ _ v => (g_n 7 sc__law_fine.nd)) (fun _ _ _ _ _ v => c_none) (fun _ _ _ _ _ v => (s_call v K__law_root (hr.mono (by decide)) rfl (n_cons n_nil) (s_acons (s_call v K__law_least (hr.mono (by decide)) rfl (n_cons n_nil) (s_acons (s_v 7) s_anil)) s_anil)))))))) sc__law_fine.nd)
    (ss_cons (s_ifs (PW.pt (s_tor (t_isn v (s_b (s_call v K_is_fair (hr.mono (by decide)) rfl (n_cons n_nil) (s_acons (s_v 5) s_anil))) (s_b s_bl)) (s_tor1 (s_tnot (s_t (s_call v K__law_texts (hr.mono (by decide)) rfl (n_cons (n_cons n_nil)) (s_acons (s_call v K_rounds (hr.mono (by decide)) rfl (n_cons n_nil) (s_acons (s_v 5) s_anil)) (s_acons (s_v 6) s_anil)))))))) (ss_one (s_ret s_bl)) ss_nil)
    (ss_cons (s_set 7 (s_ix v.K v.hu (s_r 4) (s_b (s_mod v (s_b (s_fdiv v (s_r 1) (s_b s_int))) (s_b (s_bi lenD_ne (call_lenD v.K) rfl T.z_len (by decide +kernel) (s_bcons (s_r 4) s_bnil)))))) sc__law_fine.nd)
    (ss_one (s_ret (s_eq v (s_b (s_call v K_round_of (hr.mono (by decide)) rfl (n_cons (n_cons n_nil)) (s_acons (s_v 5) (s_acons (s_v 7) s_anil)))) (s_b (s_call v K__law_root (hr.mono (by decide)) rfl (n_cons n_nil) (s_acons (s_call v K__law_least (hr.mono (by decide)) rfl (n_cons n_nil) (s_acons (s_v 7) s_anil)) s_anil))))))))))))))) (fun _ _ _ => rfl)
abbrev st_law : Stmt := topS 45
theorem sc_law : FnScope ["script", "cell"] ["script"] (defScope st_law) := ⟨rfl, rfl, rfl, by decide +kernel, rfl, by decide +kernel, by decide +kernel⟩
theorem ok_law {P : Program} {w : World} {K : PySem.W.Frag} {mg : Str → Option Value} {base : Heap} {G : GE} {f : Addr} {fd : FuncData} (hK : K = G.K) (T : TF K mg G) (K__law_fine : Kn P w K mg base G "_law_fine" 1 f_law_fine false 8) (Fu : Fun K "law" "law" st_law f fd) :
    FnOk P w K mg base (L2.CX P w) 9 f fd ["script"] (spD G 1 f_law false) :=
  fn_ok Fu sc_law hK (by decide) (fun cdv A outer s H F E hr v =>
    (ss_cons (s_for v (s_iter v (s_add v (s_b (s_sl v.K (s_r 0) s_ono (s_oso s_int))) (s_b (s_f (s_lst (s_acons (s_bi sumD_ne (call_sumD v) rfl T.z_sum (by decide +kernel) (s_bcons (s_r 0) s_bnil)) s_anil)))))) (g_n 1 sc_law.nd) (ss_one (s_ifs (s_tnot (s_t (s_call v K__law_fine (hr.mono (by decide)) rfl (n_cons n_nil) (s_acons (s_v 1) s_anil)))) (ss_one (s_ret s_bl)) ss_nil)))
    (ss_one (s_ret s_bl)))) (fun _ _ _ => rfl)
def xtbl : List (Option (Str × List Str)) := [none, some ("BadKinds", []), some ("BadWord", []), some ("TooMany", []), none, some ("NoSuch", []), some ("BadRule", []), none, none, none]
def ctbl : List (Option (Str × List Str)) := [none, none, none, some ("Rule", []), some ("Rule", ["length"]), some ("Rule", ["length", "kinds"]), some ("Rule", ["length", "kinds", "told"])]
def GOf (K : PySem.W.Frag) : GE := ⟨K, xclOf K ctbl, xclOf K xtbl⟩
theorem all_mk {l : PySem.W.OpenLaw} {w : World} {K : PySem.W.Frag} {G : GE} {h : Heap} {mg : Str → Option Value} {fa : Addr} (hK : K = G.K) (hx : G.xcl = xclOf K xtbl) (hc : G.cls = xclOf K ctbl) (X : K.In h) (Gm : h.Ns mainGlobals mg) (hfa : mg "law" = some (.ref fa))
    {od0 an0 : Option Addr} {sl0 : Array (Option Value)} {oc0 kV0 dc0 pm0 cd0 ct0 : Value} {g0 : Addr}
    {od1 an1 : Option Addr} {sl1 : Array (Option Value)} {oc1 kV1 dc1 pm1 cd1 ct1 : Value} {g1 : Addr}
    {od2 an2 : Option Addr} {sl2 : Array (Option Value)} {oc2 kV2 dc2 pm2 cd2 ct2 : Value} {g2 : Addr}
    {od3 an3 : Option Addr} {sl3 : Array (Option Value)} {oc3 kV3 dc3 pm3 cd3 ct3 : Value} {g3 : Addr}
    {od4 an4 : Option Addr} {sl4 : Array (Option Value)} {oc4 kV4 dc4 pm4 cd4 ct4 : Value} {g4 : Addr}
    {od5 an5 : Option Addr} {sl5 : Array (Option Value)} {oc5 kV5 dc5 pm5 cd5 ct5 : Value} {g5 : Addr}
    {od6 an6 : Option Addr} {sl6 : Array (Option Value)} {oc6 kV6 dc6 pm6 cd6 ct6 : Value} {g6 : Addr}
    {od7 an7 : Option Addr} {sl7 : Array (Option Value)} {oc7 kV7 dc7 pm7 cd7 ct7 : Value} {g7 : Addr}
    {od8 an8 : Option Addr} {sl8 : Array (Option Value)} {oc8 kV8 dc8 pm8 cd8 ct8 : Value} {g8 : Addr}
    {od9 an9 : Option Addr} {sl9 : Array (Option Value)} {oc9 kV9 dc9 pm9 cd9 ct9 : Value} {g9 : Addr}
    {qRule : Addr}
    {od10 an10 : Option Addr} {sl10 : Array (Option Value)} {oc10 kV10 dc10 pm10 cd10 ct10 : Value} {g10 : Addr}
    {od11 an11 : Option Addr} {sl11 : Array (Option Value)} {oc11 kV11 dc11 pm11 cd11 ct11 : Value} {g11 : Addr}
    {od12 an12 : Option Addr} {sl12 : Array (Option Value)} {oc12 kV12 dc12 pm12 cd12 ct12 : Value} {g12 : Addr}
    {od13 an13 : Option Addr} {sl13 : Array (Option Value)} {oc13 kV13 dc13 pm13 cd13 ct13 : Value} {g13 : Addr}
    {od14 an14 : Option Addr} {sl14 : Array (Option Value)} {oc14 kV14 dc14 pm14 cd14 ct14 : Value} {g14 : Addr}
    {od15 an15 : Option Addr} {sl15 : Array (Option Value)} {oc15 kV15 dc15 pm15 cd15 ct15 : Value} {g15 : Addr}
    {od16 an16 : Option Addr} {sl16 : Array (Option Value)} {oc16 kV16 dc16 pm16 cd16 ct16 : Value} {g16 : Addr}
    {od17 an17 : Option Addr} {sl17 : Array (Option Value)} {oc17 kV17 dc17 pm17 cd17 ct17 : Value} {g17 : Addr}
    {od18 an18 : Option Addr} {sl18 : Array (Option Value)} {oc18 kV18 dc18 pm18 cd18 ct18 : Value} {g18 : Addr}
    {od19 an19 : Option Addr} {sl19 : Array (Option Value)} {oc19 kV19 dc19 pm19 cd19 ct19 : Value} {g19 : Addr}
    {od20 an20 : Option Addr} {sl20 : Array (Option Value)} {oc20 kV20 dc20 pm20 cd20 ct20 : Value} {g20 : Addr}
    {od21 an21 : Option Addr} {sl21 : Array (Option Value)} {oc21 kV21 dc21 pm21 cd21 ct21 : Value} {g21 : Addr}
    {od22 an22 : Option Addr} {sl22 : Array (Option Value)} {oc22 kV22 dc22 pm22 cd22 ct22 : Value} {g22 : Addr}
    {od23 an23 : Option Addr} {sl23 : Array (Option Value)} {oc23 kV23 dc23 pm23 cd23 ct23 : Value} {g23 : Addr}
    {od24 an24 : Option Addr} {sl24 : Array (Option Value)} {oc24 kV24 dc24 pm24 cd24 ct24 : Value} {g24 : Addr}
    {od25 an25 : Option Addr} {sl25 : Array (Option Value)} {oc25 kV25 dc25 pm25 cd25 ct25 : Value} {g25 : Addr}
    {od26 an26 : Option Addr} {sl26 : Array (Option Value)} {oc26 kV26 dc26 pm26 cd26 ct26 : Value} {g26 : Addr}
    {tk0 : Tok}
    {tk1 : Tok}
    {tk2 : Tok}
    {tk3 : Tok}
    {tk4 : Tok}
    {tk5 : Tok}
    {qBadKinds : Addr}
    {qBadWord : Addr}
    {qTooMany : Addr}
    {qNoSuch : Addr}
    {qBadRule : Addr}
    (a0 : PySem.W.nsIn K mainGlobals "_law_stir" = some (some (.ref g0))) (l0 : K.lookup g0 = some ⟨oc0, od0, .func (PySem.W.fnOf "_law_stir" "_law_stir" (defArgs st_law_stir) (defBody st_law_stir) (defScope st_law_stir) .none kV0 dc0 pm0 an0 cd0 ct0), sl0⟩) (c0 : PySem.W.codeIn K cd0 "_law_stir" = true) (k0 : PySem.W.keepIn K (.ref g0) = true)
    (a1 : PySem.W.nsIn K mainGlobals "_law_size" = some (some (.ref g1))) (l1 : K.lookup g1 = some ⟨oc1, od1, .func (PySem.W.fnOf "_law_size" "_law_size" (defArgs st_law_size) (defBody st_law_size) (defScope st_law_size) .none kV1 dc1 pm1 an1 cd1 ct1), sl1⟩) (c1 : PySem.W.codeIn K cd1 "_law_size" = true) (k1 : PySem.W.keepIn K (.ref g1) = true)
    (a2 : PySem.W.nsIn K mainGlobals "_law_words" = some (some (.ref g2))) (l2 : K.lookup g2 = some ⟨oc2, od2, .func (PySem.W.fnOf "_law_words" "_law_words" (defArgs st_law_words) (defBody st_law_words) (defScope st_law_words) .none kV2 dc2 pm2 an2 cd2 ct2), sl2⟩) (c2 : PySem.W.codeIn K cd2 "_law_words" = true) (k2 : PySem.W.keepIn K (.ref g2) = true)
    (a3 : PySem.W.nsIn K mainGlobals "letters" = some (some (.ref g3))) (l3 : K.lookup g3 = some ⟨oc3, od3, .func (PySem.W.fnOf "letters" "letters" (defArgs st_letters) (defBody st_letters) (defScope st_letters) .none kV3 dc3 pm3 an3 cd3 ct3), sl3⟩) (c3 : PySem.W.codeIn K cd3 "letters" = true) (k3 : PySem.W.keepIn K (.ref g3) = true)
    (a4 : PySem.W.nsIn K mainGlobals "word_count" = some (some (.ref g4))) (l4 : K.lookup g4 = some ⟨oc4, od4, .func (PySem.W.fnOf "word_count" "word_count" (defArgs st_word_count) (defBody st_word_count) (defScope st_word_count) .none kV4 dc4 pm4 an4 cd4 ct4), sl4⟩) (c4 : PySem.W.codeIn K cd4 "word_count" = true) (k4 : PySem.W.keepIn K (.ref g4) = true)
    (a5 : PySem.W.nsIn K mainGlobals "size_asked" = some (some (.ref g5))) (l5 : K.lookup g5 = some ⟨oc5, od5, .func (PySem.W.fnOf "size_asked" "size_asked" (defArgs st_size_asked) (defBody st_size_asked) (defScope st_size_asked) .none kV5 dc5 pm5 an5 cd5 ct5), sl5⟩) (c5 : PySem.W.codeIn K cd5 "size_asked" = true) (k5 : PySem.W.keepIn K (.ref g5) = true)
    (a6 : PySem.W.nsIn K mainGlobals "count_of" = some (some (.ref g6))) (l6 : K.lookup g6 = some ⟨oc6, od6, .func (PySem.W.fnOf "count_of" "count_of" (defArgs st_count_of) (defBody st_count_of) (defScope st_count_of) .none kV6 dc6 pm6 an6 cd6 ct6), sl6⟩) (c6 : PySem.W.codeIn K cd6 "count_of" = true) (k6 : PySem.W.keepIn K (.ref g6) = true)
    (a7 : PySem.W.nsIn K mainGlobals "word_of" = some (some (.ref g7))) (l7 : K.lookup g7 = some ⟨oc7, od7, .func (PySem.W.fnOf "word_of" "word_of" (defArgs st_word_of) (defBody st_word_of) (defScope st_word_of) .none kV7 dc7 pm7 an7 cd7 ct7), sl7⟩) (c7 : PySem.W.codeIn K cd7 "word_of" = true) (k7 : PySem.W.keepIn K (.ref g7) = true)
    (a8 : PySem.W.nsIn K mainGlobals "all_words" = some (some (.ref g8))) (l8 : K.lookup g8 = some ⟨oc8, od8, .func (PySem.W.fnOf "all_words" "all_words" (defArgs st_all_words) (defBody st_all_words) (defScope st_all_words) .none kV8 dc8 pm8 an8 cd8 ct8), sl8⟩) (c8 : PySem.W.codeIn K cd8 "all_words" = true) (k8 : PySem.W.keepIn K (.ref g8) = true)
    (a9 : PySem.W.nsIn K mainGlobals "has_letters" = some (some (.ref g9))) (l9 : K.lookup g9 = some ⟨oc9, od9, .func (PySem.W.fnOf "has_letters" "has_letters" (defArgs st_has_letters) (defBody st_has_letters) (defScope st_has_letters) .none kV9 dc9 pm9 an9 cd9 ct9), sl9⟩) (c9 : PySem.W.codeIn K cd9 "has_letters" = true) (k9 : PySem.W.keepIn K (.ref g9) = true)
    (nRule : PySem.W.nsIn K mainGlobals "Rule" = some (some (.ref qRule)))
    (a10 : PySem.W.findIn K (.ref qRule) "__init__" = some (some (.ref g10))) (i10 : PySem.W.isFn K (.ref g10) = true) (l10 : K.lookup g10 = some ⟨oc10, od10, .func (PySem.W.fnOf "__init__" "Rule.__init__" (defArgs st_Rule) (defBody st_Rule) (defScope st_Rule) .none kV10 dc10 pm10 an10 cd10 ct10), sl10⟩) (c10 : PySem.W.codeIn K cd10 "Rule.__init__" = true) (k10 : PySem.W.keepIn K (.ref g10) = true)
    (pgRule : PySem.W.plainGet K qRule Str.empty = true) (hdRule : PySem.W.hasDictIn K qRule = true) (poRule : PySem.W.plainOver K qRule = true) (saRule : PySem.W.findIn K (.ref qRule) "__setattr__" = some (some (.builtin "object.__setattr__"))) (mkRule : PySem.W.makesIn K qRule = true) (kcRule : PySem.W.keepIn K (.ref qRule) = true)
    (naRule_length : PySem.W.findIn K (.ref qRule) "length" = some none)
    (naRule_kinds : PySem.W.findIn K (.ref qRule) "kinds" = some none)
    (naRule_told : PySem.W.findIn K (.ref qRule) "told" = some none)
    (a11 : PySem.W.nsIn K mainGlobals "turning" = some (some (.ref g11))) (l11 : K.lookup g11 = some ⟨oc11, od11, .func (PySem.W.fnOf "turning" "turning" (defArgs st_turning) (defBody st_turning) (defScope st_turning) .none kV11 dc11 pm11 an11 cd11 ct11), sl11⟩) (c11 : PySem.W.codeIn K cd11 "turning" = true) (k11 : PySem.W.keepIn K (.ref g11) = true)
    (a12 : PySem.W.nsIn K mainGlobals "_law_least" = some (some (.ref g12))) (l12 : K.lookup g12 = some ⟨oc12, od12, .func (PySem.W.fnOf "_law_least" "_law_least" (defArgs st_law_least) (defBody st_law_least) (defScope st_law_least) .none kV12 dc12 pm12 an12 cd12 ct12), sl12⟩) (c12 : PySem.W.codeIn K cd12 "_law_least" = true) (k12 : PySem.W.keepIn K (.ref g12) = true)
    (a13 : PySem.W.nsIn K mainGlobals "_law_root" = some (some (.ref g13))) (l13 : K.lookup g13 = some ⟨oc13, od13, .func (PySem.W.fnOf "_law_root" "_law_root" (defArgs st_law_root) (defBody st_law_root) (defScope st_law_root) .none kV13 dc13 pm13 an13 cd13 ct13), sl13⟩) (c13 : PySem.W.codeIn K cd13 "_law_root" = true) (k13 : PySem.W.keepIn K (.ref g13) = true)
    (a14 : PySem.W.nsIn K mainGlobals "word_asked" = some (some (.ref g14))) (l14 : K.lookup g14 = some ⟨oc14, od14, .func (PySem.W.fnOf "word_asked" "word_asked" (defArgs st_word_asked) (defBody st_word_asked) (defScope st_word_asked) .none kV14 dc14 pm14 an14 cd14 ct14), sl14⟩) (c14 : PySem.W.codeIn K cd14 "word_asked" = true) (k14 : PySem.W.keepIn K (.ref g14) = true)
    (a15 : PySem.W.nsIn K mainGlobals "looked" = some (some (.ref g15))) (l15 : K.lookup g15 = some ⟨oc15, od15, .func (PySem.W.fnOf "looked" "looked" (defArgs st_looked) (defBody st_looked) (defScope st_looked) .none kV15 dc15 pm15 an15 cd15 ct15), sl15⟩) (c15 : PySem.W.codeIn K cd15 "looked" = true) (k15 : PySem.W.keepIn K (.ref g15) = true)
    (a16 : PySem.W.nsIn K mainGlobals "number_of" = some (some (.ref g16))) (l16 : K.lookup g16 = some ⟨oc16, od16, .func (PySem.W.fnOf "number_of" "number_of" (defArgs st_number_of) (defBody st_number_of) (defScope st_number_of) .none kV16 dc16 pm16 an16 cd16 ct16), sl16⟩) (c16 : PySem.W.codeIn K cd16 "number_of" = true) (k16 : PySem.W.keepIn K (.ref g16) = true)
    (a17 : PySem.W.nsIn K mainGlobals "next_word" = some (some (.ref g17))) (l17 : K.lookup g17 = some ⟨oc17, od17, .func (PySem.W.fnOf "next_word" "next_word" (defArgs st_next_word) (defBody st_next_word) (defScope st_next_word) .none kV17 dc17 pm17 an17 cd17 ct17), sl17⟩) (c17 : PySem.W.codeIn K cd17 "next_word" = true) (k17 : PySem.W.keepIn K (.ref g17) = true)
    (a18 : PySem.W.nsIn K mainGlobals "is_fair" = some (some (.ref g18))) (l18 : K.lookup g18 = some ⟨oc18, od18, .func (PySem.W.fnOf "is_fair" "is_fair" (defArgs st_is_fair) (defBody st_is_fair) (defScope st_is_fair) .none kV18 dc18 pm18 an18 cd18 ct18), sl18⟩) (c18 : PySem.W.codeIn K cd18 "is_fair" = true) (k18 : PySem.W.keepIn K (.ref g18) = true)
    (a19 : PySem.W.nsIn K mainGlobals "fair_asked" = some (some (.ref g19))) (l19 : K.lookup g19 = some ⟨oc19, od19, .func (PySem.W.fnOf "fair_asked" "fair_asked" (defArgs st_fair_asked) (defBody st_fair_asked) (defScope st_fair_asked) .none kV19 dc19 pm19 an19 cd19 ct19), sl19⟩) (c19 : PySem.W.codeIn K cd19 "fair_asked" = true) (k19 : PySem.W.keepIn K (.ref g19) = true)
    (a20 : PySem.W.nsIn K mainGlobals "words_from" = some (some (.ref g20))) (l20 : K.lookup g20 = some ⟨oc20, od20, .func (PySem.W.fnOf "words_from" "words_from" (defArgs st_words_from) (defBody st_words_from) (defScope st_words_from) .none kV20 dc20 pm20 an20 cd20 ct20), sl20⟩) (c20 : PySem.W.codeIn K cd20 "words_from" = true) (k20 : PySem.W.keepIn K (.ref g20) = true)
    (a21 : PySem.W.nsIn K mainGlobals "round_told" = some (some (.ref g21))) (l21 : K.lookup g21 = some ⟨oc21, od21, .func (PySem.W.fnOf "round_told" "round_told" (defArgs st_round_told) (defBody st_round_told) (defScope st_round_told) .none kV21 dc21 pm21 an21 cd21 ct21), sl21⟩) (c21 : PySem.W.codeIn K cd21 "round_told" = true) (k21 : PySem.W.keepIn K (.ref g21) = true)
    (a22 : PySem.W.nsIn K mainGlobals "rounds" = some (some (.ref g22))) (l22 : K.lookup g22 = some ⟨oc22, od22, .func (PySem.W.fnOf "rounds" "rounds" (defArgs st_rounds) (defBody st_rounds) (defScope st_rounds) .none kV22 dc22 pm22 an22 cd22 ct22), sl22⟩) (c22 : PySem.W.codeIn K cd22 "rounds" = true) (k22 : PySem.W.keepIn K (.ref g22) = true)
    (a23 : PySem.W.nsIn K mainGlobals "_law_texts" = some (some (.ref g23))) (l23 : K.lookup g23 = some ⟨oc23, od23, .func (PySem.W.fnOf "_law_texts" "_law_texts" (defArgs st_law_texts) (defBody st_law_texts) (defScope st_law_texts) .none kV23 dc23 pm23 an23 cd23 ct23), sl23⟩) (c23 : PySem.W.codeIn K cd23 "_law_texts" = true) (k23 : PySem.W.keepIn K (.ref g23) = true)
    (a24 : PySem.W.nsIn K mainGlobals "round_of" = some (some (.ref g24))) (l24 : K.lookup g24 = some ⟨oc24, od24, .func (PySem.W.fnOf "round_of" "round_of" (defArgs st_round_of) (defBody st_round_of) (defScope st_round_of) .none kV24 dc24 pm24 an24 cd24 ct24), sl24⟩) (c24 : PySem.W.codeIn K cd24 "round_of" = true) (k24 : PySem.W.keepIn K (.ref g24) = true)
    (a25 : PySem.W.nsIn K mainGlobals "_law_fine" = some (some (.ref g25))) (l25 : K.lookup g25 = some ⟨oc25, od25, .func (PySem.W.fnOf "_law_fine" "_law_fine" (defArgs st_law_fine) (defBody st_law_fine) (defScope st_law_fine) .none kV25 dc25 pm25 an25 cd25 ct25), sl25⟩) (c25 : PySem.W.codeIn K cd25 "_law_fine" = true) (k25 : PySem.W.keepIn K (.ref g25) = true)
    (a26 : PySem.W.nsIn K mainGlobals "law" = some (some (.ref g26))) (l26 : K.lookup g26 = some ⟨oc26, od26, .func (PySem.W.fnOf "law" "law" (defArgs st_law) (defBody st_law) (defScope st_law) .none kV26 dc26 pm26 an26 cd26 ct26), sl26⟩) (c26 : PySem.W.codeIn K cd26 "law" = true) (k26 : PySem.W.keepIn K (.ref g26) = true)
    (z0 : PySem.W.nsIn K mainGlobals "LETTERS" = some (some (.str "abcdef" tk0)))
    (z1 : PySem.W.nsIn K mainGlobals "LONGEST" = some (some (.int 24 tk1)))
    (z2 : PySem.W.nsIn K mainGlobals "MOST_LENGTH" = some (some (.int 8 tk2)))
    (z3 : PySem.W.nsIn K mainGlobals "MOST_LETTERS" = some (some (.int 24 tk3)))
    (z4 : PySem.W.nsIn K mainGlobals "MOST_WORDS_rules" = some (some (.int 64 tk4)))
    (z5 : PySem.W.nsIn K mainGlobals "MOST_WORDS_words" = some (some (.int 4096 tk5)))
    (z17 : PySem.W.nsIn K mainGlobals "isinstance" = some none)
    (z18 : PySem.W.nsIn K mainGlobals "len" = some none)
    (z19 : PySem.W.nsIn K mainGlobals "list" = some none)
    (z20 : PySem.W.nsIn K mainGlobals "min" = some none)
    (z21 : PySem.W.nsIn K mainGlobals "range" = some none)
    (z22 : PySem.W.nsIn K mainGlobals "reversed" = some none)
    (z23 : PySem.W.nsIn K mainGlobals "set" = some none)
    (z24 : PySem.W.nsIn K mainGlobals "sorted" = some none)
    (z25 : PySem.W.nsIn K mainGlobals "str" = some none)
    (z26 : PySem.W.nsIn K mainGlobals "sum" = some none)
    (z27 : PySem.W.nsIn K mainGlobals "zip" = some none)
    (nBadKinds : PySem.W.nsIn K mainGlobals "BadKinds" = some (some (.ref qBadKinds)))
    (nBadWord : PySem.W.nsIn K mainGlobals "BadWord" = some (some (.ref qBadWord)))
    (nTooMany : PySem.W.nsIn K mainGlobals "TooMany" = some (some (.ref qTooMany)))
    (nNoSuch : PySem.W.nsIn K mainGlobals "NoSuch" = some (some (.ref qNoSuch)))
    (nBadRule : PySem.W.nsIn K mainGlobals "BadRule" = some (some (.ref qBadRule)))
    (x1BadKinds : PySem.W.excIn K qBadKinds [.type "ValueError", .type "Exception", .type "BaseException", .type "object"] "ValueError.__new__" = true)
    (x2BadKinds : PySem.W.keepIn K (.ref qBadKinds) = true)
    (x3BadKinds : PySem.W.subIn K (.ref qBadKinds) (.type "BaseException") = some true)
    (x4BadKinds : PySem.W.typeIn K (.ref qBadKinds) = some (.type "type"))
    (x1BadRule : PySem.W.excIn K qBadRule [.type "ValueError", .type "Exception", .type "BaseException", .type "object"] "ValueError.__new__" = true)
    (x2BadRule : PySem.W.keepIn K (.ref qBadRule) = true)
    (x3BadRule : PySem.W.subIn K (.ref qBadRule) (.type "BaseException") = some true)
    (x4BadRule : PySem.W.typeIn K (.ref qBadRule) = some (.type "type"))
    (x1BadWord : PySem.W.excIn K qBadWord [.type "ValueError", .type "Exception", .type "BaseException", .type "object"] "ValueError.__new__" = true)
    (x2BadWord : PySem.W.keepIn K (.ref qBadWord) = true)
    (x3BadWord : PySem.W.subIn K (.ref qBadWord) (.type "BaseException") = some true)
    (x4BadWord : PySem.W.typeIn K (.ref qBadWord) = some (.type "type"))
    (x1NoSuch : PySem.W.excIn K qNoSuch [.type "ValueError", .type "Exception", .type "BaseException", .type "object"] "ValueError.__new__" = true)
    (x2NoSuch : PySem.W.keepIn K (.ref qNoSuch) = true)
    (x3NoSuch : PySem.W.subIn K (.ref qNoSuch) (.type "BaseException") = some true)
    (x4NoSuch : PySem.W.typeIn K (.ref qNoSuch) = some (.type "type"))
    (x1TooMany : PySem.W.excIn K qTooMany [.type "ValueError", .type "Exception", .type "BaseException", .type "object"] "ValueError.__new__" = true)
    (x2TooMany : PySem.W.keepIn K (.ref qTooMany) = true)
    (x3TooMany : PySem.W.subIn K (.ref qTooMany) (.type "BaseException") = some true)
    (x4TooMany : PySem.W.typeIn K (.ref qTooMany) = some (.type "type")) :
    ∃ fd : FuncData, (∀ (s : Shared) (v : Value), BindsTo s fd ⟨[v], []⟩ [("script", v)]) ∧ ∀ base : Heap, K.In base → base.Ns mainGlobals mg → FnOk l.prog w K mg base (L2.CX l.prog w) 9 fa fd ["script"] (spD G 1 f_law false) := by
  have e := hfa.symm.trans (PySem.W.mg_of X Gm a26)
  cases e
  have F0 := fun_mk (st := st_law_stir) l0 c0 k0
  have b0 := F0.binds (ps := ["cell", "k"]) fun _ _ _ _ _ _ us hl => match us, hl with | [_, _], _ => rfl
  have F1 := fun_mk (st := st_law_size) l1 c1 k1
  have b1 := F1.binds (ps := ["cell"]) fun _ _ _ _ _ _ us hl => match us, hl with | [_], _ => rfl
  have F2 := fun_mk (st := st_law_words) l2 c2 k2
  have b2 := F2.binds (ps := ["length", "kinds"]) fun _ _ _ _ _ _ us hl => match us, hl with | [_, _], _ => rfl
  have F3 := fun_mk (st := st_letters) l3 c3 k3
  have b3 := F3.binds (ps := ["kinds"]) fun _ _ _ _ _ _ us hl => match us, hl with | [_], _ => rfl
  have F4 := fun_mk (st := st_word_count) l4 c4 k4
  have b4 := F4.binds (ps := ["length", "kinds"]) fun _ _ _ _ _ _ us hl => match us, hl with | [_, _], _ => rfl
  have F5 := fun_mk (st := st_size_asked) l5 c5 k5
  have b5 := F5.binds (ps := ["length", "kinds"]) fun _ _ _ _ _ _ us hl => match us, hl with | [_, _], _ => rfl
  have F6 := fun_mk (st := st_count_of) l6 c6 k6
  have b6 := F6.binds (ps := ["length", "kinds"]) fun _ _ _ _ _ _ us hl => match us, hl with | [_, _], _ => rfl
  have F7 := fun_mk (st := st_word_of) l7 c7 k7
  have b7 := F7.binds (ps := ["number", "length", "kinds"]) fun _ _ _ _ _ _ us hl => match us, hl with | [_, _, _], _ => rfl
  have F8 := fun_mk (st := st_all_words) l8 c8 k8
  have b8 := F8.binds (ps := ["length", "kinds"]) fun _ _ _ _ _ _ us hl => match us, hl with | [_, _], _ => rfl
  have F9 := fun_mk (st := st_has_letters) l9 c9 k9
  have b9 := F9.binds (ps := ["text", "kinds"]) fun _ _ _ _ _ _ us hl => match us, hl with | [_, _], _ => rfl
  have F10 := fun_mk (st := st_Rule) l10 c10 k10
  have b10 := F10.binds (ps := ["self", "length", "kinds", "told"]) fun _ _ _ _ _ _ us hl => match us, hl with | [_, _, _, _], _ => rfl
  have F11 := fun_mk (st := st_turning) l11 c11 k11
  have b11 := F11.binds (ps := ["length", "kinds"]) fun _ _ _ _ _ _ us hl => match us, hl with | [_, _], _ => rfl
  have F12 := fun_mk (st := st_law_least) l12 c12 k12
  have b12 := F12.binds (ps := ["word"]) fun _ _ _ _ _ _ us hl => match us, hl with | [_], _ => rfl
  have F13 := fun_mk (st := st_law_root) l13 c13 k13
  have b13 := F13.binds (ps := ["word"]) fun _ _ _ _ _ _ us hl => match us, hl with | [_], _ => rfl
  have F14 := fun_mk (st := st_word_asked) l14 c14 k14
  have b14 := F14.binds (ps := ["rule", "word"]) fun _ _ _ _ _ _ us hl => match us, hl with | [_, _], _ => rfl
  have F15 := fun_mk (st := st_looked) l15 c15 k15
  have b15 := F15.binds (ps := ["word", "kinds"]) fun _ _ _ _ _ _ us hl => match us, hl with | [_, _], _ => rfl
  have F16 := fun_mk (st := st_number_of) l16 c16 k16
  have b16 := F16.binds (ps := ["word", "kinds"]) fun _ _ _ _ _ _ us hl => match us, hl with | [_, _], _ => rfl
  have F17 := fun_mk (st := st_next_word) l17 c17 k17
  have b17 := F17.binds (ps := ["rule", "word"]) fun _ _ _ _ _ _ us hl => match us, hl with | [_, _], _ => rfl
  have F18 := fun_mk (st := st_is_fair) l18 c18 k18
  have b18 := F18.binds (ps := ["rule"]) fun _ _ _ _ _ _ us hl => match us, hl with | [_], _ => rfl
  have F19 := fun_mk (st := st_fair_asked) l19 c19 k19
  have b19 := F19.binds (ps := ["rule"]) fun _ _ _ _ _ _ us hl => match us, hl with | [_], _ => rfl
  have F20 := fun_mk (st := st_words_from) l20 c20 k20
  have b20 := F20.binds (ps := ["rule", "word"]) fun _ _ _ _ _ _ us hl => match us, hl with | [_, _], _ => rfl
  have F21 := fun_mk (st := st_round_told) l21 c21 k21
  have b21 := F21.binds (ps := ["found"]) fun _ _ _ _ _ _ us hl => match us, hl with | [_], _ => rfl
  have F22 := fun_mk (st := st_rounds) l22 c22 k22
  have b22 := F22.binds (ps := ["rule"]) fun _ _ _ _ _ _ us hl => match us, hl with | [_], _ => rfl
  have F23 := fun_mk (st := st_law_texts) l23 c23 k23
  have b23 := F23.binds (ps := ["found", "due"]) fun _ _ _ _ _ _ us hl => match us, hl with | [_, _], _ => rfl
  have F24 := fun_mk (st := st_round_of) l24 c24 k24
  have b24 := F24.binds (ps := ["rule", "word"]) fun _ _ _ _ _ _ us hl => match us, hl with | [_, _], _ => rfl
  have F25 := fun_mk (st := st_law_fine) l25 c25 k25
  have b25 := F25.binds (ps := ["cell"]) fun _ _ _ _ _ _ us hl => match us, hl with | [_], _ => rfl
  have F26 := fun_mk (st := st_law) l26 c26 k26
  have T : TF K mg G := ⟨⟨_, PySem.W.mg_of X Gm z0⟩, ⟨_, PySem.W.mg_of X Gm z1⟩, ⟨_, PySem.W.mg_of X Gm z2⟩, ⟨_, PySem.W.mg_of X Gm z3⟩, ⟨_, PySem.W.mg_of X Gm z4⟩, ⟨_, PySem.W.mg_of X Gm z5⟩, ⟨_, _, hc ▸ xcl_get rfl nRule, rfl, by decide +kernel, hK ▸ ⟨pgRule, hdRule, poRule, saRule⟩, hK ▸ naRule_kinds⟩, ⟨_, _, hc ▸ xcl_get rfl nRule, rfl, by decide +kernel, hK ▸ ⟨pgRule, hdRule, poRule, saRule⟩, hK ▸ naRule_length⟩, ⟨_, _, hc ▸ xcl_get rfl nRule, rfl, by decide +kernel, hK ▸ ⟨pgRule, hdRule, poRule, saRule⟩, hK ▸ naRule_told⟩, ⟨_, _, hc ▸ xcl_get rfl nRule, hc ▸ xcl_get rfl nRule, by decide +kernel, by decide, hK ▸ ⟨pgRule, hdRule, poRule, saRule⟩, hK ▸ naRule_kinds⟩, ⟨_, _, hc ▸ xcl_get rfl nRule, hc ▸ xcl_get rfl nRule, by decide +kernel, by decide, hK ▸ ⟨pgRule, hdRule, poRule, saRule⟩, hK ▸ naRule_length⟩, ⟨_, _, hc ▸ xcl_get rfl nRule, hc ▸ xcl_get rfl nRule, by decide +kernel, by decide, hK ▸ ⟨pgRule, hdRule, poRule, saRule⟩, hK ▸ naRule_told⟩, ⟨_, PySem.W.mg_of X Gm nBadKinds, x1BadKinds, x2BadKinds, x3BadKinds, x4BadKinds, hx ▸ xcl_get rfl nBadKinds⟩, ⟨_, PySem.W.mg_of X Gm nBadRule, x1BadRule, x2BadRule, x3BadRule, x4BadRule, hx ▸ xcl_get rfl nBadRule⟩, ⟨_, PySem.W.mg_of X Gm nBadWord, x1BadWord, x2BadWord, x3BadWord, x4BadWord, hx ▸ xcl_get rfl nBadWord⟩, ⟨_, PySem.W.mg_of X Gm nNoSuch, x1NoSuch, x2NoSuch, x3NoSuch, x4NoSuch, hx ▸ xcl_get rfl nNoSuch⟩, ⟨_, PySem.W.mg_of X Gm nTooMany, x1TooMany, x2TooMany, x3TooMany, x4TooMany, hx ▸ xcl_get rfl nTooMany⟩, PySem.W.mg_none_of X Gm z17, PySem.W.mg_none_of X Gm z18, PySem.W.mg_none_of X Gm z19, PySem.W.mg_none_of X Gm z20, PySem.W.mg_none_of X Gm z21, PySem.W.mg_none_of X Gm z22, PySem.W.mg_none_of X Gm z23, PySem.W.mg_none_of X Gm z24, PySem.W.mg_none_of X Gm z25, PySem.W.mg_none_of X Gm z26, PySem.W.mg_none_of X Gm z27⟩
  refine ⟨PySem.W.fnOf "law" "law" (defArgs st_law) (defBody st_law) (defScope st_law) .none kV26 dc26 pm26 an26 cd26 ct26, fun s v => .of_eq rfl, fun base _ _ => ?_⟩
  have K__law_stir : Kn l.prog w K mg base G "_law_stir" 2 f_law_stir false 1 := kn_mk (ok_law_stir (P := l.prog) (w := w) (base := base) hK T  F0) (PySem.W.mg_of X Gm a0) F0.kp b0
  have K__law_size : Kn l.prog w K mg base G "_law_size" 1 f_law_size false 1 := kn_mk (ok_law_size (P := l.prog) (w := w) (base := base) hK T  F1) (PySem.W.mg_of X Gm a1) F1.kp b1
  have K__law_words : Kn l.prog w K mg base G "_law_words" 2 f_law_words false 1 := kn_mk (ok_law_words (P := l.prog) (w := w) (base := base) hK T  F2) (PySem.W.mg_of X Gm a2) F2.kp b2
  have K_letters : Kn l.prog w K mg base G "letters" 1 f_letters false 1 := kn_mk (ok_letters (P := l.prog) (w := w) (base := base) hK T  F3) (PySem.W.mg_of X Gm a3) F3.kp b3
  have K_word_count : Kn l.prog w K mg base G "word_count" 2 f_word_count false 2 := kn_mk (ok_word_count (P := l.prog) (w := w) (base := base) hK T K_letters F4) (PySem.W.mg_of X Gm a4) F4.kp b4
  have K_size_asked : Kn l.prog w K mg base G "size_asked" 2 f_size_asked false 3 := kn_mk (ok_size_asked (P := l.prog) (w := w) (base := base) hK T K_letters K_word_count F5) (PySem.W.mg_of X Gm a5) F5.kp b5
  have K_count_of : Kn l.prog w K mg base G "count_of" 2 f_count_of false 2 := kn_mk (ok_count_of (P := l.prog) (w := w) (base := base) hK T K_letters F6) (PySem.W.mg_of X Gm a6) F6.kp b6
  have K_word_of : Kn l.prog w K mg base G "word_of" 3 f_word_of false 3 := kn_mk (ok_word_of (P := l.prog) (w := w) (base := base) hK T K_count_of F7) (PySem.W.mg_of X Gm a7) F7.kp b7
  have K_all_words : Kn l.prog w K mg base G "all_words" 2 f_all_words true 4 := kn_mk (ok_all_words (P := l.prog) (w := w) (base := base) hK T K_count_of K_word_of F8) (PySem.W.mg_of X Gm a8) F8.kp b8
  have K_has_letters : Kn l.prog w K mg base G "has_letters" 2 f_has_letters false 2 := kn_mk (ok_has_letters (P := l.prog) (w := w) (base := base) hK T K_letters F9) (PySem.W.mg_of X Gm a9) F9.kp b9
  have K_Rule : KnC l.prog w K mg base G "Rule" 3 6 3 f_Rule 4 := ⟨⟨_, _, _, _, ok_Rule (P := l.prog) (w := w) (base := base) hK T K_size_asked K_has_letters F10, PySem.W.mg_of X Gm nRule, ⟨mkRule, a10, i10, kcRule⟩, b10, hc ▸ xcl_get rfl nRule⟩⟩
  have K_turning : Kn l.prog w K mg base G "turning" 2 f_turning false 6 := kn_mk (ok_turning (P := l.prog) (w := w) (base := base) hK T K_size_asked K_all_words K_Rule F11) (PySem.W.mg_of X Gm a11) F11.kp b11
  have K__law_least : Kn l.prog w K mg base G "_law_least" 1 f_law_least false 1 := kn_mk (ok_law_least (P := l.prog) (w := w) (base := base) hK T  F12) (PySem.W.mg_of X Gm a12) F12.kp b12
  have K__law_root : Kn l.prog w K mg base G "_law_root" 1 f_law_root false 1 := kn_mk (ok_law_root (P := l.prog) (w := w) (base := base) hK T  F13) (PySem.W.mg_of X Gm a13) F13.kp b13
  have K_word_asked : Kn l.prog w K mg base G "word_asked" 2 f_word_asked false 3 := kn_mk (ok_word_asked (P := l.prog) (w := w) (base := base) hK T K_has_letters F14) (PySem.W.mg_of X Gm a14) F14.kp b14
  have K_looked : Kn l.prog w K mg base G "looked" 2 f_looked false 2 := kn_mk (ok_looked (P := l.prog) (w := w) (base := base) hK T K_letters F15) (PySem.W.mg_of X Gm a15) F15.kp b15
  have K_number_of : Kn l.prog w K mg base G "number_of" 2 f_number_of false 3 := kn_mk (ok_number_of (P := l.prog) (w := w) (base := base) hK T K_looked F16) (PySem.W.mg_of X Gm a16) F16.kp b16
  have K_next_word : Kn l.prog w K mg base G "next_word" 2 f_next_word false 4 := kn_mk (ok_next_word (P := l.prog) (w := w) (base := base) hK T K_word_asked K_number_of F17) (PySem.W.mg_of X Gm a17) F17.kp b17
  have K_is_fair : Kn l.prog w K mg base G "is_fair" 1 f_is_fair false 5 := kn_mk (ok_is_fair (P := l.prog) (w := w) (base := base) hK T K_all_words K_next_word F18) (PySem.W.mg_of X Gm a18) F18.kp b18
  have K_fair_asked : Kn l.prog w K mg base G "fair_asked" 1 f_fair_asked false 6 := kn_mk (ok_fair_asked (P := l.prog) (w := w) (base := base) hK T K_is_fair F19) (PySem.W.mg_of X Gm a19) F19.kp b19
  have K_words_from : Kn l.prog w K mg base G "words_from" 2 f_words_from false 5 := kn_mk (ok_words_from (P := l.prog) (w := w) (base := base) hK T K_next_word F20) (PySem.W.mg_of X Gm a20) F20.kp b20
  have K_round_told : Kn l.prog w K mg base G "round_told" 1 f_round_told false 1 := kn_mk (ok_round_told (P := l.prog) (w := w) (base := base) hK T  F21) (PySem.W.mg_of X Gm a21) F21.kp b21
  have K_rounds : Kn l.prog w K mg base G "rounds" 1 f_rounds false 7 := kn_mk (ok_rounds (P := l.prog) (w := w) (base := base) hK T K_fair_asked K_all_words K_words_from K_round_told F22) (PySem.W.mg_of X Gm a22) F22.kp b22
  have K__law_texts : Kn l.prog w K mg base G "_law_texts" 2 f_law_texts false 1 := kn_mk (ok_law_texts (P := l.prog) (w := w) (base := base) hK T  F23) (PySem.W.mg_of X Gm a23) F23.kp b23
  have K_round_of : Kn l.prog w K mg base G "round_of" 2 f_round_of false 7 := kn_mk (ok_round_of (P := l.prog) (w := w) (base := base) hK T K_word_asked K_fair_asked K_words_from K_round_told F24) (PySem.W.mg_of X Gm a24) F24.kp b24
  have K__law_fine : Kn l.prog w K mg base G "_law_fine" 1 f_law_fine false 8 := kn_mk (ok_law_fine (P := l.prog) (w := w) (base := base) hK T K__law_stir K__law_size K__law_words K_turning K__law_least K__law_root K_is_fair K_rounds K__law_texts K_round_of F25) (PySem.W.mg_of X Gm a25) F25.kp b25
  exact ok_law (P := l.prog) (w := w) (base := base) hK T K__law_fine F26
end L48
open PySem PySem.W PyProof.Rows
set_option maxRecDepth 100000 in
set_option maxHeartbeats 0 in
theorem PySem.Challenge.cw_onceround_k48_turning_rules_holds : PySem.Challenge.rw_onceround_k48_turning_rules.Holds := by
  w_on; o_law; k_head; (case hw => w_witness2)
  k_fill
  refine L2.walk_of (l := PySem.Challenge.rw_onceround_k48_turning_rules) (n := 63) (k := 9) (x := "script") (CX := fun w => L2.CX PySem.Challenge.rw_onceround_k48_turning_rules.prog w) (sp := fun w => Z.spD (L48.GOf _) 1 L48.f_law false) rfl (by decide) rfl ⟨rfl, by decide, by decide⟩ (fun w h Y => PySem.W.kIn_of Y) ?F (fun w H a ns hl _ hS => Z.law_sp rfl L48.main H a ns hl hS) (fun _ _ _ _ _ h => Z.law_cx (P := PySem.Challenge.rw_onceround_k48_turning_rules.prog) h)
  case F =>
    intro w mg fa h KX Gm hmg
    refine' L48.all_mk rfl rfl rfl KX Gm hmg ?a0 ?l0 ?c0 ?k0 ?a1 ?l1 ?c1 ?k1 ?a2 ?l2 ?c2 ?k2 ?a3 ?l3 ?c3 ?k3 ?a4 ?l4 ?c4 ?k4 ?a5 ?l5 ?c5 ?k5 ?a6 ?l6 ?c6 ?k6 ?a7 ?l7 ?c7 ?k7 ?a8 ?l8 ?c8 ?k8 ?a9 ?l9 ?c9 ?k9 ?nRule ?a10 ?i10 ?l10 ?c10 ?k10 ?pgRule ?hdRule ?poRule ?saRule ?mkRule ?kcRule ?naRule_length ?naRule_kinds ?naRule_told ?a11 ?l11 ?c11 ?k11 ?a12 ?l12 ?c12 ?k12 ?a13 ?l13 ?c13 ?k13 ?a14 ?l14 ?c14 ?k14 ?a15 ?l15 ?c15 ?k15 ?a16 ?l16 ?c16 ?k16 ?a17 ?l17 ?c17 ?k17 ?a18 ?l18 ?c18 ?k18 ?a19 ?l19 ?c19 ?k19 ?a20 ?l20 ?c20 ?k20 ?a21 ?l21 ?c21 ?k21 ?a22 ?l22 ?c22 ?k22 ?a23 ?l23 ?c23 ?k23 ?a24 ?l24 ?c24 ?k24 ?a25 ?l25 ?c25 ?k25 ?a26 ?l26 ?c26 ?k26 ?z0 ?z1 ?z2 ?z3 ?z4 ?z5 ?z17 ?z18 ?z19 ?z20 ?z21 ?z22 ?z23 ?z24 ?z25 ?z26 ?z27 ?nBadKinds ?nBadWord ?nTooMany ?nNoSuch ?nBadRule ?x1BadKinds ?x2BadKinds ?x3BadKinds ?x4BadKinds ?x1BadRule ?x2BadRule ?x3BadRule ?x4BadRule ?x1BadWord ?x2BadWord ?x3BadWord ?x4BadWord ?x1NoSuch ?x2NoSuch ?x3NoSuch ?x4NoSuch ?x1TooMany ?x2TooMany ?x3TooMany ?x4TooMany
    (case a0 => k_is); (case l0 => k_is); (case c0 => k_is); (case k0 => k_is); (case a1 => k_is); (case l1 => k_is); (case c1 => k_is); (case k1 => k_is); (case a2 => k_is); (case l2 => k_is); (case c2 => k_is); (case k2 => k_is); (case a3 => k_is); (case l3 => k_is); (case c3 => k_is); (case k3 => k_is); (case a4 => k_is); (case l4 => k_is); (case c4 => k_is); (case k4 => k_is); (case a5 => k_is); (case l5 => k_is); (case c5 => k_is); (case k5 => k_is); (case a6 => k_is); (case l6 => k_is); (case c6 => k_is); (case k6 => k_is); (case a7 => k_is); (case l7 => k_is); (case c7 => k_is); (case k7 => k_is); (case a8 => k_is); (case l8 => k_is); (case c8 => k_is); (case k8 => k_is); (case a9 => k_is); (case l9 => k_is); (case c9 => k_is); (case k9 => k_is); (case nRule => k_is); (case a10 => k_is); (case i10 => k_is); (case l10 => k_is); (case c10 => k_is); (case k10 => k_is); (case pgRule => k_is); (case hdRule => k_is); (case poRule => k_is); (case saRule => k_is); (case mkRule => k_is); (case kcRule => k_is); (case naRule_length => k_is); (case naRule_kinds => k_is); (case naRule_told => k_is); (case a11 => k_is); (case l11 => k_is); (case c11 => k_is); (case k11 => k_is); (case a12 => k_is); (case l12 => k_is); (case c12 => k_is); (case k12 => k_is); (case a13 => k_is); (case l13 => k_is); (case c13 => k_is); (case k13 => k_is); (case a14 => k_is); (case l14 => k_is); (case c14 => k_is); (case k14 => k_is); (case a15 => k_is); (case l15 => k_is); (case c15 => k_is); (case k15 => k_is); (case a16 => k_is); (case l16 => k_is); (case c16 => k_is); (case k16 => k_is); (case a17 => k_is); (case l17 => k_is); (case c17 => k_is); (case k17 => k_is); (case a18 => k_is); (case l18 => k_is); (case c18 => k_is); (case k18 => k_is); (case a19 => k_is); (case l19 => k_is); (case c19 => k_is); (case k19 => k_is); (case a20 => k_is); (case l20 => k_is); (case c20 => k_is); (case k20 => k_is); (case a21 => k_is); (case l21 => k_is); (case c21 => k_is); (case k21 => k_is); (case a22 => k_is); (case l22 => k_is); (case c22 => k_is); (case k22 => k_is); (case a23 => k_is); (case l23 => k_is); (case c23 => k_is); (case k23 => k_is); (case a24 => k_is); (case l24 => k_is); (case c24 => k_is); (case k24 => k_is); (case a25 => k_is); (case l25 => k_is); (case c25 => k_is); (case k25 => k_is); (case a26 => k_is); (case l26 => k_is); (case c26 => k_is); (case k26 => k_is); (case z0 => k_is); (case z1 => k_is); (case z2 => k_is); (case z3 => k_is); (case z4 => k_is); (case z5 => k_is); (case z17 => k_is); (case z18 => k_is); (case z19 => k_is); (case z20 => k_is); (case z21 => k_is); (case z22 => k_is); (case z23 => k_is); (case z24 => k_is); (case z25 => k_is); (case z26 => k_is); (case z27 => k_is); (case nBadKinds => k_is); (case nBadWord => k_is); (case nTooMany => k_is); (case nNoSuch => k_is); (case nBadRule => k_is); (case x1BadKinds => k_exc); (case x2BadKinds => k_is); (case x3BadKinds => k_is); (case x4BadKinds => k_is); (case x1BadRule => k_exc); (case x2BadRule => k_is); (case x3BadRule => k_is); (case x4BadRule => k_is); (case x1BadWord => k_exc); (case x2BadWord => k_is); (case x3BadWord => k_is); (case x4BadWord => k_is); (case x1NoSuch => k_exc); (case x2NoSuch => k_is); (case x3NoSuch => k_is); (case x4NoSuch => k_is); (case x1TooMany => k_exc); (case x2TooMany => k_is); (case x3TooMany => k_is); (case x4TooMany => k_is)
