import PyProof.Rows.All
import Wide.All
import OpenK.AllK
import Wide.FinOn
import HandS.ForMost
import HandS.ForExc
import HandS.Wide
import HandS.TupAny
import HandS.Deep
import HandS.TupLe
import HandS.Rev
import HandS.Conv
import HandS.Style
import HandS.Dict
import HandS.Iter
import HandS.Zip
import HandS.Comp
import HandS.IsInst
import HandS.Text
import HandS.Ends
import HandS.Exc
import HandS.ExcOwn
import HandS.WordsExc
import HandS.Codes
import HandS.StrMore
import HandS.SortInts
import HandS.ExcIs
import KE.KExcIs
import KE.RegKIsAll
import KE.RegKTryMore
import HandS.Set
import HandS.Strs
import HandS.SetFor
import HandS.More
import PyProof.SliceStr2
import PyProof.CollectStr
import KE.SortData
import HandS.SetKeys
import PySem.Challenge.RW_onceround_k30_determinants_of_products
set_option Elab.async false
set_option linter.all false
set_option maxRecDepth 100000
set_option maxHeartbeats 4000000
namespace Z
noncomputable section
open PySem PySem.Spec PyProof.Rows L2

/-! ### data -/
inductive D where
  | non | bl (b : Bool) | int (i : Int) | str (x : List Nat) | lst (xs : List D) | tup (xs : List D) | dic (ks : List Key) (vs : List D)
  | obj (c : Nat) (vs : List D) | exc (c : Nat) (vs : List D)
  deriving Inhabited

inductive R (A : Type) where
  | ok (a : A) | ex (c : Nat) (vs : List D) | bad
def R.bind {A B : Type} (x : R A) (f : A → R B) : R B := match x with
  | .ok a => f a
  | .ex c vs => .ex c vs
  | .bad => .bad
instance : Monad R where
  pure := R.ok
  bind := R.bind

/-- a slot: nothing, a shared value, an own object, an own object that is locked -/
inductive Sl where
  | no | sh (d : D) | ow (d : D) | lk (d : D) | nt (k : Bool) (d : D) | pt (i j : Nat)
abbrev SS := List Sl
inductive RS where
  | nx (s : SS) | rt (fresh : Bool) (d : D) | bk (s : SS) | ct (s : SS) | ex (c : Nat) (vs : List D) (s : SS) | rm (d : D) (s : SS) | rn (i : Nat) (s : SS) | bad

/-- what is known of the program's classes -/
structure GE where
  K : PySem.W.Frag
  cls : Nat → Option (Addr × List Str)
  xcl : Nat → Option (Addr × List Str)

/-- the object of a caught exception -/
def exo (a : Addr) (cls : Value) (dx : Option Addr) : HO := .ext fun h => ∃ oe vs, h.get? a = some oe ∧ Zc cls dx oe ∧ oe.data = .fields vs

/-- signs that there are -/
def okS (x : List Nat) : Bool := x.all fun c => decide (c < 1114112)

mutual
def Rep (G : GE) (H : Hp) : D → V → Prop
  | .non, v => v = .non
  | .bl b, v => v = .bl b
  | .int i, v => v = .int i
  | .str x, v => v = .str ⟨x.toArray⟩ ∧ okS x = true
  | .lst ds, v => ∃ a xs, v = .ref a ∧ SqL G.K H a xs ∧ RepL G H ds xs
  | .tup ds, v => ∃ a xs, v = .ref a ∧ SqT G.K H a xs ∧ RepL G H ds xs
  | .dic ks ds, v => ∃ a kvs, v = .ref a ∧ (∃ o, H a = some (.frz o (.dK kvs))) ∧ kvs.map (·.1) = ks ∧ ks.Nodup ∧ RepL G H ds (kvs.map (·.2))
  | .obj c ds, v => ∃ a C dx fs ns, v = .ref a ∧ G.cls c = some (C, ns) ∧ H a = some (.ins C dx fs) ∧ fs.map (·.1) = ns ∧ RepL G H ds (fs.map (·.2))
  | .exc c ds, v => ∃ a C ns dx, v = .ref a ∧ G.xcl c = some (C, ns) ∧ H a = some (exo a (.ref C) dx) ∧
      ((ns = [] ∧ dx = none ∧ ds = []) ∨ ∃ d fs, dx = some d ∧ H d = some (.xd fs) ∧ fs.map (·.1) = ns ∧ RepL G H ds (fs.map (·.2)))
def RepL (G : GE) (H : Hp) : List D → List V → Prop
  | [], vs => vs = []
  | d :: ds, vs => ∃ v r, vs = v :: r ∧ Rep G H d v ∧ RepL G H ds r
end

theorem Same.rd {H H' : Hp} {a : Addr} {u : HO} (s : Same H H') (h : Rd H a u) : Rd H' a u := by
  rcases h with h | ⟨o, h⟩
  · exact .inl (s _ _ h)
  · exact .inr ⟨o, s _ _ h⟩
theorem Same.seqT {K : PySem.W.Frag} {H H' : Hp} {a : Addr} {xs : List V} (e : Same H H') (h : SqT K H a xs) : SqT K H' a xs := by
  rcases h with h | h
  · exact .inl (Same.rd e h)
  · exact .inr h

mutual
theorem Rep.mono {G : GE} {H H' : Hp} (s : Same H H') : ∀ {d : D} {v : V}, Rep G H d v → Rep G H' d v
  | .non, v, h => by unfold Rep at h ⊢; exact h
  | .bl b, v, h => by unfold Rep at h ⊢; exact h
  | .int i, v, h => by unfold Rep at h ⊢; exact h
  | .str x, v, h => by unfold Rep at h ⊢; exact h
  | .lst ds, v, h => by
    unfold Rep at h ⊢
    obtain ⟨a, xs, e, q, r⟩ := h
    exact ⟨a, xs, e, s.seq q, RepL.mono s r⟩
  | .tup ds, v, h => by
    unfold Rep at h ⊢
    obtain ⟨a, xs, e, q, r⟩ := h
    exact ⟨a, xs, e, Same.seqT s q, RepL.mono s r⟩
  | .dic ks ds, v, h => by
    unfold Rep at h ⊢
    obtain ⟨a, kvs, e, ⟨o, q⟩, k, nd, r⟩ := h
    exact ⟨a, kvs, e, ⟨o, s _ _ q⟩, k, nd, RepL.mono s r⟩
  | .obj c ds, v, h => by
    unfold Rep at h ⊢
    obtain ⟨a, C, dx, fs, ns, e, g, q, k, r⟩ := h
    exact ⟨a, C, dx, fs, ns, e, g, s _ _ q, k, RepL.mono s r⟩
  | .exc c ds, v, h => by
    unfold Rep at h ⊢
    obtain ⟨a, C, ns, dx, e, g, q, k⟩ := h
    refine ⟨a, C, ns, dx, e, g, s _ _ q, ?_⟩
    rcases k with k | ⟨d, fs, e1, e2, e3, r⟩
    · exact .inl k
    · exact .inr ⟨d, fs, e1, s _ _ e2, e3, RepL.mono s r⟩
theorem RepL.mono {G : GE} {H H' : Hp} (s : Same H H') : ∀ {ds : List D} {vs : List V}, RepL G H ds vs → RepL G H' ds vs
  | [], vs, h => by unfold RepL at h ⊢; exact h
  | d :: ds, vs, h => by
    unfold RepL at h ⊢
    obtain ⟨v, r, e, h1, h2⟩ := h
    exact ⟨v, r, e, Rep.mono s h1, RepL.mono s h2⟩
end

section
variable {G : GE} {H : Hp}
theorem RepL.nil : RepL G H [] [] := by unfold RepL; rfl
theorem RepL.cons {d : D} {ds : List D} {v : V} {vs : List V} (a : Rep G H d v) (b : RepL G H ds vs) : RepL G H (d :: ds) (v :: vs) := by unfold RepL; exact ⟨v, vs, rfl, a, b⟩
theorem RepL.length : ∀ {ds : List D} {vs : List V}, RepL G H ds vs → vs.length = ds.length
  | [], vs, h => by unfold RepL at h; subst h; rfl
  | d :: ds, vs, h => by
    unfold RepL at h
    obtain ⟨v, r, rfl, _, h⟩ := h
    rw [List.length_cons, List.length_cons, RepL.length h]
theorem RepL.append : ∀ {ds es : List D} {vs us : List V}, RepL G H ds vs → RepL G H es us → RepL G H (ds ++ es) (vs ++ us)
  | [], _, vs, _, h, k => by unfold RepL at h; subst h; exact k
  | d :: ds, _, vs, _, h, k => by
    unfold RepL at h
    obtain ⟨v, r, rfl, h1, h⟩ := h
    exact RepL.cons h1 (RepL.append h k)
theorem RepL.get : ∀ {ds : List D} {vs : List V} {i : Nat} {d : D}, RepL G H ds vs → ds[i]? = some d → ∃ v, vs[i]? = some v ∧ Rep G H d v
  | [], vs, i, d, h, e => by simp at e
  | d :: ds, vs, 0, e, h, k => by
    unfold RepL at h
    obtain ⟨v, r, rfl, h1, h⟩ := h
    simp at k
    subst k
    exact ⟨v, rfl, h1⟩
  | d :: ds, vs, i + 1, e, h, k => by
    unfold RepL at h
    obtain ⟨v, r, rfl, h1, h⟩ := h
    obtain ⟨u, h2, h3⟩ := RepL.get (i := i) h (by simpa using k)
    exact ⟨u, by simpa using h2, h3⟩
theorem RepL.get' {ds : List D} {vs : List V} {i : Nat} {v : V} (h : RepL G H ds vs) (e : vs[i]? = some v) : ∃ d, ds[i]? = some d ∧ Rep G H d v := by
  have hl := h.length
  obtain ⟨hi, _⟩ := List.getElem?_eq_some_iff.mp e
  have hi' : i < ds.length := by omega
  obtain ⟨u, h1, h2⟩ := h.get (List.getElem?_eq_getElem hi')
  rw [e] at h1
  cases h1
  exact ⟨_, List.getElem?_eq_getElem hi', h2⟩
theorem RepL.of_get : ∀ {ds : List D} {vs : List V}, vs.length = ds.length → (∀ (i : Nat) (d : D) (v : V), ds[i]? = some d → vs[i]? = some v → Rep G H d v) → RepL G H ds vs
  | [], vs, e, h => by
    have : vs = [] := List.eq_nil_of_length_eq_zero e
    subst this
    exact RepL.nil
  | d :: ds, [], e, h => by simp at e
  | d :: ds, v :: vs, e, h => RepL.cons (h 0 d v rfl rfl) (RepL.of_get (by simpa using e) fun i d' v' e1 e2 => h (i + 1) d' v' (by simpa using e1) (by simpa using e2))
theorem RepL.take {ds : List D} {vs : List V} (n : Nat) (h : RepL G H ds vs) : RepL G H (ds.take n) (vs.take n) :=
  RepL.of_get (by simp [h.length]) fun i d v e1 e2 => by
    rw [List.getElem?_take] at e1 e2
    split at e1
    · rename_i hi
      rw [if_pos hi] at e2
      obtain ⟨u, h1, h2⟩ := h.get e1
      rw [e2] at h1
      cases h1
      exact h2
    · cases e1
theorem RepL.drop {ds : List D} {vs : List V} (n : Nat) (h : RepL G H ds vs) : RepL G H (ds.drop n) (vs.drop n) :=
  RepL.of_get (by simp [h.length]) fun i d v e1 e2 => by
    rw [List.getElem?_drop] at e1 e2
    obtain ⟨u, h1, h2⟩ := h.get e1
    rw [e2] at h1
    cases h1
    exact h2
theorem RepL.set {ds : List D} {vs : List V} {d : D} {v : V} (n : Nat) (h : RepL G H ds vs) (q : Rep G H d v) : RepL G H (ds.set n d) (vs.set n v) :=
  RepL.of_get (by simp [h.length]) fun i e u e1 e2 => by
    have hl := h.length
    by_cases hi : n = i
    · subst hi
      by_cases hn : n < ds.length
      · rw [List.getElem?_set_self hn] at e1
        rw [List.getElem?_set_self (by omega)] at e2
        cases e1; cases e2
        exact q
      · rw [List.getElem?_eq_none (by simpa using hn)] at e1
        cases e1
    · rw [List.getElem?_set_ne hi] at e1 e2
      obtain ⟨u', h1, h2⟩ := h.get e1
      rw [e2] at h1
      cases h1
      exact h2
theorem rep_int {i : Int} {v : V} : Rep G H (.int i) v ↔ v = .int i := by unfold Rep; exact Iff.rfl
theorem rep_bl {i : Bool} {v : V} : Rep G H (.bl i) v ↔ v = .bl i := by unfold Rep; exact Iff.rfl
theorem rep_str {i : List Nat} {v : V} : Rep G H (.str i) v ↔ v = .str ⟨i.toArray⟩ ∧ okS i = true := by unfold Rep; exact Iff.rfl
theorem rep_non {v : V} : Rep G H .non v ↔ v = .non := by unfold Rep; exact Iff.rfl
theorem rep_lst {ds : List D} {v : V} : Rep G H (.lst ds) v ↔ ∃ a xs, v = .ref a ∧ SqL G.K H a xs ∧ RepL G H ds xs := by conv => lhs; unfold Rep
theorem rep_tup {ds : List D} {v : V} : Rep G H (.tup ds) v ↔ ∃ a xs, v = .ref a ∧ SqT G.K H a xs ∧ RepL G H ds xs := by conv => lhs; unfold Rep
theorem rep_dic {ks : List Key} {ds : List D} {v : V} : Rep G H (.dic ks ds) v ↔ ∃ a kvs, v = .ref a ∧ (∃ o, H a = some (.frz o (.dK kvs))) ∧ kvs.map (·.1) = ks ∧ ks.Nodup ∧ RepL G H ds (kvs.map (·.2)) := by conv => lhs; unfold Rep
theorem rep_obj {c : Nat} {ds : List D} {v : V} : Rep G H (.obj c ds) v ↔ ∃ a C dx fs ns, v = .ref a ∧ G.cls c = some (C, ns) ∧ H a = some (.ins C dx fs) ∧ fs.map (·.1) = ns ∧ RepL G H ds (fs.map (·.2)) := by conv => lhs; unfold Rep
end

/-! ### own objects -/
def OwR (G : GE) (F H : Hp) (a : Addr) : D → Prop
  | .lst ds => ∃ xs, H a = some (.lst xs) ∧ RepL G F ds xs
  | .dic ks ds => ∃ kvs, H a = some (.dK kvs) ∧ kvs.map (·.1) = ks ∧ ks.Nodup ∧ RepL G F ds (kvs.map (·.2))
  | .obj c ds => ∃ C dx fs ns, G.cls c = some (C, ns) ∧ H a = some (.ins C dx fs) ∧ fs.map (·.1) = ns ∧ RepL G F ds (fs.map (·.2))
  | _ => False
theorem OwR.mono {G : GE} {F F' H H' : Hp} {a : Addr} {d : D} (f : Same F F') (h : ∀ o, H a = some o → H' a = some o) (q : OwR G F H a d) : OwR G F' H' a d := by
  cases d <;> try exact False.elim q
  · obtain ⟨xs, e, r⟩ := q
    exact ⟨xs, h _ e, RepL.mono f r⟩
  · obtain ⟨kvs, e, k, nd, r⟩ := q
    exact ⟨kvs, h _ e, k, nd, RepL.mono f r⟩
  · obtain ⟨C, dx, fs, ns, g, e, k, r⟩ := q
    exact ⟨C, dx, fs, ns, g, h _ e, k, RepL.mono f r⟩
theorem OwR.there {G : GE} {F H : Hp} {a : Addr} {d : D} (q : OwR G F H a d) : ∃ o, H a = some o := by
  cases d <;> try exact False.elim q
  · obtain ⟨xs, e, r⟩ := q
    exact ⟨_, e⟩
  · obtain ⟨kvs, e, k, nd, r⟩ := q
    exact ⟨_, e⟩
  · obtain ⟨C, dx, fs, ns, g, e, k, r⟩ := q
    exact ⟨_, e⟩
/-- an object laid fast -/
def Fz (o o' : HO) : Prop := o' = o ∨ ∃ od kvs, o = .dK kvs ∧ o' = .frz od (.dK kvs)
def isDic : D → Bool
  | .dic _ _ => true
  | _ => false
/-- an own object frozen -/
theorem OwR.rep {G : GE} {F H F' : Hp} {a : Addr} {d : D} (q : OwR G F H a d) (f : Same F F') (h : ∀ o, H a = some o → ∃ o', F' a = some o' ∧ Fz o o' ∧ (isDic d = true → o' ≠ o)) : Rep G F' d (.ref a) := by
  cases d <;> try exact False.elim q
  · obtain ⟨xs, e, r⟩ := q
    obtain ⟨o', e1, z, -⟩ := h _ e
    rcases z with rfl | ⟨_, _, z, _⟩
    · exact rep_lst.mpr ⟨a, xs, rfl, .inl (.inl e1), RepL.mono f r⟩
    · cases z
  · obtain ⟨kvs, e, k, nd, r⟩ := q
    obtain ⟨o', e1, z, n⟩ := h _ e
    rcases z with rfl | ⟨od, _, z, rfl⟩
    · exact absurd rfl (n rfl)
    · cases z
      exact rep_dic.mpr ⟨a, kvs, rfl, ⟨od, e1⟩, k, nd, RepL.mono f r⟩
  · obtain ⟨C, dx, fs, ns, g, e, k, r⟩ := q
    obtain ⟨o', e1, z, -⟩ := h _ e
    rcases z with rfl | ⟨_, _, z, _⟩
    · exact rep_obj.mpr ⟨a, C, dx, fs, ns, rfl, g, e1, k, RepL.mono f r⟩
    · cases z
theorem OwR.rep1 {G : GE} {F H F' : Hp} {a : Addr} {d : D} (hd : isDic d = false) (q : OwR G F H a d) (f : Same F F') (h : ∀ o, H a = some o → F' a = some o) : Rep G F' d (.ref a) :=
  q.rep f fun o e => ⟨o, h o e, .inl rfl, fun z => by rw [hd] at z; cases z⟩

/-- a value that is read: shared, or an own object -/
def Bor (G : GE) (F H : Hp) (d : D) (v : V) : Prop := Rep G F d v ∨ ∃ a, v = .ref a ∧ F a = none ∧ OwR G F H a d

/-! ### the state -/
structure Ext (F H F' H' : Hp) : Prop where
  ff : Same F F'
  hh : Same H H'
  fh : Same F' H'
  ow : ∀ b o, H b = some o → F b = none → F' b = none
theorem Ext.refl {F H : Hp} (s : Same F H) : Ext F H F H := ⟨Same.refl F, Same.refl H, s, fun _ _ _ h => h⟩
theorem Ext.trans {F H F1 H1 F2 H2 : Hp} (a : Ext F H F1 H1) (b : Ext F1 H1 F2 H2) : Ext F H F2 H2 :=
  ⟨a.ff.trans b.ff, a.hh.trans b.hh, b.fh, fun c o h1 h2 => b.ow c o (a.hh _ _ h1) (a.ow c o h1 h2)⟩
/-- a new object that is shared -/
theorem Ext.new {F H : Hp} {p : Addr} {o : HO} (s : Same F H) (n : H p = none) : Ext F H (upd F p o) (upd H p o) := by
  have nf : F p = none := s.free n
  refine ⟨same_upd' nf, same_upd' n, fun b u e => ?_, fun b u e1 e2 => ?_⟩
  · by_cases hb : b = p
    · subst hb; rw [upd_same] at e ⊢; exact e
    · rw [upd_ne hb] at e ⊢; exact s _ _ e
  · have hb : b ≠ p := fun z => by subst z; rw [n] at e1; cases e1
    rw [upd_ne hb]; exact e2
where
  same_upd' {H : Hp} {p : Addr} {o : HO} (h : H p = none) : Same H (upd H p o) := fun b x e => by
    rw [upd_ne (ne_of_none e h)]
    exact e
theorem same_new {H : Hp} {p : Addr} {o : HO} (h : H p = none) : Same H (upd H p o) := fun b x e => by
  rw [upd_ne (ne_of_none e h)]
  exact e
/-- a new object that is not shared -/
theorem Ext.newOwn {F H : Hp} {p : Addr} {o : HO} (s : Same F H) (n : H p = none) : Ext F H F (upd H p o) :=
  ⟨Same.refl F, same_new n, s.trans (same_new n), fun _ _ _ h => h⟩

theorem Bor.mono {G : GE} {F H F' H' : Hp} {d : D} {v : V} (e : Ext F H F' H') (h : Bor G F H d v) : Bor G F' H' d v := by
  rcases h with h | ⟨a, rfl, hn, q⟩
  · exact .inl (Rep.mono e.ff h)
  · obtain ⟨o, ho⟩ := q.there
    exact .inr ⟨a, rfl, e.ow _ _ ho hn, q.mono e.ff fun o h => e.hh _ _ h⟩

/-- the body's own context: the classes, the entry, what is wanted of an exception -/
structure CT where
  G : GE
  F0 : Hp
  H0 : Hp

/-! ### own objects with own lists in them -/
/-- items: a list is own, all else is shared; L are the own lists' addresses -/
inductive ItL (G : GE) (F H : Hp) : List D → List V → List Addr → Prop
  | nil : ItL G F H [] [] []
  | sh {d : D} {v : V} {ds : List D} {vs : List V} {L : List Addr} (n : ∀ es, d ≠ .lst es) (r : Rep G F d v) (t : ItL G F H ds vs L) : ItL G F H (d :: ds) (v :: vs) L
  | ow {es : List D} {b : Addr} {xs : List V} {ds : List D} {vs : List V} {L : List Addr} (h : H b = some (.lst xs)) (r : RepL G F es xs) (t : ItL G F H ds vs L) : ItL G F H (.lst es :: ds) (.ref b :: vs) (b :: L)
theorem ItL.mono {G : GE} {F H F' H' : Hp} (ff : Same F F') {ds : List D} {vs : List V} {L : List Addr} (h : ItL G F H ds vs L) : (∀ b o, b ∈ L → H b = some o → H' b = some o) → ItL G F' H' ds vs L := by
  induction h with
  | nil => exact fun _ => .nil
  | sh n r t ih => exact fun k => .sh n (Rep.mono ff r) (ih k)
  | ow h r t ih => exact fun k => .ow (k _ _ (List.mem_cons_self ..) h) (RepL.mono ff r) (ih fun b o m => k b o (List.mem_cons_of_mem _ m))
theorem ItL.there {G : GE} {F H : Hp} {ds : List D} {vs : List V} {L : List Addr} (h : ItL G F H ds vs L) : ∀ b, b ∈ L → ∃ o, H b = some o := by
  induction h with
  | nil => exact fun b m => absurd m (List.not_mem_nil)
  | sh n r t ih => exact ih
  | ow h r t ih =>
    intro b m
    rcases List.mem_cons.mp m with rfl | m
    · exact ⟨_, h⟩
    · exact ih b m
/-- an own object at a whose lists are own too -/
def NtR (G : GE) (F H : Hp) (a : Addr) (d : D) (L : List Addr) : Prop := match d with
  | .lst ds => ∃ xs, H a = some (.lst xs) ∧ ItL G F H ds xs L
  | .dic ks ds => ∃ kvs, H a = some (.dK kvs) ∧ kvs.map (·.1) = ks ∧ ks.Nodup ∧ ItL G F H ds (kvs.map (·.2)) L
  | .obj c ds => ∃ C dx fs ns, G.cls c = some (C, ns) ∧ H a = some (.ins C dx fs) ∧ fs.map (·.1) = ns ∧ ItL G F H ds (fs.map (·.2)) L
  | _ => False
theorem NtR.mono {G : GE} {F H F' H' : Hp} (ff : Same F F') {a : Addr} {d : D} {L : List Addr} (h : NtR G F H a d L) (k : ∀ b o, b ∈ a :: L → H b = some o → H' b = some o) : NtR G F' H' a d L := by
  have k1 : ∀ b o, b ∈ L → H b = some o → H' b = some o := fun b o m => k b o (List.mem_cons_of_mem _ m)
  cases d <;> try exact False.elim h
  · obtain ⟨xs, e, r⟩ := h
    exact ⟨xs, k _ _ (List.mem_cons_self ..) e, r.mono ff k1⟩
  · obtain ⟨kvs, e, h1, h2, r⟩ := h
    exact ⟨kvs, k _ _ (List.mem_cons_self ..) e, h1, h2, r.mono ff k1⟩
  · obtain ⟨C, dx, fs, ns, g, e, h1, r⟩ := h
    exact ⟨C, dx, fs, ns, g, k _ _ (List.mem_cons_self ..) e, h1, r.mono ff k1⟩
theorem NtR.there {G : GE} {F H : Hp} {a : Addr} {d : D} {L : List Addr} (h : NtR G F H a d L) : ∀ b, b ∈ a :: L → ∃ o, H b = some o := by
  intro b m
  cases d <;> try exact False.elim h
  · obtain ⟨xs, e, r⟩ := h
    rcases List.mem_cons.mp m with rfl | m
    · exact ⟨_, e⟩
    · exact r.there b m
  · obtain ⟨kvs, e, h1, h2, r⟩ := h
    rcases List.mem_cons.mp m with rfl | m
    · exact ⟨_, e⟩
    · exact r.there b m
  · obtain ⟨C, dx, fs, ns, g, e, h1, r⟩ := h
    rcases List.mem_cons.mp m with rfl | m
    · exact ⟨_, e⟩
    · exact r.there b m
/-- the slots with such objects: each address is one slot's (O tells whose), and stands in H₁ -/
def NtOk (C : CT) (H₁ F H : Hp) (sd : SS) (σ : L2.St) : Prop := ∃ O : Addr → Option Nat,
  (∀ (i : Nat) (k : Bool) (d : D), sd[i]? = some (.nt k d) → ∃ a L, σ[i]? = some (some (.ref a)) ∧ NtR C.G F H a d L ∧ (a :: L).Nodup ∧ (∀ b ∈ a :: L, C.H0 b = none ∧ F b = none ∧ (∃ o, H₁ b = some o) ∧ O b = some i) ∧ ∀ (r j : Nat), sd[r]? = some (.pt i j) → ∃ b, L[j]? = some b ∧ σ[r]? = some (some (.ref b))) ∧
  ∀ (j : Nat) (e : D) (b : Addr), sd[j]? = some (.ow e) ∨ sd[j]? = some (.lk e) → σ[j]? = some (some (.ref b)) → O b = none
theorem NtOk.zero {C : CT} {H₁ F H : Hp} {sd : SS} {σ : L2.St} (h : ∀ (i : Nat) (k : Bool) (d : D), sd[i]? ≠ some (.nt k d)) : NtOk C H₁ F H sd σ :=
  ⟨fun _ => Option.none, fun i k d e => (h i k d e).elim, fun _ _ _ _ _ => rfl⟩
theorem NtOk.up {C : CT} {H₁ F H : Hp} {sd : SS} {σ : L2.St} (h : NtOk C H₁ F H sd σ) : NtOk C H F H sd σ := by
  obtain ⟨O, h1, h2⟩ := h
  refine ⟨O, fun i k d e => ?_, h2⟩
  obtain ⟨a, L, k1, k2, k3, k4, k5⟩ := h1 i k d e
  exact ⟨a, L, k1, k2, k3, fun b m => ⟨(k4 b m).1, (k4 b m).2.1, k2.there b m, (k4 b m).2.2.2⟩, k5⟩
/-- what is not touched stays -/
theorem NtOk.step {C : CT} {H₁ F H F' H' : Hp} {sd sd' : SS} {σ σ' : L2.St} (h : NtOk C H₁ F H sd σ)
    (hn : ∀ (i : Nat) (k : Bool) (d : D), sd'[i]? = some (.nt k d) → sd[i]? = some (.nt k d) ∧ σ'[i]? = σ[i]?)
    (hp : ∀ (r i j : Nat), sd'[r]? = some (.pt i j) → sd[r]? = some (.pt i j) ∧ σ'[r]? = σ[r]?)
    (ho : ∀ (j : Nat) (e : D) (b : Addr), sd'[j]? = some (.ow e) ∨ sd'[j]? = some (.lk e) → σ'[j]? = some (some (.ref b)) → (∃ (k : Nat) (e' : D), (sd[k]? = some (.ow e') ∨ sd[k]? = some (.lk e')) ∧ σ[k]? = some (some (.ref b))) ∨ H₁ b = none)
    (ff : Same F F')
    (st : ∀ (b : Addr) (o : HO), H b = some o → F b = none → (∀ (k : Nat) (e : D), sd[k]? = some (.ow e) ∨ sd[k]? = some (.lk e) → σ[k]? ≠ some (some (.ref b))) → H' b = some o ∧ F' b = none) : NtOk C H₁ F' H' sd' σ' := by
  obtain ⟨O, h1, h2⟩ := h
  refine ⟨fun b => if H₁ b = none then none else O b, fun i kk0 d e => ?_, fun j e b q z => ?_⟩
  · obtain ⟨e1, e2⟩ := hn i kk0 d e
    obtain ⟨a, L, k1, k2, k3, k4, k5⟩ := h1 i kk0 d e1
    have kk : ∀ b o, b ∈ a :: L → H b = some o → H' b = some o ∧ F' b = none := fun b o m hb => st b o hb (k4 b m).2.1 fun k e' q z => by
      have := h2 k e' b q z
      rw [(k4 b m).2.2.2] at this
      cases this
    refine ⟨a, L, e2.trans k1, k2.mono ff fun b o m hb => (kk b o m hb).1, k3, fun b m => ?_, fun r j q => ?_⟩
    case refine_2 =>
      obtain ⟨q1, q2⟩ := hp r i j q
      obtain ⟨b, g1, g2⟩ := k5 r j q1
      exact ⟨b, g1, q2.trans g2⟩
    obtain ⟨o, ho⟩ := k2.there b m
    refine ⟨(k4 b m).1, (kk b o m ho).2, (k4 b m).2.2.1, ?_⟩
    obtain ⟨o', h'⟩ := (k4 b m).2.2.1
    show (if H₁ b = Option.none then Option.none else O b) = some i
    rw [if_neg (by rw [h']; exact fun z => by cases z)]
    exact (k4 b m).2.2.2
  · rcases ho j e b q z with ⟨k, e', q', z'⟩ | hb
    · dsimp only
      rw [h2 k e' b q' z']
      split <;> rfl
    · dsimp only
      rw [if_pos hb]

structure StR (C : CT) (F H : Hp) (sd : SS) (σ : L2.St) : Prop where
  ext : Ext C.F0 C.H0 F H
  len : sd.length = σ.length
  sh : ∀ (i : Nat) (d : D), sd[i]? = some (.sh d) → ∃ v, σ[i]? = some (some v) ∧ Rep C.G F d v
  ow : ∀ (i : Nat) (d : D), sd[i]? = some (.ow d) ∨ sd[i]? = some (.lk d) → ∃ a, σ[i]? = some (some (.ref a)) ∧ C.H0 a = none ∧ F a = none ∧ OwR C.G F H a d
  dis : ∀ (i j : Nat) (d e : D) (a : Addr), sd[i]? = some (.ow d) ∨ sd[i]? = some (.lk d) → sd[j]? = some (.ow e) ∨ sd[j]? = some (.lk e) → σ[i]? = some (some (.ref a)) → σ[j]? = some (some (.ref a)) → i = j
  nt : NtOk C H F H sd σ
theorem StR.fh {C : CT} {F H : Hp} {sd : SS} {σ : L2.St} (s : StR C F H sd σ) : Same F H := s.ext.fh
theorem StR.mono {C : CT} {F H F' H' : Hp} {sd : SS} {σ : L2.St} (s : StR C F H sd σ) (e : Ext F H F' H') : StR C F' H' sd σ := by
  refine ⟨s.ext.trans e, s.len, fun i d h => ?_, fun i d h => ?_, s.dis, (s.nt.step (fun i k d q => ⟨q, rfl⟩) (fun r i j q => ⟨q, rfl⟩) (fun j e b q z => .inl ⟨j, e, q, z⟩) e.ff fun b o h1 h2 _ => ⟨e.hh _ _ h1, e.ow _ _ h1 h2⟩).up⟩
  · obtain ⟨v, h1, h2⟩ := s.sh i d h
    exact ⟨v, h1, Rep.mono e.ff h2⟩
  · obtain ⟨a, h1, h2, h3, h4⟩ := s.ow i d h
    obtain ⟨o, ho⟩ := h4.there
    exact ⟨a, h1, h2, e.ow _ _ ho h3, h4.mono e.ff fun o h => e.hh _ _ h⟩

/-! ### readings -/
/-- an exception of class c with the fields vs -/
def XR (G : GE) (F : Hp) (c : Nat) (vs : List D) (cls : Value) (dx : Option Addr) : Prop :=
  ∃ C ns, G.xcl c = some (C, ns) ∧ cls = .ref C ∧ ((ns = [] ∧ dx = none ∧ vs = []) ∨ ∃ d fs, dx = some d ∧ F d = some (.xd fs) ∧ fs.map (·.1) = ns ∧ RepL G F vs (fs.map (·.2)))

/-- what is wanted behind an expression with the result r -/
def PostE (C : CT) (W : WX) (F H : Hp) (σ : L2.St) (P : Hp → Hp → D → V → Prop) (Q : VK) : R D → Prop
  | .ok d => ∀ v F' H', Ext F H F' H' → P F' H' d v → Q v H'
  | .ex c vs => ∀ cls dx F' H', Ext F H F' H' → XR C.G F' c vs cls dx → W cls dx σ H'
  | .bad => False
abbrev pD (C : CT) : Hp → Hp → D → V → Prop := fun F _ d v => Rep C.G F d v
abbrev pB (C : CT) : Hp → Hp → D → V → Prop := fun F H d v => Bor C.G F H d v
/-- a new object that nobody holds -/
abbrev pF (C : CT) (H₀ : Hp) : Hp → Hp → D → V → Prop := fun F H d v => ∃ a, v = .ref a ∧ H₀ a = none ∧ F a = none ∧ OwR C.G F H a d
/-- a reading: shared value -/
def tD (C : CT) (W : WX) (f : SS → R D) : TE := fun σ H Q => ∃ F sd, StR C F H sd σ ∧ PostE C W F H σ (pD C) Q (f sd)
def tB (C : CT) (W : WX) (f : SS → R D) : TE := fun σ H Q => ∃ F sd, StR C F H sd σ ∧ PostE C W F H σ (pB C) Q (f sd)
def tF (C : CT) (W : WX) (f : SS → R D) : TE := fun σ H Q => ∃ F sd, StR C F H sd σ ∧ PostE C W F H σ (pF C H) Q (f sd)
/-- a test -/
def PostT (C : CT) (W : WX) (F H : Hp) (σ : L2.St) (Q : Bool → Hp → Prop) : R D → Prop
  | .ok (.bl b) => ∀ F' H', Ext F H F' H' → Q b H'
  | .ok _ => False
  | .ex c vs => ∀ cls dx F' H', Ext F H F' H' → XR C.G F' c vs cls dx → W cls dx σ H'
  | .bad => False
def tT (C : CT) (W : WX) (f : SS → R D) : TT := fun σ H Q => ∃ F sd, StR C F H sd σ ∧ PostT C W F H σ Q (f sd)
/-- arguments -/
def PostA (C : CT) (W : WX) (F H : Hp) (σ : L2.St) (P : Hp → Hp → D → V → Prop) (Q : List V → Hp → Prop) : R (List D) → Prop
  | .ok ds => ∀ vs F' H', Ext F H F' H' → Paired (P F' H') ds vs → Q vs H'
  | .ex c vs => ∀ cls dx F' H', Ext F H F' H' → XR C.G F' c vs cls dx → W cls dx σ H'
  | .bad => False
def tA (C : CT) (W : WX) (f : SS → R (List D)) : TA := fun σ H Q => ∃ F sd, StR C F H sd σ ∧ PostA C W F H σ (pD C) Q (f sd)
def tAB (C : CT) (W : WX) (f : SS → R (List D)) : TA := fun σ H Q => ∃ F sd, StR C F H sd σ ∧ PostA C W F H σ (pB C) Q (f sd)

/-! ### what a value that is read looks like -/
section
variable {G : GE} {F H : Hp} {v : V}
theorem bor_int {i : Int} (h : Bor G F H (.int i) v) : v = .int i := by
  rcases h with h | ⟨_, _, _, h⟩
  · exact rep_int.mp h
  · exact h.elim
theorem bor_bl {i : Bool} (h : Bor G F H (.bl i) v) : v = .bl i := by
  rcases h with h | ⟨_, _, _, h⟩
  · exact rep_bl.mp h
  · exact h.elim
theorem bor_non (h : Bor G F H .non v) : v = .non := by
  rcases h with h | ⟨_, _, _, h⟩
  · exact rep_non.mp h
  · exact h.elim
theorem bor_str {x : List Nat} (h : Bor G F H (.str x) v) : v = .str ⟨x.toArray⟩ ∧ okS x = true := by
  rcases h with h | ⟨_, _, _, h⟩
  · exact rep_str.mp h
  · exact h.elim
theorem bor_lst {ds : List D} (s : Same F H) (h : Bor G F H (.lst ds) v) : ∃ a xs, v = .ref a ∧ SqL G.K H a xs ∧ RepL G F ds xs := by
  rcases h with h | ⟨a, e, _, xs, h, r⟩
  · obtain ⟨a, xs, e, q, r⟩ := rep_lst.mp h
    exact ⟨a, xs, e, s.seq q, r⟩
  · exact ⟨a, xs, e, SqL.of h, r⟩
theorem bor_tup {ds : List D} (s : Same F H) (h : Bor G F H (.tup ds) v) : ∃ a xs, v = .ref a ∧ SqT G.K H a xs ∧ RepL G F ds xs := by
  rcases h with h | ⟨a, e, _, h⟩
  · obtain ⟨a, xs, e, q, r⟩ := rep_tup.mp h
    exact ⟨a, xs, e, Same.seqT s q, r⟩
  · exact h.elim
theorem bor_dic {ks : List Key} {ds : List D} (s : Same F H) (h : Bor G F H (.dic ks ds) v) : ∃ a kvs, v = .ref a ∧ Rd H a (.dK kvs) ∧ kvs.map (·.1) = ks ∧ ks.Nodup ∧ RepL G F ds (kvs.map (·.2)) := by
  rcases h with h | ⟨a, e, _, kvs, h, k, nd, r⟩
  · obtain ⟨a, kvs, e, q, k, nd, r⟩ := rep_dic.mp h
    obtain ⟨o, q⟩ := q
    exact ⟨a, kvs, e, .inr ⟨o, s _ _ q⟩, k, nd, r⟩
  · exact ⟨a, kvs, e, .inl h, k, nd, r⟩
theorem bor_obj {c : Nat} {ds : List D} (s : Same F H) (h : Bor G F H (.obj c ds) v) : ∃ a C dx fs ns, v = .ref a ∧ G.cls c = some (C, ns) ∧ H a = some (.ins C dx fs) ∧ fs.map (·.1) = ns ∧ RepL G F ds (fs.map (·.2)) := by
  rcases h with h | ⟨a, e, _, C, dx, fs, ns, g, h, k, r⟩
  · obtain ⟨a, C, dx, fs, ns, e, g, q, k, r⟩ := rep_obj.mp h
    exact ⟨a, C, dx, fs, ns, e, g, s _ _ q, k, r⟩
  · exact ⟨a, C, dx, fs, ns, e, g, h, k, r⟩
end

/-! ### composing -/
section
variable {C : CT} {W : WX} {F H F1 H1 : Hp} {σ : L2.St} {P P1 : Hp → Hp → D → V → Prop} {Q Q1 : VK}
theorem PostE.ext {r : R D} (e : Ext F H F1 H1) (h : PostE C W F H σ P Q r) : PostE C W F1 H1 σ P Q r := by
  cases r with
  | ok d => exact fun v F' H' e' p => h v F' H' (e.trans e') p
  | ex c vs => exact fun cls dx F' H' e' x => h cls dx F' H' (e.trans e') x
  | bad => exact h
theorem PostE.bind {x : R D} {k : D → R D} (h : PostE C W F H σ P Q (x.bind k))
    (hk : ∀ d v F1 H1, Ext F H F1 H1 → P1 F1 H1 d v → PostE C W F1 H1 σ P Q (k d) → Q1 v H1) : PostE C W F H σ P1 Q1 x := by
  cases x with
  | ok d => exact fun v F' H' e p => hk d v F' H' e p (PostE.ext e h)
  | ex c vs => exact h
  | bad => exact h
theorem PostE.imp {r : R D} (h : PostE C W F H σ P Q r) (hP : ∀ F' H' d v, Ext F H F' H' → P1 F' H' d v → P F' H' d v) : PostE C W F H σ P1 Q r := by
  cases r with
  | ok d => exact fun v F' H' e p => h v F' H' e (hP _ _ _ _ e p)
  | ex c vs => exact h
  | bad => exact h
end
theorem pe_imp {X : Cx} {e : Expr} {t t' : TE} (h : PE X e t) (i : ∀ σ H Q, t' σ H Q → t σ H Q) : PE X e t' := ⟨fun pins s σ H Q I q => h.run pins s σ H Q I (i σ H Q q)⟩
theorem pt_imp {X : Cx} {e : Expr} {t t' : TT} (h : PT X e t) (i : ∀ σ H Q, t' σ H Q → t σ H Q) : PT X e t' := ⟨fun pins s σ H Q I q => h.run pins s σ H Q I (i σ H Q q)⟩
theorem pa_imp {X : Cx} {e : List Expr} {t t' : TA} (h : PA X e t) (i : ∀ σ H Q, t' σ H Q → t σ H Q) : PA X e t' := ⟨fun pos pins s σ H Q I q => h.run pos pins s σ H Q I (i σ H Q q)⟩
theorem ps_imp {X : Cx} {e : Stmt} {t t' : TS} (h : PS X e t) (i : ∀ D σ H, t' D σ H → t D σ H) : PS X e t' := ⟨fun pins s σ H D I q => h.run pins s σ H D I (i D σ H q)⟩
theorem pss_imp {X : Cx} {e : List Stmt} {t t' : TS} (h : PSs X e t) (i : ∀ D σ H, t' D σ H → t D σ H) : PSs X e t' := ⟨fun pins s σ H D I q => h.run pins s σ H D I (i D σ H q)⟩

/-! ### names and constants -/
section
variable {X : Cx} {C : CT} {W : WX} {e : Expr} {f : SS → R D} {pos : Pos}
/-- a slot's value, shared -/
def eV (i : Nat) : SS → R D := fun s => match s[i]? with
  | some (.sh d) => .ok d
  | _ => .bad
/-- a slot's value, read -/
def eR (i : Nat) : SS → R D := fun s => match s[i]? with
  | some (.sh d) => .ok d
  | some (.ow d) => .ok d
  | some (.lk d) => .ok d
  | _ => .bad
theorem s_v (i : Nat) {x : Str} (hN : X.N[i]? = some x := by rfl) (hv : Vis X.env.scope x := by first | exact Or.inl rfl | exact Or.inr (Or.inl rfl) | exact Or.inr (Or.inr rfl)) (hd : (x == ("__debug__" : Str)) = false := by decide)
    (hcd : (x == ("__classdict__" : Str)) = false := by decide) : PE X (.Name x pos) (tD C W (eV i)) := pe_imp (pe_var (i := i) hN hv hd hcd) fun σ H Q ⟨F, sd, S, h⟩ => by
  unfold eV at h
  cases q : sd[i]? with
  | none => rw [q] at h; exact h.elim
  | some u =>
    rw [q] at h
    cases u with
    | sh d =>
      obtain ⟨v, e1, e2⟩ := S.sh i d q
      exact ⟨v, e1, h v F H (Ext.refl S.fh) e2⟩
    | _ => exact h.elim
theorem s_r (i : Nat) {x : Str} (hN : X.N[i]? = some x := by rfl) (hv : Vis X.env.scope x := by first | exact Or.inl rfl | exact Or.inr (Or.inl rfl) | exact Or.inr (Or.inr rfl)) (hd : (x == ("__debug__" : Str)) = false := by decide)
    (hcd : (x == ("__classdict__" : Str)) = false := by decide) : PE X (.Name x pos) (tB C W (eR i)) := pe_imp (pe_var (i := i) hN hv hd hcd) fun σ H Q ⟨F, sd, S, h⟩ => by
  unfold eR at h
  cases q : sd[i]? with
  | none => rw [q] at h; exact h.elim
  | some u =>
    rw [q] at h
    cases u with
    | no => exact h.elim
    | nt k d => exact h.elim
    | pt k l => exact h.elim
    | sh d =>
      obtain ⟨v, e1, e2⟩ := S.sh i d q
      exact ⟨v, e1, h v F H (Ext.refl S.fh) (.inl e2)⟩
    | ow d =>
      obtain ⟨a, e1, _, e2, e3⟩ := S.ow i d (.inl q)
      exact ⟨_, e1, h _ F H (Ext.refl S.fh) (.inr ⟨a, rfl, e2, e3⟩)⟩
    | lk d =>
      obtain ⟨a, e1, _, e2, e3⟩ := S.ow i d (.inr q)
      exact ⟨_, e1, h _ F H (Ext.refl S.fh) (.inr ⟨a, rfl, e2, e3⟩)⟩
/-- what is shared may be read -/
theorem s_b (h : PE X e (tD C W f)) : PE X e (tB C W f) := pe_imp h fun σ H Q ⟨F, sd, S, h⟩ => ⟨F, sd, S, PostE.imp h fun _ _ _ _ _ p => .inl p⟩
def eC (d : D) : SS → R D := fun _ => .ok d
theorem s_int {i : Int} {j} : PE X (.Constant (.int i) j pos) (tD C W (eC (.int i))) := pe_imp pe_int fun σ H Q ⟨F, sd, S, h⟩ => h _ F H (Ext.refl S.fh) (rep_int.mpr rfl)
theorem s_bl {i : Bool} {j} : PE X (.Constant (.bool i) j pos) (tD C W (eC (.bl i))) := pe_imp pe_bl fun σ H Q ⟨F, sd, S, h⟩ => h _ F H (Ext.refl S.fh) (rep_bl.mpr rfl)
theorem s_non {j} : PE X (.Constant .none j pos) (tD C W (eC .non)) := pe_imp pe_non fun σ H Q ⟨F, sd, S, h⟩ => h _ F H (Ext.refl S.fh) (rep_non.mpr rfl)
theorem s_str {x : Str} {j} (y : List Nat) (e : x.cps.toList = y := by decide +kernel) (k : okS y = true := by decide +kernel) : PE X (.Constant (.str x) j pos) (tD C W (eC (.str y))) := pe_imp pe_str fun σ H Q ⟨F, sd, S, h⟩ => by
  refine h _ F H (Ext.refl S.fh) (rep_str.mpr ⟨?_, k⟩)
  subst e
  rfl
/-- a module's constant -/
theorem s_gint {x : Str} {i : Int} {tk : Tok} (hg : Gl X x) (hm : X.mg x = some (.int i tk)) (hd : (x == ("__debug__" : Str)) = false := by decide) : PE X (.Name x pos) (tD C W (eC (.int i))) :=
  pe_imp (pe_glob (v := .int i) hg hm ⟨_, rfl⟩ hd) fun σ H Q ⟨F, sd, S, h⟩ => h _ F H (Ext.refl S.fh) (rep_int.mpr rfl)
theorem s_gstr {x z : Str} {tk : Tok} (y : List Nat) (hg : Gl X x) (hm : X.mg x = some (.str z tk)) (e : z.cps.toList = y := by decide +kernel) (k : okS y = true := by decide +kernel) (hd : (x == ("__debug__" : Str)) = false := by decide) : PE X (.Name x pos) (tD C W (eC (.str y))) :=
  pe_imp (pe_glob (v := .str z) hg hm ⟨_, rfl⟩ hd) fun σ H Q ⟨F, sd, S, h⟩ => by
    refine h _ F H (Ext.refl S.fh) (rep_str.mpr ⟨?_, k⟩)
    subst e
    rfl
end

/-! ### operators -/
def PostV (G : GE) (F H : Hp) (Q : VK) : R D → Prop
  | .ok d => ∀ v F' H', Ext F H F' H' → Rep G F' d v → Q v H'
  | _ => False
theorem PostE.toV {C : CT} {W : WX} {F H : Hp} {σ : L2.St} {Q : VK} {r : R D} (hne : ∀ c vs, r ≠ .ex c vs) (h : PostE C W F H σ (pD C) Q r) : PostV C.G F H Q r := by
  cases r with
  | ok d => exact h
  | ex c vs => exact (hne c vs rfl).elim
  | bad => exact h
/-- a pure operation: it raises nothing -/
structure Op2 where
  f : D → D → R D
  ne : ∀ x y c vs, f x y ≠ .ex c vs
def r2 (G : GE) (g : D → D → R D) : R2 := fun x y H Q => ∃ F d e, Same F H ∧ Bor G F H d x ∧ Bor G F H e y ∧ PostV G F H Q (g d e)
def r1 (G : GE) (g : D → R D) : V → Hp → VK → Prop := fun x H Q => ∃ F d, Same F H ∧ Bor G F H d x ∧ PostV G F H Q (g d)
def eBin (g : D → D → R D) (fa fb : SS → R D) : SS → R D := fun s => (fa s).bind fun x => (fb s).bind fun y => g x y
def eUn (g : D → R D) (fa : SS → R D) : SS → R D := fun s => (fa s).bind fun x => g x
def NoEx2 (g : D → D → R D) : Prop := ∀ x y c vs, g x y ≠ .ex c vs
def NoEx1 (g : D → R D) : Prop := ∀ x c vs, g x ≠ .ex c vs
section
variable {X : Cx} {C : CT} {W : WX} {a b c : Expr} {fa fb fc : SS → R D} {g g' : D → D → R D} {g1 : D → R D} {pos : Pos}
theorem bin_read (hg : NoEx2 g) {σ : L2.St} {H : Hp} {Q : VK} (h : tD C W (eBin g fa fb) σ H Q) : tOp (r2 C.G g) (tB C W fa) (tB C W fb) σ H Q := by
  obtain ⟨F, sd, S, h⟩ := h
  refine ⟨F, sd, S, PostE.bind h fun d v F1 H1 e1 b1 h1 => ?_⟩
  refine ⟨F1, sd, S.mono e1, PostE.bind h1 fun d2 v2 F2 H2 e2 b2 h2 => ?_⟩
  exact ⟨F2, d, d2, e2.fh, Bor.mono e2 b1, b2, h2.toV (hg d d2)⟩
theorem un_read (hg : NoEx1 g1) {σ : L2.St} {H : Hp} {Q : VK} (h : tD C W (eUn g1 fa) σ H Q) : tUn (r1 C.G g1) (tB C W fa) σ H Q := by
  obtain ⟨F, sd, S, h⟩ := h
  refine ⟨F, sd, S, PostE.bind h fun d v F1 H1 e1 b1 h1 => ?_⟩
  exact ⟨F1, d, e1.fh, b1, h1.toV (hg d)⟩
theorem s_bin {op : Operator} (hg : NoEx2 g) (ho : OpR X (binaryOp op) (r2 C.G g)) (ha : PE X a (tB C W fa)) (hb : PE X b (tB C W fb)) : PE X (.BinOp a op b pos) (tD C W (eBin g fa fb)) :=
  pe_imp (pe_op ho ha hb) fun _ _ _ h => bin_read hg h
theorem s_un {op : UnaryOp} (hg : NoEx1 g1) (ho : UnR X (unaryOp op) (r1 C.G g1)) (ha : PE X a (tB C W fa)) : PE X (.UnaryOp op a pos) (tD C W (eUn g1 fa)) :=
  pe_imp (pe_un ho ha) fun _ _ _ h => un_read hg h
theorem s_cmp {op : CmpOp} (hg : NoEx2 g) (ho : OpR X (compareOp op) (r2 C.G g)) (ha : PE X a (tB C W fa)) (hb : PE X b (tB C W fb)) (hm : behindInMarks op b = false := by first | exact nomark _ | with_unfolding_all rfl) : PE X (.Compare a [op] [b] pos) (tD C W (eBin g fa fb)) :=
  pe_imp (pe_cmpR ho ha hb hm) fun _ _ _ h => bin_read hg h
end
end
end Z
namespace Z
noncomputable section
open PySem PySem.Spec PySem.P PyProof.Rows L2

def SZp : {n : Nat // n = 16777216} := Classical.choice ⟨⟨_, rfl⟩⟩
def SZ : Nat := SZp.1
theorem sz_is : SZ = 16777216 := SZp.2
theorem le_sz {n : Nat} (h : n ≤ 16777216) : n ≤ SZ := by rw [sz_is]; exact h
theorem sz_line {n : Nat} (h : n ≤ SZ) : n ≤ sizeLine := by rw [sizeLine_eq]; rw [sz_is] at h; exact h
theorem okS_append {x y : List Nat} (a : okS x = true) (b : okS y = true) : okS (x ++ y) = true := by
  unfold okS at *
  rw [List.all_append, a, b]
  rfl
theorem okS_take {x : List Nat} (n : Nat) (a : okS x = true) : okS (x.take n) = true := by
  unfold okS at *
  rw [List.all_eq_true] at *
  exact fun c h => a c (List.mem_of_mem_take h)
theorem okS_drop {x : List Nat} (n : Nat) (a : okS x = true) : okS (x.drop n) = true := by
  unfold okS at *
  rw [List.all_eq_true] at *
  exact fun c h => a c (List.mem_of_mem_drop h)
theorem okS_mem {x : List Nat} {c : Nat} (a : okS x = true) (h : c ∈ x) : okS [c] = true := by
  unfold okS at *
  rw [List.all_eq_true] at *
  intro d hd
  rw [List.mem_singleton] at hd
  subst hd
  exact a _ h

section
variable {X : Cx} {G : GE} {F H : Hp} {Q : VK}
theorem PostV.int {i : Int} (S : Same F H) (p : PostV G F H Q (.ok (.int i))) : Q (.int i) H := p _ F H (Ext.refl S) (rep_int.mpr rfl)
theorem PostV.bl {i : Bool} (S : Same F H) (p : PostV G F H Q (.ok (.bl i))) : Q (.bl i) H := p _ F H (Ext.refl S) (rep_bl.mpr rfl)
theorem PostV.str {x : List Nat} (S : Same F H) (k : okS x = true) (p : PostV G F H Q (.ok (.str x))) : Q (.str ⟨x.toArray⟩) H := p _ F H (Ext.refl S) (rep_str.mpr ⟨rfl, k⟩)
/-- a new list of shared items -/
theorem PostV.lst {ds : List D} {vs : List V} (S : Same F H) (r : RepL G F ds vs) (p : PostV G F H Q (.ok (.lst ds))) : ∀ a, H a = none → Q (.ref a) (upd H a (.lst vs)) := fun a ha =>
  p _ (upd F a (.lst vs)) (upd H a (.lst vs)) (Ext.new S ha) (rep_lst.mpr ⟨a, vs, rfl, SqL.of upd_same, RepL.mono (same_new (S.free ha)) r⟩)
theorem PostV.tup {ds : List D} {vs : List V} (S : Same F H) (r : RepL G F ds vs) (p : PostV G F H Q (.ok (.tup ds))) : ∀ a, H a = none → Q (.ref a) (upd H a (.tup vs)) := fun a ha =>
  p _ (upd F a (.tup vs)) (upd H a (.tup vs)) (Ext.new S ha) (rep_tup.mpr ⟨a, vs, rfl, SqT.of upd_same, RepL.mono (same_new (S.free ha)) r⟩)
end

/-! ### + -/
theorem list_addW (l : Addr) (items : Array Value) (n : Nat) (b : Addr) (items2 : Array Value) (n2 : Nat) (sl sl2 : Array (Option Value)) (hc0 : items.size + items2.size ≤ sizeLine) :
    Meets (Builtin.«list.__add__» ⟨[.ref l, .ref b], []⟩) (fun _ R s => s.heap.get? l = some { cls := .type "list", dict := none, data := .seq items n, slots := sl } ∧ s.heap.get? b = some { cls := .type "list", dict := none, data := .seq items2 n2, slots := sl2 } ∧ R (.ok (.ret (Value.ref s.heap.objs.size))) { s with heap := s.heap.push { cls := Value.type "list", data := Data.seq (items ++ items2) }, toks := s.toks }) :=
  .of_wp fun prog w A R s h => by obtain ⟨hp, g, d, tk, os⟩ := s; obtain ⟨hl, hb, h⟩ := h; have f1 := AutoSeq1.idx_int; have f2 := AutoSeq1.sub_tuple_tuple; have f3 := AutoSeq1.sub_list_list; have f4 := AutoSeq1.sub_tuple_list; have f5 := AutoSeq1.sub_list_tuple; wp_walk using AutoSeq1.wpAny_loadPart' hl, AutoSeq1.wpAny_loadPart' hb; exact ⟨_, rfl, h⟩
/-- list + list, both only read -/
def rCatL (K : PySem.W.Frag) : R2 := fun x y H Q => ∃ l b xs zs, x = .ref l ∧ y = .ref b ∧ SqL K H l xs ∧ SqL K H b zs ∧ xs.length + zs.length ≤ sizeLine ∧ ∀ p, H p = none → Q (.ref p) (upd H p (.lst (xs ++ zs)))
theorem op_catL {X : Cx} : OpR X (binaryOp .Add) (rCatL X.K) := by
  intro pins s σ H x y v u Q I rx ry h
  obtain ⟨l, b, xs, zs, rfl, rfl, hH, hB, hz, q⟩ := h
  cases rx
  cases ry
  obtain ⟨its, r, ⟨o, n, e, c1, d1, e1⟩, z⟩ := I.list hH
  obtain ⟨its2, r2, ⟨o2, n2, e2, c2, d2, e3⟩, z2⟩ := I.list hB
  obtain ⟨cls, dd, data, sl⟩ := o
  obtain ⟨cls2, dd2, data2, sl2⟩ := o2
  simp only at c1 d1 e1 c2 d2 e3
  subst c1 d1 e1 c2 d2 e3
  have h1 := r.length
  have h2 := r2.length
  refine concat_meets ⟨_, e, rfl⟩ ⟨_, e2, rfl⟩ noFill_list_add seq_list_add F.slot_list_add F.entry_list_add (F.args_list_add_2 _ _)
    (list_addW l its.toArray n b its2.toArray n2 sl sl2 (by rw [List.size_toArray, List.size_toArray]; omega)) ⟨e, e2, ?_⟩
  have ea : its.toArray ++ its2.toArray = (its ++ its2).toArray := by simp
  rw [ea]
  exact ⟨.ref _, _, I.lnew (t' := s.toks) (r.append r2) (by rw [List.length_append]; omega), rfl, q _ I.fresh⟩

def addD : D → D → R D
  | .int i, .int j => .ok (.int (i + j))
  | .str x, .str y => if x.length + y.length ≤ SZ then .ok (.str (x ++ y)) else .bad
  | .lst x, .lst y => if x.length + y.length ≤ SZ then .ok (.lst (x ++ y)) else .bad
  | .tup x, .tup y => if x.length + y.length ≤ SZ then .ok (.tup (x ++ y)) else .bad
  | _, _ => .bad
theorem addD_ne : NoEx2 addD := fun x y c vs h => by
  unfold addD at h
  split at h <;> first | cases h | (split at h <;> cases h)
theorem strs_app (x y : List Nat) : (⟨x.toArray⟩ : Str) ++ ⟨y.toArray⟩ = ⟨(x ++ y).toArray⟩ := by
  show Str.append _ _ = _
  unfold Str.append
  simp
theorem op_addD {X : Cx} {C : CT} (hK : X.K = C.G.K) : OpR X (binaryOp .Add) (r2 C.G addD) := by
  intro pins s σ H x y v u Q I rx ry h
  obtain ⟨F, d, e, S, bd, be, p⟩ := h
  unfold addD at p
  split at p
  · exact op_add pins s σ H x y v u Q I rx ry ⟨_, _, bor_int bd, bor_int be, p.int S⟩
  · split at p
    · rename_i hz
      obtain ⟨e1, k1⟩ := bor_str bd
      obtain ⟨e2, k2⟩ := bor_str be
      refine op_add_str pins s σ H x y v u Q I rx ry ⟨_, _, e1, e2, ?_, ?_⟩
      · show Array.size _ + Array.size _ ≤ _
        rw [List.size_toArray, List.size_toArray]
        exact sz_line hz
      · rw [strs_app]
        exact p.str S (okS_append k1 k2)
    · exact p.elim
  · split at p
    · rename_i hz
      obtain ⟨a1, xs1, e1, q1, r1⟩ := bor_lst S bd
      obtain ⟨a2, xs2, e2, q2, r2⟩ := bor_lst S be
      rw [← hK] at q1 q2
      refine op_catL pins s σ H x y v u Q I rx ry ⟨a1, a2, xs1, xs2, e1, e2, q1, q2, ?_, p.lst S (r1.append r2)⟩
      rw [r1.length, r2.length]
      exact sz_line hz
    · exact p.elim
  · split at p
    · rename_i hz
      obtain ⟨a1, xs1, e1, q1, r1⟩ := bor_tup S bd
      obtain ⟨a2, xs2, e2, q2, r2⟩ := bor_tup S be
      have l1 := r1.length
      have l2 := r2.length
      have g1 : ∀ {F' : Hp} {ds : List D} {a : Addr} {xs : List V}, SqT C.G.K F' a xs → RepL C.G F' ds xs → Rep C.G F' (.tup ds) (.ref a) := fun q r => rep_tup.mpr ⟨_, _, rfl, q, r⟩
      rw [← hK] at q1 q2
      subst e1 e2
      have b1 : Rep C.G F (.tup _) _ := bd.elim id fun ⟨_, _, _, z⟩ => z.elim
      have b2 : Rep C.G F (.tup _) _ := be.elim id fun ⟨_, _, _, z⟩ => z.elim
      refine op_catA pins s σ H _ _ v u Q I rx ry ⟨a1, a2, xs1, xs2, rfl, rfl, q1, q2, ?_, fun z => ?_, fun _ z => ?_, fun _ _ => p.tup S (r1.append r2)⟩
      · rw [l1, l2]
        exact sz_line hz
      · subst z
        have : _ = [] := List.eq_nil_of_length_eq_zero (l1.symm.trans rfl)
        subst this
        exact p _ F H (Ext.refl S) b2
      · subst z
        have : _ = [] := List.eq_nil_of_length_eq_zero (l2.symm.trans rfl)
        subst this
        rw [List.append_nil] at p
        exact p _ F H (Ext.refl S) b1
    · exact p.elim
  · exact p.elim

def subD : D → D → R D
  | .int i, .int j => .ok (.int (i - j))
  | _, _ => .bad
theorem subD_ne : NoEx2 subD := fun x y c vs h => by
  unfold subD at h
  split at h <;> cases h
theorem op_subD {X : Cx} {G : GE} : OpR X (binaryOp .Sub) (r2 G subD) := by
  intro pins s σ H x y v u Q I rx ry h
  obtain ⟨F, d, e, S, bd, be, p⟩ := h
  unfold subD at p
  split at p
  · exact op_sub pins s σ H x y v u Q I rx ry ⟨_, _, bor_int bd, bor_int be, p.int S⟩
  · exact p.elim

/-! ### * -/
def repS (x : List Nat) (n : Nat) : List Nat := (List.replicate n x).flatten
def mulD : D → D → R D
  | .int i, .int j => @ite _ (i.natAbs < 18446744073709551616 ∨ j.natAbs < 18446744073709551616 ∨ i.natAbs.log2 + j.natAbs.log2 < 1000000) (Classical.propDecidable _) (.ok (.int (i * j))) .bad
  | .str x, .int j => @ite _ (j < 9223372036854775808 ∧ -9223372036854775808 ≤ j ∧ x.length * j.toNat ≤ SZ) (Classical.propDecidable _) (.ok (.str (repS x j.toNat))) .bad
  | .lst x, .int j => @ite _ (j < 9223372036854775808 ∧ -9223372036854775808 ≤ j ∧ x.length * j.toNat ≤ SZ) (Classical.propDecidable _) (.ok (.lst ((List.replicate j.toNat x).flatten))) .bad
  | _, _ => .bad
theorem mulD_ne : NoEx2 mulD := fun x y c vs h => by
  unfold mulD at h
  split at h <;> first | cases h | (split at h <;> cases h)
theorem okS_rep {x : List Nat} (n : Nat) (h : okS x = true) : okS (repS x n) = true := by
  unfold okS repS at *
  rw [List.all_eq_true] at *
  intro c hc
  obtain ⟨l, hl, hcl⟩ := List.mem_flatten.mp hc
  rw [List.mem_replicate] at hl
  rw [hl.2] at hcl
  exact h c hcl
theorem fold_rep (x : List Nat) : ∀ (n : Nat) (acc : List Nat), List.foldl (· ++ ·) acc.toArray (List.replicate n x.toArray) = (acc ++ repS x n).toArray
  | 0, acc => by simp [repS]
  | n + 1, acc => by
    rw [List.replicate_succ, List.foldl_cons]
    have e : acc.toArray ++ x.toArray = (acc ++ x).toArray := by simp
    rw [e, fold_rep x n (acc ++ x)]
    unfold repS
    rw [List.replicate_succ, List.flatten_cons, List.append_assoc]
theorem list_mulW (l : Addr) (items : Array Value) (n : Nat) (sl : Array (Option Value)) (x : Int) (u : Tok) (hc0 : ¬(!Builtin.List.listFitsIndex x) = true) (hc1 : ¬items.size * x.toNat > (2 ^ 63 - 1) / 8) (hc2 : ¬Builtin.List.listTooLong (items.size * x.toNat) = true) :
    Meets (Builtin.«list.__mul__» ⟨[.ref l, .int x u], []⟩) (fun _ R s => s.heap.get? l = some { cls := .type "list", dict := none, data := .seq items n, slots := sl } ∧ R (.ok (.ret (Value.ref s.heap.objs.size))) { s with heap := s.heap.push { cls := Value.type "list", data := Data.seq (List.foldl (fun x1 x2 => x1 ++ x2) #[] (List.replicate (if items.isEmpty = true then 0 else x.toNat) items)) }, toks := s.toks }) :=
  .of_wp fun prog w A R s h => by
    obtain ⟨hp, g, d, tk, os⟩ := s; obtain ⟨hl, h⟩ := h
    have hsz := AutoListH.joined_fits hc2
    wp_walk using AutoSeq1.wpAny_loadPart' hl; refine wpAny_ite_false (decide_eq_false (Nat.not_lt.mpr hsz)) ?_; wp_walk using AutoSeq1.wpAny_loadPart' hl; exact ⟨_, rfl, h⟩
theorem int_rmulW (a : Int) (t : Tok) (l : Addr) (items : Array Value) (n : Nat) (sl : Array (Option Value)) :
    Meets (Builtin.«int.__rmul__» ⟨[.int a t, .ref l], []⟩) (fun _ R s => s.heap.get? l = some { cls := .type "list", dict := none, data := .seq items n, slots := sl } ∧ R (.ok (.ret Value.notImplemented)) s) :=
  .of_wp fun prog w A R s h => by obtain ⟨hp, g, d, tk, os⟩ := s; obtain ⟨hl, h⟩ := h; wp_walk using AutoSeq1.wpAny_loadPart' hl; exact ⟨_, rfl, h⟩
/-- a list times an int, read -/
def rRepL (K : PySem.W.Frag) : R2 := fun x y H Q => ∃ l k xs, x = .ref l ∧ y = .int k ∧ SqL K H l xs ∧ -(2 ^ 63) ≤ k ∧ k < 2 ^ 63 ∧ xs.length * k.toNat ≤ sizeLine ∧
  ∀ p, H p = none → Q (.ref p) (upd H p (.lst (List.replicate k.toNat xs).flatten))
theorem op_repL {X : Cx} : OpR X (binaryOp .Mult) (rRepL X.K) := by
  intro pins s σ H x y v u Q I rx ry h
  obtain ⟨l, k, xs, rfl, rfl, hH, h1, h2, hz, q⟩ := h
  cases rx
  obtain ⟨t, rfl⟩ := ry
  obtain ⟨its, r, ⟨o, n, e, c1, d1, e1⟩, z⟩ := I.list hH
  obtain ⟨cls, dd, data, sl⟩ := o
  simp only at c1 d1 e1
  subst c1 d1 e1
  have hl := r.length
  have hlen : its.toArray.size * k.toNat ≤ sizeLine := by rw [List.size_toArray, ← hl]; exact hz
  have hcap : ¬ its.toArray.size * k.toNat > (2 ^ 63 - 1) / 8 := by
    have : (sizeLine : Nat) ≤ (2 ^ 63 - 1) / 8 := by decide
    omega
  have hfit : ¬ (!Builtin.List.listFitsIndex k) = true := by
    rw [fitsIndex_both h1 h2]
    exact Bool.false_ne_true
  have hlong : ¬ Builtin.List.listTooLong (its.toArray.size * k.toNat) = true := by
    rw [notLongL hlen]
    exact Bool.false_ne_true
  have hnew : List.foldl (fun x1 x2 => x1 ++ x2) #[] (List.replicate (if its.toArray.isEmpty = true then 0 else k.toNat) its.toArray) = (List.replicate k.toNat its).flatten.toArray := by
    have f0 : ∀ m : Nat, List.foldl (fun x1 x2 => x1 ++ x2) #[] (List.replicate m its.toArray) = (List.replicate m its).flatten.toArray := fun m => by
      have := foldl_rep its m []
      rw [List.nil_append] at this
      exact this
    rw [f0]
    cases its with
    | nil => simp
    | cons a r' => rw [if_neg (by simp)]
  refine wpAny_binaryOp_repeat_ref (T := "list") (U := "int") (by decide) ⟨_, e, rfl⟩ (fun s' => typeIs_int s' k t) noFill_list_mul F.fills_int_mul F.slot_int_rmul repeat_list F.slot_int_index.lookup
    (call_meets F.slot_int_rmul (typeIs_int s k t) F.entry_int_rmul (F.args_int_rmul_2 _ _) (int_rmulW k t l its.toArray n sl)
      ⟨e, rfl, ⟨_, e, rfl⟩, call_meets F.slot_list_mul ⟨_, e, rfl⟩ F.entry_list_mul (F.args_list_mul_2 _ _) (list_mulW l its.toArray n sl k t hfit hcap hlong) ⟨e, ?_⟩⟩)
  rw [hnew]
  exact ⟨.ref _, _, I.lnew (t' := s.toks) (r.rep k.toNat) (by rw [PyProof.Rows.lm_len_rep_flat, Nat.mul_comm]; exact hz), rfl, q _ I.fresh⟩
theorem RepL.rep {G : GE} {H : Hp} {ds : List D} {vs : List V} (r : RepL G H ds vs) : ∀ n, RepL G H (List.replicate n ds).flatten (List.replicate n vs).flatten
  | 0 => RepL.nil
  | n + 1 => by
    rw [List.replicate_succ, List.replicate_succ, List.flatten_cons, List.flatten_cons]
    exact r.append (RepL.rep r n)
theorem op_mulD {X : Cx} {C : CT} (hK : X.K = C.G.K) : OpR X (binaryOp .Mult) (r2 C.G mulD) := by
  intro pins s σ H x y v u Q I rx ry h
  obtain ⟨F, d, e, S, bd, be, p⟩ := h
  unfold mulD at p
  split at p
  · split at p
    · rename_i i j hz
      by_cases hw : CMulW i j
      · exact op_mulW pins s σ H x y v u Q I rx ry ⟨_, _, bor_int bd, bor_int be, hw, p.int S⟩
      · refine op_mul pins s σ H x y v u Q I rx ry ⟨_, _, bor_int bd, bor_int be, ?_, p.int S⟩
        rcases hz with hz | hz | hz
        · exact .inl ⟨by omega, by omega⟩
        · exact .inr ⟨by omega, by omega⟩
        · exact absurd hz hw
    · exact p.elim
  · split at p
    · rename_i zs j hz
      obtain ⟨e1, k1⟩ := bor_str bd
      have e2 := bor_int be
      subst e1 e2
      obtain ⟨t, rfl⟩ := rx
      obtain ⟨t', rfl⟩ := ry
      have fin : ∀ tk tk', EP X pins σ Q (.str ⟨(repS zs j.toNat).toArray⟩ tk) { s with toks := tk' } := fun tk tk' => ⟨.str ⟨(repS zs j.toNat).toArray⟩, H, I.tok _, ⟨_, rfl⟩, p.str S (okS_rep _ k1)⟩
      have hlen : (⟨zs.toArray⟩ : Str).length = zs.length := by show Array.size _ = _; rw [List.size_toArray]
      have hlt : ∀ n : Nat, n ≤ SZ → Builtin.Str.tooLong n = false := fun n hn => by
        unfold Builtin.Str.tooLong
        exact decide_eq_false (by have := sz_line hn; omega)
      refine PySem.P.mul_str ?_ (fun h1 h2 => ?_) (fun h1 h2 => ?_) ?_
      · rw [decide_eq_false (by omega), decide_eq_false (by omega)]
        rfl
      · rw [hlen]
        intro z
        have h3 : 1 ≤ j := by omega
        have h4 : (2 ^ 63 - 1) / j * j ≤ 2 ^ 63 - 1 := Int.ediv_mul_le _ (by omega)
        have h5 : ((2 ^ 63 - 1) / j + 1) * j ≤ (zs.length : Int) * j := Int.mul_le_mul_of_nonneg_right (by omega) (by omega)
        have h6 : (2 ^ 63 - 1 : Int) < ((2 ^ 63 - 1) / j + 1) * j := Int.lt_ediv_add_one_mul_self _ (by omega)
        have h7 : ((zs.length * j.toNat : Nat) : Int) = (zs.length : Int) * j := by
          rw [Int.natCast_mul, Int.toNat_of_nonneg (by omega)]
        have h8 : zs.length * j.toNat ≤ 16777216 := by have := hz.2.2; rw [sz_is] at this; exact this
        omega
      · rw [hlen]
        exact hlt _ hz.2.2
      · split
        · rename_i hn
          have h0 : j.toNat = 0 := by omega
          have f := fin s.toks (s.toks + 1)
          rw [h0] at f
          refine ⟨?_, ?_⟩
          · first | exact rfl | exact True.intro | decide
          · exact f
        · split
          · rename_i hn hc
            rw [hlen] at hc
            have f : repS zs j.toNat = zs := by
              rw [Bool.or_eq_true] at hc
              rcases hc with hc | hc
              · have h1 : j = 1 := by simpa using hc
                subst h1
                simp [repS]
              · have h1 : zs = [] := by simpa using hc
                subst h1
                unfold repS
                simp
            have g := fin t s.toks
            rw [f] at g
            exact g
          · have g := fin s.toks (s.toks + 1)
            refine ⟨?_, ?_⟩
            · rename_i h1 h2
              have e3 := fold_rep zs j.toNat []
              rw [List.nil_append] at e3
              have e4 : (List.replicate j.toNat (⟨zs.toArray⟩ : Str).cps).foldl (· ++ ·) #[] = (repS zs j.toNat).toArray := e3
              rw [e4]
              show Array.size _ ≤ _
              rw [List.size_toArray]
              unfold repS
              rw [List.length_flatten, List.map_replicate, List.sum_replicate_nat]
              have h8 : zs.length * j.toNat ≤ SZ := hz.2.2
              rw [Nat.mul_comm]
              exact sz_line h8
            · have e3 := fold_rep zs j.toNat []
              rw [List.nil_append] at e3
              have e4 : (List.replicate j.toNat (⟨zs.toArray⟩ : Str).cps).foldl (· ++ ·) #[] = (repS zs j.toNat).toArray := e3
              rw [e4]
              exact g
    · exact p.elim
  · split at p
    · rename_i hz
      obtain ⟨a1, xs1, e1, q1, r1⟩ := bor_lst S bd
      rw [← hK] at q1
      refine op_repL pins s σ H x y v u Q I rx ry ⟨a1, _, xs1, e1, bor_int be, q1, by omega, by omega, ?_, p.lst S (r1.rep _)⟩
      rw [r1.length]
      exact sz_line hz.2.2
    · exact p.elim
  · exact p.elim

/-! ### // % ** and the rest -/
def fdivD : D → D → R D
  | .int i, .int j => if 0 < j ∧ j.natAbs.log2 < 9000 then .ok (.int (i / j)) else if j < 0 ∧ j.natAbs.log2 < 9000 then .ok (.int (i.fdiv j)) else .bad
  | _, _ => .bad
theorem fdivD_ne : NoEx2 fdivD := fun x y c vs h => by
  unfold fdivD at h
  split at h <;> first | cases h | (split at h <;> first | cases h | (split at h <;> cases h))
theorem op_fdivD {X : Cx} {G : GE} : OpR X (binaryOp .FloorDiv) (r2 G fdivD) := by
  intro pins s σ H x y v u Q I rx ry h
  obtain ⟨F, d, e, S, bd, be, p⟩ := h
  unfold fdivD at p
  split at p
  · split at p
    · rename_i hz
      exact op_fdivW pins s σ H x y v u Q I rx ry ⟨_, _, bor_int bd, bor_int be, hz, p.int S⟩
    · split at p
      · rename_i i j _ hz
        have e1 := bor_int bd
        have e2 := bor_int be
        subst e1 e2
        obtain ⟨t, rfl⟩ := rx
        obtain ⟨t', rfl⟩ := ry
        exact floordiv_int (by omega) ⟨.int (i.fdiv j), H, I.tok _, ⟨_, rfl⟩, p.int S⟩ (.inl (PyProof.noPylong_of_log2 hz.2))
      · exact p.elim
  · exact p.elim
def modD : D → D → R D
  | .int i, .int j => if 0 < j then .ok (.int (i % j)) else .bad
  | _, _ => .bad
theorem modD_ne : NoEx2 modD := fun x y c vs h => by
  unfold modD at h
  split at h <;> first | cases h | (split at h <;> cases h)
theorem op_modD {X : Cx} {G : GE} : OpR X (binaryOp .Mod) (r2 G modD) := by
  intro pins s σ H x y v u Q I rx ry h
  obtain ⟨F, d, e, S, bd, be, p⟩ := h
  unfold modD at p
  split at p
  · split at p
    · rename_i hz
      exact op_mod pins s σ H x y v u Q I rx ry ⟨_, _, bor_int bd, bor_int be, hz, p.int S⟩
    · exact p.elim
  · exact p.elim
def powD : D → D → R D
  | .int i, .int j => if 0 ≤ j ∧ j ≤ 1000000 ∧ i.natAbs < 18446744073709551616 then .ok (.int (i ^ j.toNat)) else .bad
  | _, _ => .bad
theorem powD_ne : NoEx2 powD := fun x y c vs h => by
  unfold powD at h
  split at h <;> first | cases h | (split at h <;> cases h)
theorem op_powD {X : Cx} {G : GE} : OpR X (binaryOp .Pow) (r2 G powD) := by
  intro pins s σ H x y v u Q I rx ry h
  obtain ⟨F, d, e, S, bd, be, p⟩ := h
  unfold powD at p
  split at p
  · split at p
    · rename_i hz
      exact op_pow pins s σ H x y v u Q I rx ry ⟨_, _, bor_int bd, bor_int be, hz, p.int S⟩
    · exact p.elim
  · exact p.elim
def negD : D → R D
  | .int i => .ok (.int (-i))
  | _ => .bad
theorem negD_ne : NoEx1 negD := fun x c vs h => by
  unfold negD at h
  split at h <;> cases h
theorem un_negD {X : Cx} {G : GE} : UnR X (unaryOp .USub) (r1 G negD) := by
  intro pins s σ H x v Q I rx h
  obtain ⟨F, d, S, bd, p⟩ := h
  unfold negD at p
  split at p
  · exact un_neg pins s σ H x v Q I rx ⟨_, bor_int bd, p.int S⟩
  · exact p.elim

/-! ### order -/
def ltS (x y : List Nat) : Bool := decide (x < y)
def ltD : D → D → R D
  | .int i, .int j => .ok (.bl (decide (i < j)))
  | .str x, .str y => .ok (.bl (ltS x y))
  | _, _ => .bad
def leD : D → D → R D
  | .int i, .int j => .ok (.bl (decide (i ≤ j)))
  | .str x, .str y => .ok (.bl (!ltS y x))
  | _, _ => .bad
def gtD : D → D → R D
  | .int i, .int j => .ok (.bl (decide (j < i)))
  | .str x, .str y => .ok (.bl (ltS y x))
  | _, _ => .bad
def geD : D → D → R D
  | .int i, .int j => .ok (.bl (decide (j ≤ i)))
  | .str x, .str y => .ok (.bl (!ltS x y))
  | _, _ => .bad
theorem ltD_ne : NoEx2 ltD := fun x y c vs h => by unfold ltD at h; split at h <;> cases h
theorem leD_ne : NoEx2 leD := fun x y c vs h => by unfold leD at h; split at h <;> cases h
theorem gtD_ne : NoEx2 gtD := fun x y c vs h => by unfold gtD at h; split at h <;> cases h
theorem geD_ne : NoEx2 geD := fun x y c vs h => by unfold geD at h; split at h <;> cases h
theorem op_ltD {X : Cx} {G : GE} : OpR X (compareOp .Lt) (r2 G ltD) := by
  intro pins s σ H x y v u Q I rx ry h
  obtain ⟨F, d, e, S, bd, be, p⟩ := h
  unfold ltD at p
  split at p
  · exact op_lt pins s σ H x y v u Q I rx ry ⟨_, _, bor_int bd, bor_int be, p.bl S⟩
  · exact op_lt_str pins s σ H x y v u Q I rx ry ⟨_, _, (bor_str bd).1, (bor_str be).1, p.bl S⟩
  · exact p.elim
theorem op_leD {X : Cx} {G : GE} : OpR X (compareOp .LtE) (r2 G leD) := by
  intro pins s σ H x y v u Q I rx ry h
  obtain ⟨F, d, e, S, bd, be, p⟩ := h
  unfold leD at p
  split at p
  · exact op_le pins s σ H x y v u Q I rx ry ⟨_, _, bor_int bd, bor_int be, p.bl S⟩
  · exact op_le_str pins s σ H x y v u Q I rx ry ⟨_, _, (bor_str bd).1, (bor_str be).1, p.bl S⟩
  · exact p.elim
theorem op_gtD {X : Cx} {G : GE} : OpR X (compareOp .Gt) (r2 G gtD) := by
  intro pins s σ H x y v u Q I rx ry h
  obtain ⟨F, d, e, S, bd, be, p⟩ := h
  unfold gtD at p
  split at p
  · exact op_gt pins s σ H x y v u Q I rx ry ⟨_, _, bor_int bd, bor_int be, p.bl S⟩
  · exact op_gt_str pins s σ H x y v u Q I rx ry ⟨_, _, (bor_str bd).1, (bor_str be).1, p.bl S⟩
  · exact p.elim
theorem op_geD {X : Cx} {G : GE} : OpR X (compareOp .GtE) (r2 G geD) := by
  intro pins s σ H x y v u Q I rx ry h
  obtain ⟨F, d, e, S, bd, be, p⟩ := h
  unfold geD at p
  split at p
  · exact op_ge pins s σ H x y v u Q I rx ry ⟨_, _, bor_int bd, bor_int be, p.bl S⟩
  · exact op_ge_str pins s σ H x y v u Q I rx ry ⟨_, _, (bor_str bd).1, (bor_str be).1, p.bl S⟩
  · exact p.elim

/-! ### == -/
mutual
def eqv : D → D → Bool
  | .non, .non => true
  | .bl a, .bl b => a == b
  | .bl a, .int j => (if a then 1 else 0) == j
  | .int i, .bl b => i == (if b then 1 else 0)
  | .int i, .int j => i == j
  | .str x, .str y => x == y
  | .lst xs, .lst ys => eqvL xs ys
  | .tup xs, .tup ys => eqvL xs ys
  | _, _ => false
def eqvL : List D → List D → Bool
  | [], [] => true
  | x :: xs, y :: ys => eqv x y && eqvL xs ys
  | _, _ => false
end
mutual
/-- how deep; 99 for what is not compared -/
def dep : D → Nat
  | .non => 0 | .bl _ => 0 | .int _ => 0 | .str _ => 0
  | .lst xs => depL xs + 1 | .tup xs => depL xs + 1
  | _ => 99
def depL : List D → Nat
  | [] => 0
  | x :: xs => max (dep x) (depL xs)
end
mutual
def py : D → PyData
  | .non => .none | .bl b => .bool b | .int i => .int i | .str x => .str ⟨x.toArray⟩
  | .lst xs => .list (pyL xs) | .tup xs => .tuple (pyL xs)
  | _ => .none
def pyL : List D → List PyData
  | [] => []
  | x :: xs => py x :: pyL xs
end
mutual
theorem py_eqv : ∀ (d e : D), dep d ≤ 64 → dep e ≤ 64 → PyData.eqv (py d) (py e) = eqv d e := by
  intro d e hd he
  cases d with
  | lst xs => cases e with
    | lst ys =>
      unfold dep at hd he
      simp only [py, PyData.eqv, eqv]
      exact py_eqvL xs ys (by omega) (by omega)
    | dic ks vs => simp [dep] at he
    | obj c vs => simp [dep] at he
    | exc c vs => simp [dep] at he
    | _ => simp [py, PyData.eqv, eqv]
  | tup xs => cases e with
    | tup ys =>
      unfold dep at hd he
      simp only [py, PyData.eqv, eqv]
      exact py_eqvL xs ys (by omega) (by omega)
    | dic ks vs => simp [dep] at he
    | obj c vs => simp [dep] at he
    | exc c vs => simp [dep] at he
    | _ => simp [py, PyData.eqv, eqv]
  | dic ks vs => simp [dep] at hd
  | obj c vs => simp [dep] at hd
  | exc c vs => simp [dep] at hd
  | str x => cases e with
    | str y =>
      simp only [py, PyData.eqv, eqv]
      rw [Bool.eq_iff_iff]
      simp
    | dic ks vs => simp [dep] at he
    | obj c vs => simp [dep] at he
    | exc c vs => simp [dep] at he
    | _ => simp [py, PyData.eqv, eqv]
  | _ => cases e with
    | dic ks vs => simp [dep] at he
    | obj c vs => simp [dep] at he
    | exc c vs => simp [dep] at he
    | _ => simp [py, PyData.eqv, eqv]
theorem py_eqvL : ∀ (xs ys : List D), depL xs ≤ 63 → depL ys ≤ 63 → PyData.eqvAll (pyL xs) (pyL ys) = eqvL xs ys
  | [], [], _, _ => by simp [pyL, PyData.eqvAll, eqvL]
  | [], y :: ys, _, _ => by simp [pyL, PyData.eqvAll, eqvL]
  | x :: xs, [], _, _ => by simp [pyL, PyData.eqvAll, eqvL]
  | x :: xs, y :: ys, hx, hy => by
    unfold depL at hx hy
    simp only [pyL, PyData.eqvAll, eqvL]
    rw [py_eqv x y (by omega) (by omega), py_eqvL xs ys (by omega) (by omega)]
end
mutual
theorem rep_dp {G : GE} {K : PySem.W.Frag} (hK : K = G.K) {H : Hp} : ∀ {d : D} {v : V}, dep d ≤ 64 → Rep G H d v → Dp K H v (py d) ∧ (py d).canLay0 = true ∧ (py d).depth ≤ dep d
  | .non, v, _, h => by have := rep_non.mp h; subst this; exact ⟨.non, rfl, Nat.le_refl _⟩
  | .bl b, v, _, h => by have := rep_bl.mp h; subst this; exact ⟨.bl b, rfl, Nat.le_refl _⟩
  | .int b, v, _, h => by have := rep_int.mp h; subst this; exact ⟨.int b, rfl, Nat.le_refl _⟩
  | .str x, v, _, h => by
    obtain ⟨rfl, k⟩ := rep_str.mp h
    refine ⟨.str _, ?_, Nat.le_refl _⟩
    show PyData.canLay0 (.str _) = true
    unfold PyData.canLay0 PyData.strOk
    unfold okS at k
    simpa using k
  | .lst xs, v, hd, h => by
    obtain ⟨a, vs, rfl, q, r⟩ := rep_lst.mp h
    unfold dep at hd
    obtain ⟨h1, h2, h3⟩ := repL_dp hK (by omega) r
    subst hK
    refine ⟨.lst q h1, ?_, ?_⟩
    · unfold py PyData.canLay0; exact h2
    · unfold py PyData.depth dep; omega
  | .tup xs, v, hd, h => by
    obtain ⟨a, vs, rfl, q, r⟩ := rep_tup.mp h
    unfold dep at hd
    obtain ⟨h1, h2, h3⟩ := repL_dp hK (by omega) r
    subst hK
    refine ⟨.tup q h1, ?_, ?_⟩
    · unfold py PyData.canLay0; exact h2
    · unfold py PyData.depth dep; omega
  | .dic _ _, _, hd, _ => by simp [dep] at hd
  | .obj _ _, _, hd, _ => by simp [dep] at hd
  | .exc _ _, _, hd, _ => by simp [dep] at hd
theorem repL_dp {G : GE} {K : PySem.W.Frag} (hK : K = G.K) {H : Hp} : ∀ {ds : List D} {vs : List V}, depL ds ≤ 63 → RepL G H ds vs → DpAll K H vs (pyL ds) ∧ PyData.canLayAll0 (pyL ds) = true ∧ PyData.depthAll (pyL ds) ≤ depL ds
  | [], vs, _, h => by unfold RepL at h; subst h; exact ⟨.nil, rfl, Nat.le_refl _⟩
  | d :: ds, vs, hd, h => by
    unfold RepL at h
    obtain ⟨v, r, rfl, h1, h2⟩ := h
    unfold depL at hd
    obtain ⟨a1, a2, a3⟩ := rep_dp hK (by omega) h1
    obtain ⟨b1, b2, b3⟩ := repL_dp hK (by omega) h2
    refine ⟨.cons a1 b1, ?_, ?_⟩
    · unfold pyL PyData.canLayAll0; rw [a2, b2]; rfl
    · unfold pyL PyData.depthAll depL; omega
end
theorem bor_dp {G : GE} {K : PySem.W.Frag} (hK : K = G.K) {F H : Hp} (S : Same F H) {d : D} {v : V} (hd : dep d ≤ 64) (h : Bor G F H d v) : Dp K H v (py d) ∧ SeqAt.shaped (py d) = true := by
  have fin : ∀ {d : D} {v : V}, dep d ≤ 64 → Rep G H d v → Dp K H v (py d) ∧ SeqAt.shaped (py d) = true := fun hd h => by
    obtain ⟨a, b, c⟩ := rep_dp hK hd h
    refine ⟨a, ?_⟩
    unfold SeqAt.shaped
    rw [b, Bool.true_and]
    exact decide_eq_true (by omega)
  rcases h with h | ⟨a, rfl, hn, q⟩
  · exact fin hd (Rep.mono S h)
  · exact fin hd (q.rep1 (by cases d <;> first | rfl | (simp [dep] at hd)) S fun _ e => e)
def eqD (d e : D) : R D := if dep d ≤ 64 ∧ dep e ≤ 64 then .ok (.bl (eqv d e)) else .bad
def neD (d e : D) : R D := if dep d ≤ 64 ∧ dep e ≤ 64 then .ok (.bl (!eqv d e)) else .bad
theorem eqD_ne : NoEx2 eqD := fun x y c vs h => by unfold eqD at h; split at h <;> cases h
theorem neD_ne : NoEx2 neD := fun x y c vs h => by unfold neD at h; split at h <;> cases h
theorem op_eqDD {X : Cx} {C : CT} (hK : X.K = C.G.K) (hu : X.A.units + 64 < cLine) : OpR X (compareOp .Eq) (r2 C.G eqD) := by
  intro pins s σ H x y v u Q I rx ry h
  obtain ⟨F, d, e, S, bd, be, p⟩ := h
  unfold eqD at p
  split at p
  · rename_i hz
    obtain ⟨a1, a2⟩ := bor_dp hK S hz.1 bd
    obtain ⟨b1, b2⟩ := bor_dp hK S hz.2 be
    refine op_eqD hu pins s σ H x y v u Q I rx ry ⟨_, _, a1, b1, a2, b2, ?_⟩
    rw [py_eqv d e hz.1 hz.2]
    exact p.bl S
  · exact p.elim
theorem op_neDD {X : Cx} {C : CT} (hK : X.K = C.G.K) (hu : X.A.units + 64 < cLine) : OpR X (compareOp .NotEq) (r2 C.G neD) := by
  intro pins s σ H x y v u Q I rx ry h
  obtain ⟨F, d, e, S, bd, be, p⟩ := h
  unfold neD at p
  split at p
  · rename_i hz
    obtain ⟨a1, a2⟩ := bor_dp hK S hz.1 bd
    obtain ⟨b1, b2⟩ := bor_dp hK S hz.2 be
    refine op_neD hu pins s σ H x y v u Q I rx ry ⟨_, _, a1, b1, a2, b2, ?_⟩
    rw [py_eqv d e hz.1 hz.2]
    exact p.bl S
  · exact p.elim
end
end Z
namespace Z
noncomputable section
open PySem PySem.Spec PySem.P PyProof.Rows L2

/-! ### dicts as data -/
def look : List Key → List D → Key → Option D
  | k :: ks, v :: vs, j => if k = j then some v else look ks vs j
  | _, _, _ => none
def putV : List Key → List D → Key → D → List D
  | k :: ks, v :: vs, j, w => if k = j then w :: vs else v :: putV ks vs j w
  | _, _, _, w => [w]
def has (ks : List Key) (j : Key) : Bool := ks.any fun k => decide (k = j)
def putKs (ks : List Key) (j : Key) : List Key := if has ks j = true then ks else ks ++ [j]
def dropV : List Key → List D → Key → List D
  | k :: ks, v :: vs, j => if k = j then vs else v :: dropV ks vs j
  | _, _, _ => []
/-- a key -/
def keyD : D → Option Key
  | .int i => some (.inl i)
  | .str x => some (.inr ⟨x.toArray⟩)
  | _ => none
section
variable {G : GE} {F H : Hp}
theorem keyD_rep {d : D} {k : Key} {v : V} (h : keyD d = some k) (r : Bor G F H d v) : v = kV k := by
  cases d <;> simp [keyD] at h
  · subst h; exact bor_int r
  · subst h; exact (bor_str r).1
theorem look_val : ∀ {kvs : List (Key × V)} {ds : List D} {k : Key}, RepL G F ds (kvs.map (·.2)) → (∀ d, look (kvs.map (·.1)) ds k = some d → ∃ v, valV kvs k = some v ∧ Rep G F d v) ∧ (look (kvs.map (·.1)) ds k = none → valV kvs k = none)
  | [], ds, k, r => ⟨fun d h => by simp [look] at h, fun _ => rfl⟩
  | p :: kvs, [], k, r => by
    have := r.length
    simp at this
  | p :: kvs, d :: ds, k, r => by
    simp only [List.map_cons] at r ⊢
    unfold RepL at r
    obtain ⟨v, t, e, h1, h2⟩ := r
    injection e with e1 e2
    subst e1 e2
    unfold look
    by_cases hk : p.1 = k
    · rw [if_pos hk, valV_pos hk]
      exact ⟨fun d' h => by cases h; exact ⟨_, rfl, h1⟩, fun h => by cases h⟩
    · rw [if_neg hk, valV_neg hk]
      exact look_val h2
theorem look_some {kvs : List (Key × V)} {ds : List D} {k : Key} (r : RepL G F ds (kvs.map (·.2))) : (look (kvs.map (·.1)) ds k).isSome = (valV kvs k).isSome := by
  obtain ⟨h1, h2⟩ := look_val (k := k) r
  cases q : look (kvs.map (·.1)) ds k with
  | none => rw [h2 q]; rfl
  | some d => obtain ⟨v, e, _⟩ := h1 d q; rw [e]; rfl
theorem look_has : ∀ {ks : List Key} {ds : List D} {k : Key}, ds.length = ks.length → (look ks ds k).isSome = has ks k
  | [], ds, k, h => by simp [look, has]
  | j :: ks, [], k, h => by simp at h
  | j :: ks, d :: ds, k, h => by
    have ih := look_has (ks := ks) (ds := ds) (k := k) (by simpa using h)
    unfold look has
    rw [List.any_cons]
    by_cases e : j = k
    · rw [if_pos e, decide_eq_true e]; rfl
    · rw [if_neg e, decide_eq_false e, ih]; rfl
end

/-! ### in -/
/-- x stands in y, side by side -/
def inS (x y : List Nat) : Bool := (List.range (y.length + 1)).any fun i => (y.drop i).take x.length == x
def flat : D → Bool
  | .non => true | .bl _ => true | .int _ => true | .str _ => true
  | _ => false
def inD (neg : Bool) (x y : D) : R D := match x, y with
  | .str x, .str y => .ok (.bl (xor neg (inS x y)))
  | x, .lst ys => if dep x ≤ 64 ∧ depL ys ≤ 63 then .ok (.bl (xor neg (ys.any fun y => eqv y x))) else .bad
  | x, .tup ys => if flat x = true ∧ ys.all flat = true then .ok (.bl (xor neg (ys.any fun y => eqv y x))) else .bad
  | x, .dic ks vs => match keyD x with
    | some k => .ok (.bl (xor neg (has ks k)))
    | none => .bad
  | _, _ => .bad
theorem inD_ne {neg : Bool} : NoEx2 (inD neg) := fun x y c vs h => by
  unfold inD at h
  split at h <;> first | cases h | (split at h <;> cases h)
theorem pyL_any (x : D) (hx : dep x ≤ 64) : ∀ ys : List D, depL ys ≤ 63 → (pyL ys).any (fun z => PyData.eqv z (py x)) = ys.any fun y => eqv y x
  | [], _ => by simp [pyL]
  | y :: ys, h => by
    unfold depL at h
    simp only [pyL, List.any_cons]
    rw [py_eqv y x (by omega) hx, pyL_any x hx ys (by omega)]
theorem inS_iff (x y : List Nat) : inS x y = true ↔ ∃ i, i + x.length ≤ y.length ∧ (y.drop i).take x.length = x := by
  unfold inS
  rw [List.any_eq_true]
  constructor
  · rintro ⟨i, hi, e⟩
    have e : (y.drop i).take x.length = x := by simpa using e
    have h := congrArg List.length e
    rw [List.length_take, List.length_drop] at h
    have hi : i < y.length + 1 := by simpa using hi
    exact ⟨i, by omega, e⟩
  · rintro ⟨i, hi, e⟩
    exact ⟨i, by simp; omega, by simpa using e⟩
theorem flat_bor {G : GE} {F H : Hp} {d : D} {v : V} (h : flat d = true) (r : Bor G F H d v) : flatV v = true := by
  cases d <;> simp [flat] at h
  · rw [bor_non r]; rfl
  · rw [bor_bl r]; rfl
  · rw [bor_int r]; rfl
  · rw [(bor_str r).1]; rfl
theorem flat_eqv {G : GE} {F H F' H' : Hp} {d e : D} {v u : V} (hd : flat d = true) (he : flat e = true) (r : Bor G F H d v) (q : Bor G F' H' e u) : eqV v u = eqv d e := by
  cases d <;> simp [flat] at hd <;> cases e <;> simp [flat] at he
  all_goals first
    | (rw [bor_non r]; first | rw [bor_non q] | rw [bor_bl q] | rw [bor_int q] | rw [(bor_str q).1]) <;> rfl
    | skip
  all_goals first
    | (rw [bor_bl r]; first | rw [bor_non q] | rw [bor_bl q] | rw [bor_int q] | rw [(bor_str q).1]) <;> rfl
    | skip
  all_goals first
    | (rw [bor_int r]; first | rw [bor_non q] | rw [bor_bl q] | rw [bor_int q] | rw [(bor_str q).1]) <;> rfl
    | skip
  all_goals first
    | (rw [(bor_str r).1]; first | rw [bor_non q] | rw [bor_bl q] | rw [bor_int q] | rw [(bor_str q).1]) <;> first | rfl | (unfold eqV eqv; rw [Bool.eq_iff_iff]; simp)
    | skip
theorem flat_all {G : GE} {F : Hp} : ∀ {ds : List D} {vs : List V}, ds.all flat = true → RepL G F ds vs → vs.all flatV = true
  | [], vs, _, r => by unfold RepL at r; subst r; rfl
  | d :: ds, vs, h, r => by
    unfold RepL at r
    obtain ⟨v, t, rfl, h1, h2⟩ := r
    rw [List.all_cons, Bool.and_eq_true] at h
    rw [List.all_cons, flat_bor (H := F) h.1 (.inl h1), flat_all h.2 h2]
    rfl
theorem flat_any {G : GE} {F F' H' : Hp} {x : D} {u : V} (hx : flat x = true) (q : Bor G F' H' x u) : ∀ {ds : List D} {vs : List V}, ds.all flat = true → RepL G F ds vs → inV u vs = ds.any fun y => eqv y x
  | [], vs, _, r => by unfold RepL at r; subst r; rfl
  | d :: ds, vs, h, r => by
    unfold RepL at r
    obtain ⟨v, t, rfl, h1, h2⟩ := r
    rw [List.all_cons, Bool.and_eq_true] at h
    have ih := flat_any hx q h.2 h2
    unfold inV at ih ⊢
    rw [List.any_cons, List.any_cons, ih, flat_eqv (H := F) h.1 hx (.inl h1) q]
theorem occ_inS (x y : List Nat) : (!(Builtin.Str.occurrences (⟨y.toArray⟩ : Str) ⟨x.toArray⟩ 0 (⟨y.toArray⟩ : Str).length 1).isEmpty) = inS x y := by
  rw [Bool.eq_iff_iff, StrLaws.found_iff, inS_iff]
  have l1 : (⟨y.toArray⟩ : Str).length = y.length := List.size_toArray
  have l2 : (⟨x.toArray⟩ : Str).length = x.length := List.size_toArray
  rw [l1, l2]
  refine exists_congr fun i => and_congr_right fun hi => ?_
  rw [StrLaws.subAt_eq, l2]
  simp
theorem op_inDD {X : Cx} {C : CT} (hK : X.K = C.G.K) (hu : X.A.units + 65 < cLine) : OpR X (compareOp .In) (r2 C.G (inD false)) := by
  intro pins s σ H x y v u Q I rx ry h
  obtain ⟨F, d, e, S, bd, be, p⟩ := h
  unfold inD at p
  split at p
  · rename_i a b
    refine op_in_str pins s σ H x y v u Q I rx ry ⟨_, _, (bor_str bd).1, (bor_str be).1, ?_⟩
    rw [occ_inS]
    simpa using p.bl S
  · split at p
    · rename_i hz
      obtain ⟨a1, a2⟩ := bor_dp hK S hz.1 bd
      obtain ⟨b1, b2⟩ := bor_dp hK S (by unfold dep; omega) be
      unfold py at b1 b2
      refine op_inD hu pins s σ H x y v u Q I rx ry ⟨_, _, a1, b1, a2, b2, ?_⟩
      rw [pyL_any _ hz.1 _ hz.2]
      simpa using p.bl S
    · exact p.elim
  · split at p
    · rename_i hz
      obtain ⟨a, vs, rfl, q, r⟩ := bor_tup S be
      rw [← hK] at q
      refine op_in_seq pins s σ H x _ v u Q I rx ry ⟨a, vs, rfl, .inr q, flat_bor hz.1 bd, flat_all hz.2 r, ?_⟩
      rw [if_neg Bool.false_ne_true, flat_any hz.1 bd hz.2 r]
      simpa using p.bl S
    · exact p.elim
  · split at p
    · rename_i k hk
      obtain ⟨a, kvs, rfl, q, e1, nd, r⟩ := bor_dic S be
      cases ry
      have ex := keyD_rep hk bd
      refine d_in (by omega) I (o := valV kvs k) (.inl ⟨kvs, k, q, ex, rfl⟩) rx fun s' I' => ?_
      refine ⟨.bl _, H, I', rfl, ?_⟩
      rw [← look_some r, look_has (by rw [List.length_map, ← r.length, List.length_map]), e1]
      simpa using p.bl S
    · exact p.elim
  · exact p.elim
theorem op_notInDD {X : Cx} {C : CT} (hK : X.K = C.G.K) (hu : X.A.units + 65 < cLine) : OpR X (compareOp .NotIn) (r2 C.G (inD true)) := by
  intro pins s σ H x y v u Q I rx ry h
  obtain ⟨F, d, e, S, bd, be, p⟩ := h
  unfold inD at p
  split at p
  · rename_i a b
    refine op_notin_str pins s σ H x y v u Q I rx ry ⟨_, _, (bor_str bd).1, (bor_str be).1, ?_⟩
    rw [occ_inS]
    simpa using p.bl S
  · split at p
    · rename_i hz
      obtain ⟨a1, a2⟩ := bor_dp hK S hz.1 bd
      obtain ⟨b1, b2⟩ := bor_dp hK S (by unfold dep; omega) be
      unfold py at b1 b2
      refine op_notInD hu pins s σ H x y v u Q I rx ry ⟨_, _, a1, b1, a2, b2, ?_⟩
      rw [pyL_any _ hz.1 _ hz.2]
      simpa using p.bl S
    · exact p.elim
  · split at p
    · rename_i hz
      obtain ⟨a, vs, rfl, q, r⟩ := bor_tup S be
      rw [← hK] at q
      refine op_notIn_seq pins s σ H x _ v u Q I rx ry ⟨a, vs, rfl, .inr q, flat_bor hz.1 bd, flat_all hz.2 r, ?_⟩
      rw [if_pos rfl, flat_any hz.1 bd hz.2 r]
      simpa using p.bl S
    · exact p.elim
  · split at p
    · rename_i k hk
      obtain ⟨a, kvs, rfl, q, e1, nd, r⟩ := bor_dic S be
      cases ry
      have ex := keyD_rep hk bd
      refine d_notIn (by omega) I (o := valV kvs k) (.inl ⟨kvs, k, q, ex, rfl⟩) rx fun s' I' => ?_
      refine ⟨.bl _, H, I', rfl, ?_⟩
      rw [← look_some r, look_has (by rw [List.length_map, ← r.length, List.length_map]), e1]
      simpa using p.bl S
    · exact p.elim
  · exact p.elim

/-! ### is None, not, and, or -/
def isNone : D → Bool
  | .non => true
  | _ => false
def isN (neg : Bool) (x y : D) : R D := match y with
  | .non => .ok (.bl (xor neg (isNone x)))
  | .bl b => (match x with
    | .bl a => .ok (.bl (xor neg (decide (a = b))))
    | _ => .bad)
  | _ => .bad
theorem isN_ne {neg : Bool} : NoEx2 (isN neg) := fun x y c vs h => by
  unfold isN at h
  split at h
  · cases h
  · split at h <;> cases h
  · cases h
theorem bor_isN {G : GE} {F H : Hp} (S : Same F H) {d : D} {v : V} (r : Bor G F H d v) : decide (v = .non) = isNone d := by
  cases d with
  | non => rw [bor_non r]; rfl
  | bl b => rw [bor_bl r]; rfl
  | int b => rw [bor_int r]; rfl
  | str b => rw [(bor_str r).1]; rfl
  | lst b => obtain ⟨a, xs, rfl, _⟩ := bor_lst S r; rfl
  | tup b => obtain ⟨a, xs, rfl, _⟩ := bor_tup S r; rfl
  | dic k b => obtain ⟨a, xs, rfl, _⟩ := bor_dic S r; rfl
  | obj k b => obtain ⟨a, C, dx, fs, ns, rfl, _⟩ := bor_obj S r; rfl
  | exc k b =>
    rcases r with r | ⟨_, _, _, r⟩
    · unfold Rep at r
      obtain ⟨a, C, ns, dx, rfl, _⟩ := r
      rfl
    · exact r.elim
theorem op_isND {X : Cx} {G : GE} : OpR X (compareOp .Is) (r2 G (isN false)) := by
  intro pins s σ H x y v u Q I rx ry h
  obtain ⟨F, d, e, S, bd, be, p⟩ := h
  unfold isN at p
  split at p
  · refine op_isN pins s σ H x y v u Q I rx ry ⟨bor_non be, ?_⟩
    rw [bor_isN S bd]
    simpa using p.bl S
  · split at p
    · exact op_isBl pins s σ H x y v u Q I rx ry ⟨_, _, bor_bl bd, bor_bl be, by simpa using p.bl S⟩
    · exact p.elim
  · exact p.elim
theorem op_notND {X : Cx} {G : GE} : OpR X (compareOp .IsNot) (r2 G (isN true)) := by
  intro pins s σ H x y v u Q I rx ry h
  obtain ⟨F, d, e, S, bd, be, p⟩ := h
  unfold isN at p
  split at p
  · refine op_notN pins s σ H x y v u Q I rx ry ⟨bor_non be, ?_⟩
    rw [bor_isN S bd]
    simpa using p.bl S
  · split at p
    · exact op_notBl pins s σ H x y v u Q I rx ry ⟨_, _, bor_bl bd, bor_bl be, by simpa using p.bl S⟩
    · exact p.elim
  · exact p.elim

def eAnd (fa fb : SS → R D) : SS → R D := fun s => (fa s).bind fun x => match x with
  | .bl true => fb s
  | .bl false => .ok (.bl false)
  | _ => .bad
def eOr (fa fb : SS → R D) : SS → R D := fun s => (fa s).bind fun x => match x with
  | .bl true => .ok (.bl true)
  | .bl false => fb s
  | _ => .bad
def eNot (fa : SS → R D) : SS → R D := fun s => (fa s).bind fun x => match x with
  | .bl b => .ok (.bl (!b))
  | _ => .bad
def eIf (fc fa fb : SS → R D) : SS → R D := fun s => (fc s).bind fun x => match x with
  | .bl true => fa s
  | .bl false => fb s
  | _ => .bad
section
variable {X : Cx} {C : CT} {W : WX} {a b c : Expr} {rest : List Expr} {fa fb fc f : SS → R D} {g : D → D → R D} {pos : Pos} {σ : L2.St} {H F F1 H1 : Hp} {sd : SS}
theorem PostT.ext {r : R D} {Q : Bool → Hp → Prop} (e : Ext F H F1 H1) (h : PostT C W F H σ Q r) : PostT C W F1 H1 σ Q r := by
  cases r with
  | ok d => cases d with
    | bl b => exact fun F' H' e' => h F' H' (e.trans e')
    | _ => exact h.elim
  | ex c vs => exact fun cls dx F' H' e' x => h cls dx F' H' (e.trans e') x
  | bad => exact h.elim
/-- a value that is a truth value, as a test -/
theorem t_of {Q : Bool → Hp → Prop} (h : tT C W f σ H Q) : tD C W f σ H fun x H1 => ∃ k, x = .bl k ∧ Q k H1 := by
  obtain ⟨F, sd, S, h⟩ := h
  refine ⟨F, sd, S, ?_⟩
  cases q : f sd with
  | ok d =>
    rw [q] at h
    cases d with
    | bl b => exact fun v F' H' e r => ⟨b, rep_bl.mp r, h F' H' e⟩
    | _ => exact h.elim
  | ex c vs => rw [q] at h; exact h
  | bad => rw [q] at h; exact h
theorem s_t (h : PE X a (tD C W f)) (he : ∀ whole, isTrue a X.env whole = (do let v ← whole; standAt a.pos; holding [v] (truthy v)) := by intro _; rfl) : PT X a (tT C W f) :=
  pt_imp (pt_val h he) fun _ _ _ h => t_of h
theorem s_tcmp {op : CmpOp} (hg : NoEx2 g) (ho : OpR X (compareOp op) (r2 C.G g)) (ha : PE X a (tB C W fa)) (hb : PE X b (tB C W fb)) (hm : behindInMarks op b = false := by first | exact nomark _ | with_unfolding_all rfl) : PT X (.Compare a [op] [b] pos) (tT C W (eBin g fa fb)) :=
  pt_imp (pt_cmpR ho ha hb hm) fun _ _ _ h => bin_read hg (t_of h)
/-- two tests, the second one where the first says so -/
theorem t_bind {k : Bool → R D} {Q Q1 : Bool → Hp → Prop} {r : R D}
    (h : PostT C W F H σ Q (r.bind fun x => match x with | .bl b => k b | _ => .bad)) (hk : ∀ b F1 H1, Ext F H F1 H1 → PostT C W F1 H1 σ Q (k b) → Q1 b H1) : PostT C W F H σ Q1 r := by
  cases r with
  | ok d => cases d with
    | bl b => exact fun F' H' e => hk b F' H' e (PostT.ext e h)
    | _ => exact h.elim
  | ex c vs => exact h
  | bad => exact h
theorem bind_bl {r : R D} {k k' : D → R D} (h : ∀ d, k d = k' d) : r.bind k = r.bind k' := by
  have : k = k' := funext h
  rw [this]
theorem s_tand (ha : PT X a (tT C W fa)) (hb : PW X (.BoolOp .And (b :: rest) pos) (tT C W fb)) : PW X (.BoolOp .And (a :: b :: rest) pos) (tT C W (eAnd fa fb)) := by
  refine ⟨fun wh pins s σ H Q I h => (pw_and ha hb).run wh pins s σ H Q I ?_⟩
  obtain ⟨F, sd, S, h⟩ := h
  refine ⟨F, sd, S, t_bind (Q := Q) (k := fun b => if b = true then fb sd else .ok (.bl false)) ?_ fun b F1 H1 e h1 => ?_⟩
  · unfold eAnd at h
    rw [bind_bl (k' := fun x => match x with | .bl true => fb sd | .bl false => .ok (.bl false) | _ => .bad)]
    · exact h
    · intro d
      cases d with
      | bl b => cases b <;> rfl
      | _ => rfl
  · cases b with
    | true =>
      rw [if_pos rfl] at h1 ⊢
      exact ⟨F1, sd, S.mono e, h1⟩
    | false =>
      rw [if_neg Bool.false_ne_true] at h1 ⊢
      exact h1 F1 H1 (Ext.refl e.fh)
theorem s_tor (ha : PT X a (tT C W fa)) (hb : PW X (.BoolOp .Or (b :: rest) pos) (tT C W fb)) : PW X (.BoolOp .Or (a :: b :: rest) pos) (tT C W (eOr fa fb)) := by
  refine ⟨fun wh pins s σ H Q I h => (pw_or ha hb).run wh pins s σ H Q I ?_⟩
  obtain ⟨F, sd, S, h⟩ := h
  refine ⟨F, sd, S, t_bind (Q := Q) (k := fun b => if b = true then .ok (.bl true) else fb sd) ?_ fun b F1 H1 e h1 => ?_⟩
  · unfold eOr at h
    rw [bind_bl (k' := fun x => match x with | .bl true => .ok (.bl true) | .bl false => fb sd | _ => .bad)]
    · exact h
    · intro d
      cases d with
      | bl b => cases b <;> rfl
      | _ => rfl
  · cases b with
    | true =>
      rw [if_pos rfl] at h1 ⊢
      exact h1 F1 H1 (Ext.refl e.fh)
    | false =>
      rw [if_neg Bool.false_ne_true] at h1 ⊢
      exact ⟨F1, sd, S.mono e, h1⟩
theorem s_tand1 (ha : PT X a (tT C W fa)) : PW X (.BoolOp .And [a] pos) (tT C W fa) := pw_and1 ha
theorem s_tor1 (ha : PT X a (tT C W fa)) : PW X (.BoolOp .Or [a] pos) (tT C W fa) := pw_or1 ha
theorem s_tnot (ha : PT X a (tT C W fa)) : PT X (.UnaryOp .Not a pos) (tT C W (eNot fa)) := by
  refine pt_imp (pt_not ha) fun σ H Q h => ?_
  obtain ⟨F, sd, S, h⟩ := h
  refine ⟨F, sd, S, t_bind (Q := Q) (k := fun b => .ok (.bl (!b))) ?_ fun b F1 H1 e h1 => h1 F1 H1 (Ext.refl e.fh)⟩
  unfold eNot at h
  rw [bind_bl (k' := fun x => match x with | .bl b => .ok (.bl (!b)) | _ => .bad)]
  · exact h
  · intro d
    cases d <;> rfl
/-! the same as values -/
theorem e_bind {k : Bool → R D} {Q Q1 : VK} {r : R D}
    (h : PostE C W F H σ (pD C) Q (r.bind fun x => match x with | .bl b => k b | _ => .bad)) (hk : ∀ b F1 H1, Ext F H F1 H1 → PostE C W F1 H1 σ (pD C) Q (k b) → Q1 (.bl b) H1) : PostE C W F H σ (pD C) Q1 r := by
  cases r with
  | ok d => cases d with
    | bl b => exact fun v F' H' e p => by rw [rep_bl.mp p]; exact hk b F' H' e (PostE.ext e h)
    | _ => exact h.elim
  | ex c vs => exact h
  | bad => exact h
theorem s_and (ha : PE X a (tD C W fa)) (hb : PE X (.BoolOp .And (b :: rest) pos) (tD C W fb)) : PE X (.BoolOp .And (a :: b :: rest) pos) (tD C W (eAnd fa fb)) := by
  refine pe_imp (pe_and ha hb) fun σ H Q h => ?_
  obtain ⟨F, sd, S, h⟩ := h
  refine ⟨F, sd, S, e_bind (Q := Q) (k := fun b => if b = true then fb sd else .ok (.bl false)) ?_ fun b F1 H1 e h1 => ⟨b, rfl, ?_⟩⟩
  · unfold eAnd at h
    rw [bind_bl (k' := fun x => match x with | .bl true => fb sd | .bl false => .ok (.bl false) | _ => .bad)]
    · exact h
    · intro d
      cases d with
      | bl b => cases b <;> rfl
      | _ => rfl
  · cases b with
    | true =>
      rw [if_pos rfl] at h1 ⊢
      exact ⟨F1, sd, S.mono e, h1⟩
    | false =>
      rw [if_neg Bool.false_ne_true] at h1 ⊢
      exact h1 _ F1 H1 (Ext.refl e.fh) (rep_bl.mpr rfl)
theorem s_or (ha : PE X a (tD C W fa)) (hb : PE X (.BoolOp .Or (b :: rest) pos) (tD C W fb)) : PE X (.BoolOp .Or (a :: b :: rest) pos) (tD C W (eOr fa fb)) := by
  refine pe_imp (pe_or ha hb) fun σ H Q h => ?_
  obtain ⟨F, sd, S, h⟩ := h
  refine ⟨F, sd, S, e_bind (Q := Q) (k := fun b => if b = true then .ok (.bl true) else fb sd) ?_ fun b F1 H1 e h1 => ⟨b, rfl, ?_⟩⟩
  · unfold eOr at h
    rw [bind_bl (k' := fun x => match x with | .bl true => .ok (.bl true) | .bl false => fb sd | _ => .bad)]
    · exact h
    · intro d
      cases d with
      | bl b => cases b <;> rfl
      | _ => rfl
  · cases b with
    | true =>
      rw [if_pos rfl] at h1 ⊢
      exact h1 _ F1 H1 (Ext.refl e.fh) (rep_bl.mpr rfl)
    | false =>
      rw [if_neg Bool.false_ne_true] at h1 ⊢
      exact ⟨F1, sd, S.mono e, h1⟩
theorem s_one {op} (ha : PE X a (tD C W fa)) : PE X (.BoolOp op [a] pos) (tD C W fa) := pe_one ha
theorem s_not (ha : PE X a (tD C W fa)) : PE X (.UnaryOp .Not a pos) (tD C W (eNot fa)) := by
  refine pe_imp (pe_not ha) fun σ H Q h => ?_
  obtain ⟨F, sd, S, h⟩ := h
  refine ⟨F, sd, S, e_bind (Q := Q) (k := fun b => .ok (.bl (!b))) ?_ fun b F1 H1 e h1 => ⟨b, rfl, h1 _ F1 H1 (Ext.refl e.fh) (rep_bl.mpr rfl)⟩⟩
  unfold eNot at h
  rw [bind_bl (k' := fun x => match x with | .bl b => .ok (.bl (!b)) | _ => .bad)]
  · exact h
  · intro d
    cases d <;> rfl
theorem t_bindE {k : Bool → R D} {Q : VK} {Q1 : Bool → Hp → Prop} {P : Hp → Hp → D → V → Prop} {r : R D}
    (h : PostE C W F H σ P Q (r.bind fun x => match x with | .bl b => k b | _ => .bad)) (hk : ∀ b F1 H1, Ext F H F1 H1 → PostE C W F1 H1 σ P Q (k b) → Q1 b H1) : PostT C W F H σ Q1 r := by
  cases r with
  | ok d => cases d with
    | bl b => exact fun F' H' e => hk b F' H' e (PostE.ext e h)
    | _ => exact h.elim
  | ex c vs => exact h
  | bad => exact h
theorem s_if (hc : PT X c (tT C W fc)) (ha : PE X a (tD C W fa)) (hb : PE X b (tD C W fb)) : PE X (.IfExp c a b pos) (tD C W (eIf fc fa fb)) := by
  refine pe_imp (pe_ifExp hc ha hb) fun σ H Q h => ?_
  obtain ⟨F, sd, S, h⟩ := h
  refine ⟨F, sd, S, t_bindE (P := pD C) (Q := Q) (k := fun b => if b = true then fa sd else fb sd) ?_ fun b F1 H1 e h1 => ?_⟩
  · unfold eIf at h
    rw [bind_bl (k' := fun x => match x with | .bl true => fa sd | .bl false => fb sd | _ => .bad)]
    · exact h
    · intro d
      cases d with
      | bl b => cases b <;> rfl
      | _ => rfl
  · cases b with
    | true => rw [if_pos rfl] at h1 ⊢; exact ⟨F1, sd, S.mono e, h1⟩
    | false => rw [if_neg Bool.false_ne_true] at h1 ⊢; exact ⟨F1, sd, S.mono e, h1⟩
end
end
end Z
namespace Z
noncomputable section
open PySem PySem.Spec PySem.P PyProof.Rows L2

/-! ### a[i] -/
def ixD : D → D → R D
  | .lst xs, .int i => match atI xs i with
    | some d => .ok d
    | none => .bad
  | .tup xs, .int i => match atI xs i with
    | some d => .ok d
    | none => .bad
  | .str x, .int i => if x.length ≤ SZ then (match atI x i with
    | some c => .ok (.str [c])
    | none => .bad) else .bad
  | .dic ks vs, k => match keyD k with
    | some k => (match look ks vs k with
      | some d => .ok d
      | none => .bad)
    | none => .bad
  | _, _ => .bad
theorem ixD_ne : NoEx2 ixD := fun x y c vs h => by
  unfold ixD at h
  split at h <;> first | cases h | (split at h <;> first | cases h | (split at h <;> cases h))
theorem atI_rep {G : GE} {F : Hp} {ds : List D} {vs : List V} {i : Int} {d : D} (r : RepL G F ds vs) (h : atI ds i = some d) : ∃ v, atI vs i = some v ∧ Rep G F d v := by
  unfold atI at h ⊢
  rw [r.length]
  cases q : ixN ds.length i with
  | none => rw [q] at h; cases h
  | some j =>
    rw [q] at h
    exact r.get h
theorem atI_mem {α : Type} {xs : List α} {i : Int} {d : α} (h : atI xs i = some d) : d ∈ xs := by
  obtain ⟨j, _, e, _⟩ := atI_get h
  exact List.mem_of_getElem? e
theorem ix_D {X : Cx} {C : CT} (hK : X.K = C.G.K) (hu : X.A.units + 65 < cLine) : IxR X (r2 C.G ixD) := by
  intro value slice pins s σ H x y v u Q I rx ry h hs
  obtain ⟨F, d, e, S, bd, be, p⟩ := h
  unfold ixD at p
  split at p
  · split at p
    · rename_i hz
      obtain ⟨a, vs, e1, q, r⟩ := bor_lst S bd
      obtain ⟨w, h1, h2⟩ := atI_rep r hz
      rw [← hK] at q
      exact ix_list value slice pins s σ H x y v u Q I rx ry ⟨a, vs, _, w, e1, bor_int be, q, h1, p w F H (Ext.refl S) h2⟩ hs
    · exact p.elim
  · split at p
    · rename_i hz
      obtain ⟨a, vs, e1, q, r⟩ := bor_tup S bd
      obtain ⟨w, h1, h2⟩ := atI_rep r hz
      rw [← hK] at q
      exact ix_tup value slice pins s σ H x y v u Q I rx ry ⟨a, vs, _, w, e1, bor_int be, q, h1, p w F H (Ext.refl S) h2⟩ hs
    · exact p.elim
  · split at p
    · split at p
      · rename_i hl _ c hz
        obtain ⟨e1, k⟩ := bor_str bd
        refine ix_str value slice pins s σ H x y v u Q I rx ry ⟨_, _, c, e1, bor_int be, ?_, hz, p.str S (okS_mem k (atI_mem hz))⟩ hs
        show Array.size _ ≤ _
        rw [List.size_toArray]
        exact sz_line hl
      · exact p.elim
    · exact p.elim
  · split at p
    · rename_i k hk
      split at p
      · rename_i d' hd
        obtain ⟨a, kvs, rfl, q, e1, nd, r⟩ := bor_dic S bd
        rw [← e1] at hd
        obtain ⟨w, h1, h2⟩ := (look_val r).1 _ hd
        have ey := keyD_rep hk be
        have g : DGet H a y (some w) := .inl ⟨kvs, k, q, ey, h1.symm⟩
        obtain rfl : v = Value.ref a := rx
        exact tail_any (dict_typeIs I g) PySem.F.slot_dict_getitem.lookup (d_getItem (by omega) I g ry fun w' s3 I3 rw' => ⟨w, H, I3, rw', p w F H (Ext.refl S) h2⟩) hs
      · exact p.elim
    · exact p.elim
  · exact p.elim
section
variable {X : Cx} {C : CT} {W : WX} {a b c : Expr} {rest : List Expr} {fa fb fc f : SS → R D} {pos p2 : Pos}
theorem s_ix (hK : X.K = C.G.K) (hu : X.A.units + 65 < cLine) (ha : PE X a (tB C W fa)) (hb : PE X b (tB C W fb)) (hs : PlainIx b := by exact fun _ _ => rfl) : PE X (.Subscript a b pos) (tD C W (eBin ixD fa fb)) :=
  pe_imp (pe_ix (ix_D hK hu) ha hb hs) fun _ _ _ h => bin_read ixD_ne h

/-! ### a[lo:hi] -/
def cutL {α : Type} (xs : List α) (lo hi : Option Int) : List α := (xs.drop (HT.sIx xs.length 0 lo)).take (HT.sIx xs.length xs.length hi - HT.sIx xs.length 0 lo)
def slD (x : D) (lo hi : Option Int) : R D := match x with
  | .lst xs => .ok (.lst (cutL xs lo hi))
  | .tup xs => .ok (.tup (cutL xs lo hi))
  | .str x => if x.length ≤ SZ then .ok (.str (cutL x lo hi)) else .bad
  | _ => .bad
def optI : D → R (Option Int)
  | .int i => .ok (some i)
  | _ => .bad
/-- a part of a slice -/
def oNo : SS → R (Option Int) := fun _ => .ok none
def oSo (f : SS → R D) : SS → R (Option Int) := fun s => (f s).bind fun x => match x with
  | .int i => .ok (some i)
  | _ => .bad
def eSl (fa : SS → R D) (fl fh : SS → R (Option Int)) : SS → R D := fun s => (fa s).bind fun x => (fl s).bind fun l => (fh s).bind fun h => slD x l h
def PostO (C : CT) (W : WX) (F H : Hp) (σ : L2.St) (Q : Option Int → Hp → Prop) : R (Option Int) → Prop
  | .ok o => ∀ F' H', Ext F H F' H' → Q o H'
  | .ex c vs => ∀ cls dx F' H', Ext F H F' H' → XR C.G F' c vs cls dx → W cls dx σ H'
  | .bad => False
def tO (C : CT) (W : WX) (f : SS → R (Option Int)) : TO := fun σ H Q => ∃ F sd, StR C F H sd σ ∧ PostO C W F H σ Q (f sd)
theorem po_imp {e : Option Expr} {t t' : TO} (h : PO X e t) (i : ∀ σ H Q, t' σ H Q → t σ H Q) : PO X e t' := ⟨fun pins s σ H Q I q => h.run pins s σ H Q I (i σ H Q q)⟩
theorem s_ono : PO X none (tO C W oNo) := po_imp po_none fun σ H Q ⟨F, sd, S, h⟩ => h F H (Ext.refl S.fh)
theorem s_oso (ha : PE X a (tD C W fa)) : PO X (some a) (tO C W (oSo fa)) := po_imp (po_some ha) fun σ H Q ⟨F, sd, S, h⟩ => by
  refine ⟨F, sd, S, ?_⟩
  unfold oSo at h
  cases q : fa sd with
  | ok d =>
    rw [q] at h
    cases d with
    | int i => exact fun v F' H' e r => ⟨i, rep_int.mp r, h F' H' e⟩
    | _ => exact h.elim
  | ex c vs => rw [q] at h; exact h
  | bad => rw [q] at h; exact h
theorem PostE.bindO {F H : Hp} {σ : L2.St} {P : Hp → Hp → D → V → Prop} {Q : VK} {Q1 : Option Int → Hp → Prop} {x : R (Option Int)} {k : Option Int → R D} (h : PostE C W F H σ P Q (x.bind k))
    (hk : ∀ d F1 H1, Ext F H F1 H1 → PostE C W F1 H1 σ P Q (k d) → Q1 d H1) : PostO C W F H σ Q1 x := by
  cases x with
  | ok d => exact fun F' H' e => hk d F' H' e (PostE.ext e h)
  | ex c vs => exact h
  | bad => exact h
theorem RepL.cut {G : GE} {F : Hp} {ds : List D} {vs : List V} (r : RepL G F ds vs) (lo hi : Option Int) : RepL G F (cutL ds lo hi) (cutV vs lo hi) := by
  unfold cutL cutV
  rw [r.length]
  exact (r.drop _).take _
theorem cutL_all {α : Type} {xs : List α} {lo hi : Option Int} {c : α} (h : c ∈ cutL xs lo hi) : c ∈ xs := List.mem_of_mem_drop (List.mem_of_mem_take h)
def rSD (G : GE) : V → Option Int → Option Int → Hp → VK → Prop := fun x lo hi H Q => ∃ F d, Same F H ∧ Bor G F H d x ∧ PostV G F H Q (slD d lo hi)
theorem sl_D (hK : X.K = C.G.K) : SlR X (rSD C.G) := by
  intro pins s σ H x v vl vu lo hi sl Q I rx hs pl pu h
  obtain ⟨F, d, S, bd, p⟩ := h
  unfold slD at p
  split at p
  · obtain ⟨a, vs, e1, q, r⟩ := bor_lst S bd
    rw [← hK] at q
    exact sl_list pins s σ H x v vl vu lo hi sl Q I rx hs pl pu ⟨a, vs, e1, q, p.lst S (r.cut lo hi)⟩
  · rename_i xs
    obtain ⟨a, vs, rfl, q, r⟩ := bor_tup S bd
    rw [← hK] at q
    refine sl_tupA pins s σ H _ v vl vu lo hi sl Q I rx hs pl pu ⟨a, vs, rfl, q, fun hw => ?_, fun _ => p.tup S (r.cut lo hi)⟩
    have e : cutL xs lo hi = xs := by
      unfold cutL
      rw [← r.length, hw.1, hw.2, List.drop_zero, Nat.sub_zero, r.length]
      exact List.take_length
    rw [e] at p
    exact p _ F H (Ext.refl S) (bd.elim id fun ⟨_, _, _, z⟩ => z.elim)
  · split at p
    · rename_i xs hl
      obtain ⟨e1, k⟩ := bor_str bd
      refine sl_str pins s σ H x v vl vu lo hi sl Q I rx hs pl pu ⟨_, e1, ?_, ?_⟩
      · show Array.size _ ≤ _
        rw [List.size_toArray]
        exact sz_line hl
      · have := p.str S (okS_take _ (okS_drop _ k))
        unfold cutS
        have l1 : (⟨xs.toArray⟩ : Str).length = xs.length := List.size_toArray
        rw [l1]
        exact this
    · exact p.elim
  · exact p.elim
theorem s_sl (hK : X.K = C.G.K) {lo hi : Option Expr} {fl fh : SS → R (Option Int)} (ha : PE X a (tB C W fa)) (hl : PO X lo (tO C W fl)) (hh : PO X hi (tO C W fh)) : PE X (.Subscript a (.Slice lo hi none p2) pos) (tD C W (eSl fa fl fh)) := by
  refine pe_imp (pe_slice (sl_D hK) ha hl hh) fun σ H Q ⟨F, sd, S, h⟩ => ?_
  refine ⟨F, sd, S, PostE.bind h fun d v F1 H1 e1 b1 h1 => ?_⟩
  refine ⟨F1, sd, S.mono e1, PostE.bindO h1 fun l F2 H2 e2 h2 => ?_⟩
  refine ⟨F2, sd, (S.mono e1).mono e2, PostE.bindO h2 fun u F3 H3 e3 h3 => ?_⟩
  refine ⟨F3, d, e3.fh, Bor.mono (e2.trans e3) b1, h3.toV fun c vs z => ?_⟩
  unfold slD at z
  split at z <;> first | cases z | (split at z <;> cases z)

/-! ### arguments -/
def aNil : SS → R (List D) := fun _ => .ok []
def aCons (fa : SS → R D) (fs : SS → R (List D)) : SS → R (List D) := fun s => (fa s).bind fun x => (fs s).bind fun xs => .ok (x :: xs)
variable {es : List Expr} {fs : SS → R (List D)}
theorem PostA.ext {F H F1 H1 : Hp} {σ : L2.St} {P : Hp → Hp → D → V → Prop} {Q : List V → Hp → Prop} {r : R (List D)} (e : Ext F H F1 H1) (h : PostA C W F H σ P Q r) : PostA C W F1 H1 σ P Q r := by
  cases r with
  | ok d => exact fun v F' H' e' p => h v F' H' (e.trans e') p
  | ex c vs => exact fun cls dx F' H' e' x => h cls dx F' H' (e.trans e') x
  | bad => exact h
theorem a_cons {F H : Hp} {σ : L2.St} {sd : SS} {P : Hp → Hp → D → V → Prop} {Q : List V → Hp → Prop} (mono : ∀ {F H F' H' d v}, Ext F H F' H' → P F H d v → P F' H' d v) (S : StR C F H sd σ) (h : PostA C W F H σ P Q (aCons fa fs sd)) :
    PostE C W F H σ P (fun x H1 => ∃ F sd, StR C F H1 sd σ ∧ PostA C W F H1 σ P (fun xs H2 => Q (x :: xs) H2) (fs sd)) (fa sd) := by
  unfold aCons at h
  cases q : fa sd with
  | ok d =>
    rw [q] at h
    intro v F1 H1 e1 p1
    refine ⟨F1, sd, S.mono e1, ?_⟩
    cases q2 : fs sd with
    | ok ds =>
      have h : PostA C W F H σ P Q ((R.ok d).bind fun x => (fs sd).bind fun xs => .ok (x :: xs)) := h
      simp only [R.bind, q2] at h
      intro vs F2 H2 e2 p2
      exact h (v :: vs) F2 H2 (e1.trans e2) (.cons (mono e2 p1) p2)
    | ex c vs =>
      have h : PostA C W F H σ P Q ((R.ok d).bind fun x => (fs sd).bind fun xs => .ok (x :: xs)) := h
      simp only [R.bind, q2] at h
      exact fun cls dx F2 H2 e2 x => h cls dx F2 H2 (e1.trans e2) x
    | bad =>
      have h : PostA C W F H σ P Q ((R.ok d).bind fun x => (fs sd).bind fun xs => .ok (x :: xs)) := h
      simp only [R.bind, q2] at h
      exact h
  | ex c vs => rw [q] at h; exact h
  | bad => rw [q] at h; exact h
theorem s_anil : PA X [] (tA C W aNil) := pa_imp pa_nil fun σ H Q ⟨F, sd, S, h⟩ => h [] F H (Ext.refl S.fh) .nil
theorem s_acons (ha : PE X a (tD C W fa)) (hr : PA X es (tA C W fs)) (hs : starEach (a :: es) X.env = (false, eval a X.env) :: starEach es X.env := by rfl) : PA X (a :: es) (tA C W (aCons fa fs)) :=
  pa_imp (pa_cons ha hr hs) fun σ H Q ⟨F, sd, S, h⟩ => ⟨F, sd, S, a_cons (fun e p => Rep.mono e.ff p) S h⟩
theorem s_bnil : PA X [] (tAB C W aNil) := pa_imp pa_nil fun σ H Q ⟨F, sd, S, h⟩ => h [] F H (Ext.refl S.fh) .nil
theorem s_bcons (ha : PE X a (tB C W fa)) (hr : PA X es (tAB C W fs)) (hs : starEach (a :: es) X.env = (false, eval a X.env) :: starEach es X.env := by rfl) : PA X (a :: es) (tAB C W (aCons fa fs)) :=
  pa_imp (pa_cons ha hr hs) fun σ H Q ⟨F, sd, S, h⟩ => ⟨F, sd, S, a_cons (fun e p => Bor.mono e p) S h⟩
theorem pairL {G : GE} {F : Hp} : ∀ {ds : List D} {vs : List V}, Paired (Rep G F) ds vs → RepL G F ds vs
  | _, _, .nil => RepL.nil
  | _, _, .cons r t => RepL.cons r (pairL t)

/-! ### fresh things: displays -/
theorem PostE.fresh {F H : Hp} {σ : L2.St} {Q : VK} {ds : List D} {vs : List V} {H₀ : Hp} (e₀ : Same H₀ H) (S : Same F H) (r : RepL C.G F ds vs) (p : PostE C W F H σ (pF C H₀) Q (.ok (.lst ds))) : ∀ a, H a = none → Q (.ref a) (upd H a (.lst vs)) := fun a ha =>
  p _ F (upd H a (.lst vs)) (Ext.newOwn S ha) ⟨a, rfl, e₀.free ha, S.free ha, vs, upd_same, r⟩
/-- an own thing laid fast: a dict is locked -/
theorem lay_fast {X : Cx} {pins : List (Addr × Obj)} {σ : L2.St} {H : Hp} {s : Shared} {G : GE} {F : Hp} {a : Addr} {d : D} (I : Inv X pins σ H s) (q : OwR G F H a d) : ∃ o o', H a = some o ∧ Fz o o' ∧ (isDic d = true → o' ≠ o) ∧ Inv X pins σ (upd H a o') s := by
  obtain ⟨o, ho⟩ := q.there
  by_cases hd : isDic d = true
  · cases d with
    | dic ks vs =>
      obtain ⟨kvs, e, -⟩ := q
      obtain ⟨od, I1⟩ := I.lock e (by trivial)
      exact ⟨_, _, e, .inr ⟨od, kvs, rfl, rfl⟩, (fun _ z => by cases z), I1⟩
    | _ => cases hd
  · refine ⟨o, o, ho, .inl rfl, fun z => absurd z hd, ?_⟩
    have : upd H a o = H := by
      funext b
      by_cases hb : b = a
      · subst hb; rw [upd_same, ho]
      · rw [upd_ne hb]
    rw [this]
    exact I
/-- a fresh thing, shared from now on -/
theorem s_f (h : PE X a (tF C W f)) : PE X a (tD C W f) := ⟨fun pins s σ H Q I hh => by
  obtain ⟨F, sd, S, hh⟩ := hh
  refine thn (h.run pins s σ H (fun v H1 => ∃ F' d, Ext F H F' H1 ∧ (∃ a, v = .ref a ∧ H a = none ∧ F' a = none ∧ OwR C.G F' H1 a d) ∧ PostE C W F H σ (pD C) Q (.ok d)) I ⟨F, sd, S, ?_⟩) ?_
  · cases q : f sd with
    | ok d =>
      rw [q] at hh
      exact fun v F' H' e p => ⟨F', d, e, p, hh⟩
    | ex c vs => rw [q] at hh; exact hh
    | bad => rw [q] at hh; exact hh
  · intro u s1 ⟨x, H1, I1, r1, F', d, e, ⟨p, ex, hn, fn, ow⟩, hd⟩
    subst ex
    obtain ⟨o, o', ho, fz, nd, I2⟩ := lay_fast I1 ow
    have s1' : Same F' (upd F' p o') := same_new fn
    have s2 : Same (upd F' p o') (upd H1 p o') := fun b u z => by
      by_cases hb : b = p
      · subst hb; rw [upd_same] at z ⊢; exact z
      · rw [upd_ne hb] at z ⊢; exact e.fh _ _ z
    refine ⟨.ref p, upd H1 p o', I2, r1, hd _ (upd F' p o') (upd H1 p o') ⟨e.ff.trans s1', fun b u z => ?_, s2, fun b u h1 h2 => ?_⟩ (ow.rep s1' fun u z => ?_)⟩
    · have hb : b ≠ p := fun y => by subst y; rw [hn] at z; cases z
      rw [upd_ne hb]
      exact e.hh _ _ z
    · have hb : b ≠ p := fun z => by subst z; rw [hn] at h1; cases h1
      rw [upd_ne hb]
      exact e.ow b u h1 h2
    · rw [ho] at z; cases z; exact ⟨o', upd_same, fz, nd⟩⟩
def eLst (fs : SS → R (List D)) : SS → R D := fun s => (fs s).bind fun xs => if xs.length ≤ SZ then .ok (.lst xs) else .bad
def eTup (fs : SS → R (List D)) : SS → R D := fun s => (fs s).bind fun xs => if xs.length ≤ SZ then .ok (.tup xs) else .bad
theorem PostE.bindA {F H : Hp} {σ : L2.St} {P : Hp → Hp → D → V → Prop} {P1 : Hp → Hp → D → V → Prop} {Q : VK} {Q1 : List V → Hp → Prop} {x : R (List D)} {k : List D → R D} (h : PostE C W F H σ P Q (x.bind k))
    (hk : ∀ ds vs F1 H1, Ext F H F1 H1 → Paired (P1 F1 H1) ds vs → PostE C W F1 H1 σ P Q (k ds) → Q1 vs H1) : PostA C W F H σ P1 Q1 x := by
  cases x with
  | ok d => exact fun vs F' H' e r => hk d vs F' H' e r (PostE.ext e h)
  | ex c vs => exact h
  | bad => exact h
theorem s_lst (hs : PA X es (tA C W fs)) : PE X (.List es pos) (tF C W (eLst fs)) := by
  refine pe_imp (pe_lst hs) fun σ H Q ⟨F, sd, S, h⟩ => ?_
  refine ⟨F, sd, S, PostE.bindA h fun ds vs F1 H1 e1 r h1 => ?_⟩
  split at h1
  · rename_i hz
    have r := pairL r
    exact ⟨by rw [r.length]; exact sz_line hz, PostE.fresh e1.hh e1.fh r h1⟩
  · exact h1.elim
theorem s_tup {k} (hs : PA X es (tA C W fs)) : PE X (.Tuple es k pos) (tD C W (eTup fs)) := by
  refine pe_imp (pe_tup hs) fun σ H Q ⟨F, sd, S, h⟩ => ?_
  refine ⟨F, sd, S, PostE.bindA h fun ds vs F1 H1 e1 r h1 => ?_⟩
  split at h1
  · rename_i hz
    have r := pairL r
    exact ⟨by rw [r.length]; exact sz_line hz, (h1.toV fun _ _ z => by cases z).tup e1.fh r⟩
  · exact h1.elim
def eDic0 : SS → R D := fun _ => .ok (.dic [] [])
theorem s_dic0 : PE X (.Dict [] [] pos) (tF C W eDic0) := by
  refine pe_imp pe_dnewK fun σ H Q ⟨F, sd, S, h⟩ => ?_
  intro p hp
  exact h _ F (upd H p (.dK [])) (Ext.newOwn S.fh hp) ⟨p, rfl, hp, S.fh.free hp, [], upd_same, rfl, List.nodup_nil, RepL.nil⟩

/-! ### built-in functions by their names -/
/-- a call that gives a shared value -/
def rC (G : GE) (g : List D → R D) : List V → Hp → VK → Prop := fun vs H Q => ∃ F ds, Same F H ∧ Paired (Bor G F H) ds vs ∧ PostV G F H Q (g ds)
/-- a call that gives a new object -/
def PostVF (G : GE) (F H : Hp) (Q : VK) : R D → Prop
  | .ok d => ∀ a F' H', Ext F H F' H' → H a = none → F' a = none → OwR G F' H' a d → Q (.ref a) H'
  | _ => False
def rCF (G : GE) (g : List D → R D) : List V → Hp → VK → Prop := fun vs H Q => ∃ F ds, Same F H ∧ Paired (Bor G F H) ds vs ∧ PostVF G F H Q (g ds)
def eCall (g : List D → R D) (fs : SS → R (List D)) : SS → R D := fun s => (fs s).bind g
def NoExL (g : List D → R D) : Prop := ∀ x c vs, g x ≠ .ex c vs
variable {g : List D → R D} {x : Str} {id T : String} {p : Pos}
theorem call_read (hg : NoExL g) {σ : L2.St} {H : Hp} {Q : VK} (h : tD C W (eCall g fs) σ H Q) : tCB (rC C.G g) (tAB C W fs) σ H Q := by
  obtain ⟨F, sd, S, h⟩ := h
  refine ⟨F, sd, S, PostE.bindA h fun ds vs F1 H1 e1 r h1 => ?_⟩
  exact ⟨F1, ds, e1.fh, r, h1.toV (hg ds)⟩
theorem call_readF (hg : NoExL g) {σ : L2.St} {H : Hp} {Q : VK} (h : tF C W (eCall g fs) σ H Q) : tCB (rCF C.G g) (tAB C W fs) σ H Q := by
  obtain ⟨F, sd, S, h⟩ := h
  refine ⟨F, sd, S, PostE.bindA h fun ds vs F1 H1 e1 r h1 => ?_⟩
  refine ⟨F1, ds, e1.fh, r, ?_⟩
  cases q : g ds with
  | ok d =>
    rw [q] at h1
    exact fun a F' H' e hn fn ow => h1 _ F' H' e ⟨a, rfl, e1.hh.free hn, fn, ow⟩
  | ex c vs => exact (hg ds c vs q).elim
  | bad => rw [q] at h1; exact h1.elim
theorem s_bi (hg : NoExL g) (hc : CallR X (.builtin id) (rC C.G g)) (hgl : Gl X x) (hm : X.mg x = none) (hv : bootBuiltins x = some (.builtin id)) (ha : PA X (a :: es) (tAB C W fs)) (hn : x ≠ "__name__" := by decide) (hdb : (x == ("__debug__" : Str)) = false := by decide)
    (he : starEach (a :: es) X.env = (false, eval a X.env) :: starEach es X.env := by rfl) (hpl : (backTo pos (starEach es X.env)).any (·.1) = false := by rfl) : PE X (.Call (.Name x p) (a :: es) [] pos) (tD C W (eCall g fs)) :=
  pe_imp (pe_callB hc hgl hm hv ha hn hdb he hpl) fun _ _ _ h => call_read hg h
theorem s_biF (hg : NoExL g) (hc : CallR X (.builtin id) (rCF C.G g)) (hgl : Gl X x) (hm : X.mg x = none) (hv : bootBuiltins x = some (.builtin id)) (ha : PA X (a :: es) (tAB C W fs)) (hn : x ≠ "__name__" := by decide) (hdb : (x == ("__debug__" : Str)) = false := by decide)
    (he : starEach (a :: es) X.env = (false, eval a X.env) :: starEach es X.env := by rfl) (hpl : (backTo pos (starEach es X.env)).any (·.1) = false := by rfl) : PE X (.Call (.Name x p) (a :: es) [] pos) (tF C W (eCall g fs)) :=
  pe_imp (pe_callB hc hgl hm hv ha hn hdb he hpl) fun _ _ _ h => call_readF hg h
theorem s_ty (hg : NoExL g) (hc : CallR X (.type T) (rC C.G g)) (hgl : Gl X x) (hm : X.mg x = none) (hv : bootBuiltins x = some (.type T)) (ha : PA X (a :: es) (tAB C W fs)) (hn : x ≠ "__name__" := by decide) (hdb : (x == ("__debug__" : Str)) = false := by decide)
    (he : starEach (a :: es) X.env = (false, eval a X.env) :: starEach es X.env := by rfl) (hpl : (backTo pos (starEach es X.env)).any (·.1) = false := by rfl) : PE X (.Call (.Name x p) (a :: es) [] pos) (tD C W (eCall g fs)) :=
  pe_imp (pe_callTy hc hgl hm hv ha hn hdb he hpl) fun _ _ _ h => call_read hg h
theorem s_tyF (hg : NoExL g) (hc : CallR X (.type T) (rCF C.G g)) (hgl : Gl X x) (hm : X.mg x = none) (hv : bootBuiltins x = some (.type T)) (ha : PA X (a :: es) (tAB C W fs)) (hn : x ≠ "__name__" := by decide) (hdb : (x == ("__debug__" : Str)) = false := by decide)
    (he : starEach (a :: es) X.env = (false, eval a X.env) :: starEach es X.env := by rfl) (hpl : (backTo pos (starEach es X.env)).any (·.1) = false := by rfl) : PE X (.Call (.Name x p) (a :: es) [] pos) (tF C W (eCall g fs)) :=
  pe_imp (pe_callTy hc hgl hm hv ha hn hdb he hpl) fun _ _ _ h => call_readF hg h
/-- len(x) -/
def lenD : List D → R D
  | [.str x] => if x.length ≤ SZ then .ok (.int x.length) else .bad
  | [.lst x] => .ok (.int x.length)
  | [.tup x] => .ok (.int x.length)
  | _ => .bad
theorem lenD_ne : NoExL lenD := fun x c vs h => by
  unfold lenD at h
  split at h <;> first | cases h | (split at h <;> cases h)
theorem pair1 {P : D → V → Prop} {d : D} {vs : List V} (h : Paired P [d] vs) : ∃ v, vs = [v] ∧ P d v := by
  cases h with
  | cons r t => cases t; exact ⟨_, rfl, r⟩
theorem pair2 {P : D → V → Prop} {d e : D} {vs : List V} (h : Paired P [d, e] vs) : ∃ v u, vs = [v, u] ∧ P d v ∧ P e u := by
  cases h with
  | cons r t =>
    obtain ⟨u, rfl, q⟩ := pair1 t
    exact ⟨_, _, rfl, r, q⟩
theorem call_lenD (hK : X.K = C.G.K) : CallR X (.builtin "len") (rC C.G lenD) := by
  intro pins s σ H xs us Q I r h
  obtain ⟨F, ds, S, r2, p⟩ := h
  unfold lenD at p
  split at p
  · split at p
    · rename_i z hz
      obtain ⟨v, rfl, b⟩ := pair1 r2
      have l1 : (⟨z.toArray⟩ : Str).length = z.length := List.size_toArray
      refine call_len pins s σ H _ us Q I r ⟨_, z.length, rfl, ?_, p.int S⟩
      rw [(bor_str b).1]
      exact ⟨by rw [l1]; exact sz_line hz, l1.symm⟩
    · exact p.elim
  · obtain ⟨v, rfl, b⟩ := pair1 r2
    obtain ⟨a, xs, rfl, q, rr⟩ := bor_lst S b
    rw [← hK] at q
    refine call_len pins s σ H _ us Q I r ⟨_, _, rfl, .inl ⟨xs, q, rr.length.symm⟩, p.int S⟩
  · obtain ⟨v, rfl, b⟩ := pair1 r2
    obtain ⟨a, xs, rfl, q, rr⟩ := bor_tup S b
    rw [← hK] at q
    refine call_len pins s σ H _ us Q I r ⟨_, _, rfl, .inr ⟨xs, q, rr.length.symm⟩, p.int S⟩
  · exact p.elim
end
end
end Z
namespace Z
noncomputable section
open PySem PySem.Spec PySem.P PyProof.Rows L2

/-- what every rule asks of the place where the code stands -/
structure Pq (X : Cx) (C : CT) (W : WX) : Prop where
  K : X.K = C.G.K
  hu : X.A.units + 65 < cLine
  tk : Takes X W
  pass : PassesOwn (model X.prog X.w) X.A X.env X.xe
structure Pl (X : Cx) (C : CT) (W : WX) : Prop extends Pq X C W where
  calm : X.calm = true
instance {X : Cx} {C : CT} {W : WX} : Coe (Pl X C W) (Pq X C W) := ⟨Pl.toPq⟩

/-! ### statements -/
/-- locked slots stay -/
def LkD (d d' : D) : Prop := d' = d ∨ ∃ c c' vs ws, d = .obj c vs ∧ d' = .obj c' ws
/-- a slot that no statement binds anew -/
def lkX : Sl → Bool
  | .lk _ => true
  | .nt true _ => true
  | _ => false
def LkR : Sl → Sl → Prop
  | .lk d, .lk d' => LkD d d'
  | .nt true _, .nt true _ => True
  | _, _ => False
theorem LkD.trans {a b c : D} (h : LkD a b) (g : LkD b c) : LkD a c := by
  rcases h with rfl | ⟨c1, c2, vs, ws, rfl, rfl⟩
  · exact g
  · rcases g with rfl | ⟨c3, c4, us, zs, e, rfl⟩
    · exact .inr ⟨_, _, _, _, rfl, rfl⟩
    · exact .inr ⟨_, _, _, _, rfl, rfl⟩
theorem LkR.refl {x : Sl} (h : lkX x = true) : LkR x x := by
  cases x with
  | lk d => exact .inl rfl
  | nt k d => cases k with
    | true => trivial
    | false => cases h
  | _ => cases h
theorem LkR.lk {x y : Sl} (h : LkR x y) : lkX y = true := by
  cases x with
  | lk d => cases y with
    | lk d' => rfl
    | _ => exact h.elim
  | nt k d => cases k with
    | true => cases y with
      | nt k' d' => cases k' with
        | true => rfl
        | false => exact h.elim
      | _ => exact h.elim
    | false => cases y <;> exact h.elim
  | _ => cases y <;> exact h.elim
theorem LkR.trans {x y z : Sl} (h : LkR x y) (g : LkR y z) : LkR x z := by
  cases x with
  | lk d => cases y with
    | lk d' => cases z with
      | lk d2 => exact LkD.trans h g
      | _ => exact g.elim
    | _ => exact h.elim
  | nt k d => cases k with
    | true => cases y with
      | nt k' d' => cases k' with
        | true => cases z with
          | nt k2 d2 => cases k2 with
            | true => trivial
            | false => exact g.elim
          | _ => exact g.elim
        | false => exact h.elim
      | _ => exact h.elim
    | false => cases y <;> exact h.elim
  | _ => cases y <;> exact h.elim
theorem LkR.of {d : D} {y : Sl} (h : LkR (.lk d) y) : ∃ d', y = .lk d' ∧ LkD d d' := by
  cases y with
  | lk d' => exact ⟨d', rfl, h⟩
  | _ => exact h.elim
theorem LkR.ofN {d : D} {y : Sl} (h : LkR (.nt true d) y) : ∃ d', y = .nt true d' := by
  cases y with
  | nt k d' => cases k with
    | true => exact ⟨d', rfl⟩
    | false => exact h.elim
  | _ => exact h.elim
def Lk (sd : SS) (σ : L2.St) (sd' : SS) (σ' : L2.St) : Prop := ∀ (i : Nat) (x : Sl), sd[i]? = some x → lkX x = true → (∃ x', sd'[i]? = some x' ∧ LkR x x') ∧ σ'[i]? = σ[i]?
theorem Lk.refl {sd : SS} {σ : L2.St} : Lk sd σ sd σ := fun _ x h k => ⟨⟨_, h, LkR.refl k⟩, rfl⟩
theorem Lk.trans {sd sd1 sd2 : SS} {σ σ1 σ2 : L2.St} (a : Lk sd σ sd1 σ1) (b : Lk sd1 σ1 sd2 σ2) : Lk sd σ sd2 σ2 := fun i x h k => by
  obtain ⟨⟨d1, h1, l1⟩, g1⟩ := a i x h k
  obtain ⟨⟨d2, h2, l2⟩, g2⟩ := b i d1 h1 l1.lk
  exact ⟨⟨d2, h2, l1.trans l2⟩, g2.trans g1⟩
theorem Lk.get {sd sd' : SS} {σ σ' : L2.St} {i : Nat} {d : D} (l : Lk sd σ sd' σ') (h : sd[i]? = some (.lk d)) : (∃ d', sd'[i]? = some (.lk d') ∧ LkD d d') ∧ σ'[i]? = σ[i]? := by
  obtain ⟨⟨x, h1, l1⟩, g⟩ := l i _ h rfl
  obtain ⟨d', rfl, l2⟩ := l1.of
  exact ⟨⟨d', h1, l2⟩, g⟩
theorem Lk.getN {sd sd' : SS} {σ σ' : L2.St} {i : Nat} {d : D} (l : Lk sd σ sd' σ') (h : sd[i]? = some (.nt true d)) : (∃ d', sd'[i]? = some (.nt true d')) ∧ σ'[i]? = σ[i]? := by
  obtain ⟨⟨x, h1, l1⟩, g⟩ := l i _ h rfl
  obtain ⟨d', rfl⟩ := l1.ofN
  exact ⟨⟨d', h1⟩, g⟩
theorem Lk.same {sd sd' : SS} {σ σ' : L2.St} {i : Nat} {d : D} (l : Lk sd σ sd' σ') (h : sd[i]? = some (.lk d)) (hd : ∀ c vs, d ≠ .obj c vs) : sd'[i]? = some (.lk d) ∧ σ'[i]? = σ[i]? := by
  obtain ⟨⟨d', h1, l1⟩, g⟩ := l.get h
  rcases l1 with rfl | ⟨c, _, vs, _, e, _⟩
  · exact ⟨h1, g⟩
  · exact (hd c vs e).elim
/-- a slot that is not locked changed -/
theorem lk_one {s : SS} {σ σ' : L2.St} {i : Nat} {x : Sl} (h : ∀ y, s[i]? = some y → lkX y = false) (hσ : ∀ j, i ≠ j → σ'[j]? = σ[j]?) : Lk s σ (s.set i x) σ' := fun j y e k => by
  have hij : i ≠ j := fun z => by
    subst z
    rw [h y e] at k
    cases k
  rw [List.getElem?_set_ne hij]
  exact ⟨⟨_, e, LkR.refl k⟩, hσ j hij⟩
def PostS (C : CT) (W : WX) (F : Hp) (sd : SS) (σ : L2.St) (D : Ends) : RS → Prop
  | .nx s' => ∀ F' H' σ', StR C F' H' s' σ' → Same F F' → Lk sd σ s' σ' → D.nx σ' H'
  | .bk s' => ∀ F' H' σ', StR C F' H' s' σ' → Same F F' → Lk sd σ s' σ' → D.bk σ' H'
  | .ct s' => ∀ F' H' σ', StR C F' H' s' σ' → Same F F' → Lk sd σ s' σ' → D.ct σ' H'
  | .rt false d => ∀ v F' H', Ext C.F0 C.H0 F' H' → Same F F' → Rep C.G F' d v → D.rt v H'
  | .rt true d => ∀ a F' H', Ext C.F0 C.H0 F' H' → Same F F' → C.H0 a = none → F' a = none → OwR C.G F' H' a d → D.rt (.ref a) H'
  | .ex c vs s' => ∀ cls dx F' H' σ', StR C F' H' s' σ' → Same F F' → Lk sd σ s' σ' → XR C.G F' c vs cls dx → W cls dx σ' H'
  | .rm d s' => ∀ v F' H' σ', StR C F' H' s' σ' → Same F F' → Lk sd σ s' σ' → Rep C.G F' d v → D.rt v H'
  | .rn i s' => ∀ a F' H' σ', StR C F' H' s' σ' → Same F F' → Lk sd σ s' σ' → σ'[i]? = some (some (.ref a)) → D.rt (.ref a) H'
  | .bad => False
def tS (C : CT) (W : WX) (f : SS → RS) : TS := fun D σ H => ∃ F sd, StR C F H sd σ ∧ PostS C W F sd σ D (f sd)
theorem PostS.mono {C : CT} {W : WX} {F F1 : Hp} {sd sd1 : SS} {σ σ1 : L2.St} {D : Ends} {r : RS} (f : Same F F1) (l : Lk sd σ sd1 σ1) (h : PostS C W F sd σ D r) : PostS C W F1 sd1 σ1 D r := by
  cases r with
  | nx s => exact fun F' H' σ' S q k => h F' H' σ' S (f.trans q) (l.trans k)
  | bk s => exact fun F' H' σ' S q k => h F' H' σ' S (f.trans q) (l.trans k)
  | ct s => exact fun F' H' σ' S q k => h F' H' σ' S (f.trans q) (l.trans k)
  | rt b d => cases b with
    | false => exact fun v F' H' e q => h v F' H' e (f.trans q)
    | true => exact fun v F' H' e q => h v F' H' e (f.trans q)
  | ex c vs s => exact fun cls dx F' H' σ' S q k => h cls dx F' H' σ' S (f.trans q) (l.trans k)
  | rm d s => exact fun v F' H' σ' S q k => h v F' H' σ' S (f.trans q) (l.trans k)
  | rn j s => exact fun v F' H' σ' S q k => h v F' H' σ' S (f.trans q) (l.trans k)
  | bad => exact h

/-! ### slots -/
def setS (s : SS) (i : Nat) (x : Sl) : Option SS := match s[i]? with
  | some (.lk _) => none
  | some (.nt true _) => none
  | some _ => some (s.set i x)
  | none => none
theorem setS_some {s s' : SS} {i : Nat} {x : Sl} (h : setS s i x = some s') : s' = s.set i x ∧ i < s.length ∧ ∀ y, s[i]? = some y → lkX y = false := by
  unfold setS at h
  split at h
  · cases h
  · cases h
  · rename_i y hn hn2 hs
    cases h
    refine ⟨rfl, (List.getElem?_eq_some_iff.mp hs).1, fun z e => ?_⟩
    rw [hs] at e
    cases e
    cases y with
    | lk d => exact (hn d rfl).elim
    | nt k d => cases k with
      | true => exact (hn2 d rfl).elim
      | false => rfl
    | _ => rfl
  · cases h
theorem lk_set {s s' : SS} {i : Nat} {x : Sl} {σ : L2.St} {v : V} (h : setS s i x = some s') : Lk s σ s' (σ.set i (some v)) := by
  obtain ⟨rfl, hi, hl⟩ := setS_some h
  exact lk_one hl fun j hij => List.getElem?_set_ne hij
theorem StR.setSh {C : CT} {F H : Hp} {s s' : SS} {σ : L2.St} {i : Nat} {d : D} {v : V} (S : StR C F H s σ) (h : setS s i (.sh d) = some s') (r : Rep C.G F d v) : StR C F H s' (σ.set i (some v)) := by
  obtain ⟨rfl, hi, hl⟩ := setS_some h
  have hiσ : i < σ.length := by rw [← S.len]; exact hi
  refine ⟨S.ext, by rw [List.length_set, List.length_set]; exact S.len, fun j e q => ?_, fun j e q => ?_, fun j k e e' a q1 q2 q3 q4 => ?_, S.nt.step (fun j k e q => ?_) (fun j k l q => ?_) (fun j e b q z => ?_) (Same.refl F) fun b o h1 h2 _ => ⟨h1, h2⟩⟩
  · by_cases hij : i = j
    · subst hij
      rw [List.getElem?_set_self hi] at q
      cases q
      exact ⟨v, List.getElem?_set_self hiσ, r⟩
    · rw [List.getElem?_set_ne hij] at q ⊢
      exact S.sh j e q
  · by_cases hij : i = j
    · subst hij
      rw [List.getElem?_set_self hi] at q
      rcases q with q | q <;> cases q
    · rw [List.getElem?_set_ne hij] at q ⊢
      exact S.ow j e q
  · by_cases hij : i = j
    · subst hij
      rw [List.getElem?_set_self hi] at q1
      rcases q1 with q | q <;> cases q
    · by_cases hik : i = k
      · subst hik
        rw [List.getElem?_set_self hi] at q2
        rcases q2 with q | q <;> cases q
      · rw [List.getElem?_set_ne hij] at q1 q3
        rw [List.getElem?_set_ne hik] at q2 q4
        exact S.dis j k e e' a q1 q2 q3 q4
  · by_cases hij : i = j
    · subst hij
      rw [List.getElem?_set_self hi] at q
      cases q
    · rw [List.getElem?_set_ne hij] at q ⊢
      exact ⟨q, rfl⟩
  · by_cases hij : i = j
    · subst hij
      rw [List.getElem?_set_self hi] at q
      cases q
    · rw [List.getElem?_set_ne hij] at q ⊢
      exact ⟨q, rfl⟩
  · by_cases hij : i = j
    · subst hij
      rw [List.getElem?_set_self hi] at q
      rcases q with q | q <;> cases q
    · rw [List.getElem?_set_ne hij] at q z
      exact .inl ⟨j, e, q, z⟩
theorem StR.setOw {C : CT} {F H H₁ : Hp} {s s' : SS} {σ : L2.St} {i : Nat} {d : D} {a : Addr} (S : StR C F H s σ) (h : setS s i (.ow d) = some s') (h₁ : ∀ (j : Nat) (e : D) (b : Addr), s[j]? = some (.ow e) ∨ s[j]? = some (.lk e) → σ[j]? = some (some (.ref b)) → ∃ o, H₁ b = some o)
    (hN : NtOk C H₁ F H s σ) (ha : H₁ a = none) (h0 : C.H0 a = none) (hf : F a = none) (r : OwR C.G F H a d) : StR C F H s' (σ.set i (some (.ref a))) := by
  obtain ⟨rfl, hi, hl⟩ := setS_some h
  have hiσ : i < σ.length := by rw [← S.len]; exact hi
  have new : ∀ (j : Nat) (e : D), s[j]? = some (.ow e) ∨ s[j]? = some (.lk e) → σ[j]? ≠ some (some (.ref a)) := fun j e q z => by
    obtain ⟨o, ho⟩ := h₁ j e a q z
    rw [ha] at ho
    cases ho
  refine ⟨S.ext, by rw [List.length_set, List.length_set]; exact S.len, fun j e q => ?_, fun j e q => ?_, fun j k e e' b q1 q2 q3 q4 => ?_, (hN.step (fun j k e q => ?_) (fun j k l q => ?_) (fun j e b q z => ?_) (Same.refl F) fun b o h1 h2 _ => ⟨h1, h2⟩).up⟩
  · by_cases hij : i = j
    · subst hij
      rw [List.getElem?_set_self hi] at q
      cases q
    · rw [List.getElem?_set_ne hij] at q ⊢
      exact S.sh j e q
  · by_cases hij : i = j
    · subst hij
      rw [List.getElem?_set_self hi] at q
      rcases q with q | q
      · cases q
        exact ⟨a, List.getElem?_set_self hiσ, h0, hf, r⟩
      · cases q
    · rw [List.getElem?_set_ne hij] at q ⊢
      exact S.ow j e q
  · by_cases hij : i = j
    · subst hij
      rw [List.getElem?_set_self hiσ] at q3
      cases q3
      by_cases hik : i = k
      · exact hik
      · rw [List.getElem?_set_ne hik] at q2 q4
        exact (new k e' q2 q4).elim
    · by_cases hik : i = k
      · subst hik
        rw [List.getElem?_set_self hiσ] at q4
        cases q4
        rw [List.getElem?_set_ne hij] at q1 q3
        exact (new j e q1 q3).elim
      · rw [List.getElem?_set_ne hij] at q1 q3
        rw [List.getElem?_set_ne hik] at q2 q4
        exact S.dis j k e e' b q1 q2 q3 q4
  · by_cases hij : i = j
    · subst hij
      rw [List.getElem?_set_self hi] at q
      cases q
    · rw [List.getElem?_set_ne hij] at q ⊢
      exact ⟨q, rfl⟩
  · by_cases hij : i = j
    · subst hij
      rw [List.getElem?_set_self hi] at q
      cases q
    · rw [List.getElem?_set_ne hij] at q ⊢
      exact ⟨q, rfl⟩
  · by_cases hij : i = j
    · subst hij
      rw [List.getElem?_set_self hiσ] at z
      cases z
      exact .inr ha
    · rw [List.getElem?_set_ne hij] at q z
      exact .inl ⟨j, e, q, z⟩
theorem StR.ntIn {C : CT} {F H F1 H1 : Hp} {s : SS} {σ : L2.St} (S : StR C F H s σ) (e : Ext F H F1 H1) : NtOk C H F1 H1 s σ :=
  S.nt.step (fun i k d q => ⟨q, rfl⟩) (fun r i j q => ⟨q, rfl⟩) (fun j e b q z => .inl ⟨j, e, q, z⟩) e.ff fun b o h1 h2 _ => ⟨e.hh _ _ h1, e.ow _ _ h1 h2⟩
/-- the own objects stand there -/
theorem StR.owns {C : CT} {F H : Hp} {s : SS} {σ : L2.St} (S : StR C F H s σ) : ∀ (j : Nat) (e : D) (b : Addr), s[j]? = some (.ow e) ∨ s[j]? = some (.lk e) → σ[j]? = some (some (.ref b)) → ∃ o, H b = some o := fun j e b q z => by
  obtain ⟨a, h1, _, _, h4⟩ := S.ow j e q
  rw [h1] at z
  cases z
  exact h4.there

section
variable {X : Cx} {C : CT} {W : WX} {e : Expr} {fe : SS → R D} {pos : Pos} {st : Stmt} {sts : List Stmt} {f f' : SS → RS}
/-- what is made of an expression's result -/
def sE (fe : SS → R D) (k : D → SS → RS) : SS → RS := fun s => match fe s with
  | .ok d => k d s
  | .ex c vs => .ex c vs s
  | .bad => .bad
def optS (o : Option SS) : RS := match o with
  | some s => .nx s
  | none => .bad
/-- name = e -/
def sSet (i : Nat) (fe : SS → R D) : SS → RS := sE fe fun d s => optS (setS s i (.sh d))
def sSetO (i : Nat) (fe : SS → R D) : SS → RS := sE fe fun d s => optS (setS s i (.ow d))
theorem postS_E {F H : Hp} {sd : SS} {σ : L2.St} {En : Ends} {k : D → SS → RS} {P : Hp → Hp → D → V → Prop} {Q : VK} (S : StR C F H sd σ) (h : PostS C W F sd σ En (sE fe k sd))
    (hk : ∀ d v F1 H1, Ext F H F1 H1 → P F1 H1 d v → PostS C W F sd σ En (k d sd) → Q v H1) : PostE C W F H σ P Q (fe sd) := by
  unfold sE at h
  cases q : fe sd with
  | ok d =>
    rw [q] at h
    exact fun v F' H' e p => hk d v F' H' e p h
  | ex c vs =>
    rw [q] at h
    exact fun cls dx F' H' e x => h cls dx F' H' σ (S.mono e) e.ff Lk.refl x
  | bad => rw [q] at h; exact h
theorem s_set (i : Nat) {x : Str} {pos' : Pos} (he : PE X e (tD C W fe)) (hN : X.N.Nodup) (hi : X.N[i]? = some x := by rfl) (hx : Loc X.env.scope x := by first | exact Or.inl rfl | exact Or.inr rfl) (hs : swapsWith e (some (.Name x pos')) pos.line X.env = pure false := by rfl)
    (hf : X.fn x = true ∨ X.env.scope.names.lookup x = some .local := by first | exact .inl rfl | exact .inr rfl) : PS X (.Assign [.Name x pos'] e pos) (tS C W (sSet i fe)) := by
  refine ps_imp (ps_set (i := i) hN hi hx he hs hf) fun D σ H ⟨F, sd, S, h⟩ => ?_
  refine ⟨F, sd, S, postS_E S h fun d v F1 H1 e1 r h1 => ?_⟩
  cases q : setS sd i (.sh d) with
  | none => rw [q] at h1; exact h1.elim
  | some s' =>
    rw [q] at h1
    exact h1 F1 H1 _ ((S.mono e1).setSh q r) e1.ff (lk_set q)
theorem s_seto (i : Nat) {x : Str} {pos' : Pos} (he : PE X e (tF C W fe)) (hN : X.N.Nodup) (hi : X.N[i]? = some x := by rfl) (hx : Loc X.env.scope x := by first | exact Or.inl rfl | exact Or.inr rfl) (hs : swapsWith e (some (.Name x pos')) pos.line X.env = pure false := by rfl)
    (hf : X.fn x = true ∨ X.env.scope.names.lookup x = some .local := by first | exact .inl rfl | exact .inr rfl) : PS X (.Assign [.Name x pos'] e pos) (tS C W (sSetO i fe)) := by
  refine ps_imp (ps_set (i := i) hN hi hx he hs hf) fun D σ H ⟨F, sd, S, h⟩ => ?_
  refine ⟨F, sd, S, postS_E S h fun d v F1 H1 e1 r h1 => ?_⟩
  obtain ⟨a, rfl, hn, hf, ow⟩ := r
  cases q : setS sd i (.ow d) with
  | none => rw [q] at h1; exact h1.elim
  | some s' =>
    rw [q] at h1
    exact h1 F1 H1 _ ((S.mono e1).setOw (H₁ := H) q S.owns (S.ntIn e1) hn (S.ext.hh.free hn) hf ow) e1.ff (lk_set q)
/-- an expression whose value is dropped -/
def sX (fe : SS → R D) : SS → RS := sE fe fun _ s => .nx s
theorem s_x (he : PE X e (tD C W fe)) (hs : swapsWith e none pos.line X.env = pure false := by rfl) : PS X (.Expr e pos) (tS C W (sX fe)) := by
  refine ps_imp (ps_expr he hs) fun D σ H ⟨F, sd, S, h⟩ => ?_
  exact ⟨F, sd, S, postS_E S h fun d v F1 H1 e1 r h1 => h1 F1 H1 σ (S.mono e1) e1.ff Lk.refl⟩
/-- return e -/
def sRet (fe : SS → R D) : SS → RS := sE fe fun d _ => .rt false d
def sRetF (fe : SS → R D) : SS → RS := sE fe fun d _ => .rt true d
theorem s_ret (he : PE X e (tD C W fe)) : PS X (.Return (some e) pos) (tS C W (sRet fe)) := by
  refine ps_imp (ps_ret he) fun D σ H ⟨F, sd, S, h⟩ => ?_
  exact ⟨F, sd, S, postS_E S h fun d v F1 H1 e1 r h1 => h1 v F1 H1 (S.ext.trans e1) e1.ff r⟩
theorem s_retf (he : PE X e (tF C W fe)) : PS X (.Return (some e) pos) (tS C W (sRetF fe)) := by
  refine ps_imp (ps_ret he) fun D σ H ⟨F, sd, S, h⟩ => ?_
  refine ⟨F, sd, S, postS_E S h fun d v F1 H1 e1 r h1 => ?_⟩
  obtain ⟨a, rfl, hn, hf, ow⟩ := r
  exact h1 a F1 H1 (S.ext.trans e1) e1.ff (S.ext.hh.free hn) hf ow
def sRetN : SS → RS := fun _ => .rt false .non
theorem s_retn : PS X (.Return none pos) (tS C W sRetN) := ps_imp ps_retN fun D σ H ⟨F, sd, S, h⟩ => h .non F H S.ext (Same.refl F) (rep_non.mpr rfl)
/-- return x, x an own object: handed on -/
def sRetO (i : Nat) : SS → RS := fun s => match s[i]? with
  | some (.ow d) => .rt true d
  | _ => .bad
theorem s_reto (i : Nat) {x : Str} {p : Pos} (hN : X.N[i]? = some x := by rfl) (hv : Vis X.env.scope x := by first | exact Or.inl rfl | exact Or.inr (Or.inl rfl) | exact Or.inr (Or.inr rfl)) (hd : (x == ("__debug__" : Str)) = false := by decide)
    (hcd : (x == ("__classdict__" : Str)) = false := by decide) : PS X (.Return (some (.Name x p)) pos) (tS C W (sRetO i)) := by
  refine ps_imp (ps_ret (pe_var (i := i) hN hv hd hcd)) fun D σ H ⟨F, sd, S, h⟩ => ?_
  unfold sRetO at h
  split at h
  · rename_i d hd'
    obtain ⟨a, h1, h2, h3, h4⟩ := S.ow i d (.inl hd')
    exact ⟨_, h1, h a F H S.ext (Same.refl F) h2 h3 h4⟩
  · exact h.elim
def sNx : SS → RS := fun s => .nx s
def sBk : SS → RS := fun s => .bk s
def sCt : SS → RS := fun s => .ct s
theorem s_pass : PS X (.Pass pos) (tS C W sNx) := ps_imp ps_pass fun D σ H ⟨F, sd, S, h⟩ => h F H σ S (Same.refl F) Lk.refl
theorem s_bk : PS X (.Break pos) (tS C W sBk) := ps_imp ps_break fun D σ H ⟨F, sd, S, h⟩ => h F H σ S (Same.refl F) Lk.refl
theorem s_ct : PS X (.Continue pos) (tS C W sCt) := ps_imp ps_continue fun D σ H ⟨F, sd, S, h⟩ => h F H σ S (Same.refl F) Lk.refl
/-- blocks -/
def sSeq (f g : SS → RS) : SS → RS := fun s => match f s with
  | .nx s' => g s'
  | r => r
theorem ss_nil : PSs X [] (tS C W sNx) := pss_imp pss_nil fun D σ H ⟨F, sd, S, h⟩ => h F H σ S (Same.refl F) Lk.refl
theorem ss_cons (h1 : PS X st (tS C W f)) (h2 : PSs X sts (tS C W f')) : PSs X (st :: sts) (tS C W (sSeq f f')) := by
  refine pss_imp (pss_cons h1 h2) fun D σ H ⟨F, sd, S, h⟩ => ?_
  refine ⟨F, sd, S, ?_⟩
  unfold sSeq at h
  cases q : f sd with
  | nx s' =>
    rw [q] at h
    exact fun F' H' σ' S' f l => ⟨F', s', S', PostS.mono f l h⟩
  | bk s' => rw [q] at h; exact h
  | ct s' => rw [q] at h; exact h
  | rt b d => rw [q] at h; cases b <;> exact h
  | ex c vs s' => rw [q] at h; exact h
  | rm d s' => rw [q] at h; exact h
  | rn j s' => rw [q] at h; exact h
  | bad => rw [q] at h; exact h
theorem ss_one (h1 : PS X st (tS C W f)) : PSs X [st] (tS C W f) := pss_one h1
/-- if -/
def sIf (fc : SS → R D) (f g : SS → RS) : SS → RS := sE fc fun d s => match d with
  | .bl true => f s
  | .bl false => g s
  | _ => .bad
theorem postS_T {F H : Hp} {sd : SS} {σ : L2.St} {D : Ends} {k : Bool → SS → RS} {Q : Bool → Hp → Prop} (S : StR C F H sd σ) (h : PostS C W F sd σ D (sE fe (fun d s => match d with | .bl b => k b s | _ => .bad) sd))
    (hk : ∀ b F1 H1, Ext F H F1 H1 → PostS C W F sd σ D (k b sd) → Q b H1) : PostT C W F H σ Q (fe sd) := by
  unfold sE at h
  cases q : fe sd with
  | ok d =>
    rw [q] at h
    cases d with
    | bl b => exact fun F' H' e => hk b F' H' e h
    | _ => exact h.elim
  | ex c vs =>
    rw [q] at h
    exact fun cls dx F' H' e x => h cls dx F' H' σ (S.mono e) e.ff Lk.refl x
  | bad => rw [q] at h; exact h
theorem sE_congr {k k' : D → SS → RS} (h : ∀ d s, k d s = k' d s) : sE fe k = sE fe k' := by
  have : k = k' := funext fun d => funext fun s => h d s
  rw [this]
theorem sIf_eq {fc : SS → R D} {f g : SS → RS} : sIf fc f g = sE fc fun d s => match d with | .bl b => (if b = true then f s else g s) | _ => .bad := by
  unfold sIf
  refine sE_congr fun d s => ?_
  cases d with
  | bl b => cases b <;> rfl
  | _ => rfl
theorem s_ifs {a b : List Stmt} {fc : SS → R D} (hc : PT X e (tT C W fc)) (ha : PSs X a (tS C W f)) (hb : PSs X b (tS C W f')) : PS X (.If e a b pos) (tS C W (sIf fc f f')) := by
  refine ps_imp (ps_if hc ha hb) fun D σ H ⟨F, sd, S, h⟩ => ?_
  rw [sIf_eq] at h
  refine ⟨F, sd, S, postS_T S h fun b F1 H1 e1 h1 => ?_⟩
  cases b with
  | true =>
    rw [if_pos rfl] at h1 ⊢
    exact ⟨F1, sd, S.mono e1, PostS.mono e1.ff Lk.refl h1⟩
  | false =>
    rw [if_neg Bool.false_ne_true] at h1 ⊢
    exact ⟨F1, sd, S.mono e1, PostS.mono e1.ff Lk.refl h1⟩
/-- an own object becomes a shared one -/
def frz (i : Nat) (s : SS) : SS := match s[i]? with
  | some (.ow d) => s.set i (.sh d)
  | _ => s
theorem StR.frz {X : Cx} {pins : List (Addr × Obj)} {s : Shared} {F H : Hp} {sd : SS} {σ : L2.St} (i : Nat) (I : Inv X pins σ H s) (S : StR C F H sd σ) : ∃ F' H', Same F F' ∧ Inv X pins σ H' s ∧ StR C F' H' (Z.frz i sd) σ ∧ Lk sd σ (Z.frz i sd) σ := by
  unfold Z.frz
  cases q : sd[i]? with
  | none => exact ⟨F, H, Same.refl F, I, S, Lk.refl⟩
  | some u =>
    cases u with
    | ow d =>
      obtain ⟨a, h1, h2, h3, h4⟩ := S.ow i d (.inl q)
      obtain ⟨o, o', ho, fz, nd, I2⟩ := lay_fast I h4
      have hi : i < sd.length := (List.getElem?_eq_some_iff.mp q).1
      have s1 : Same F (upd F a o') := same_new h3
      have s2 : Same (upd F a o') (upd H a o') := fun b u z => by
        by_cases hb : b = a
        · subst hb; rw [upd_same] at z ⊢; exact z
        · rw [upd_ne hb] at z ⊢; exact S.fh _ _ z
      have other : ∀ (j : Nat) (e : D) (b : Addr), j ≠ i → sd[j]? = some (.ow e) ∨ sd[j]? = some (.lk e) → σ[j]? = some (some (.ref b)) → b ≠ a := fun j e b hj q2 q3 z => by
        subst z
        exact hj (S.dis j i e d b q2 (.inl q) q3 h1)
      refine ⟨upd F a o', upd H a o', s1, I2, ⟨⟨S.ext.ff.trans s1, fun b u z => ?_, s2, fun b u e1 e2 => ?_⟩, by rw [List.length_set]; exact S.len, fun j e q2 => ?_, fun j e q2 => ?_, fun j k e e' b q1 q2 => ?_, (S.nt.step (fun j k e q2 => ?_) (fun j k l q2 => ?_) (fun j e b q2 z => ?_) s1 fun b o z1 z2 z3 => ?_).up⟩, fun j e q2 => ?_⟩
      · have hb : b ≠ a := fun y => by subst y; rw [h2] at z; cases z
        rw [upd_ne hb]
        exact S.ext.hh _ _ z
      · have hb : b ≠ a := fun z => by subst z; rw [h2] at e1; cases e1
        rw [upd_ne hb]
        exact S.ext.ow b u e1 e2
      · by_cases hij : i = j
        · subst hij
          rw [List.getElem?_set_self hi] at q2
          cases q2
          exact ⟨_, h1, h4.rep s1 fun u z => by rw [ho] at z; cases z; exact ⟨o', upd_same, fz, nd⟩⟩
        · rw [List.getElem?_set_ne hij] at q2
          obtain ⟨v, e1, e2⟩ := S.sh j e q2
          exact ⟨v, e1, Rep.mono s1 e2⟩
      · by_cases hij : i = j
        · subst hij
          rw [List.getElem?_set_self hi] at q2
          rcases q2 with z | z <;> cases z
        · rw [List.getElem?_set_ne hij] at q2
          obtain ⟨b, e1, e2, e3, e4⟩ := S.ow j e q2
          have hb := other j e b (Ne.symm hij) q2 e1
          refine ⟨b, e1, e2, by rw [upd_ne hb]; exact e3, e4.mono s1 fun _ z => ?_⟩
          rw [upd_ne hb]; exact z
      · by_cases hij : i = j
        · subst hij
          rw [List.getElem?_set_self hi] at q1
          rcases q1 with z | z <;> cases z
        · by_cases hik : i = k
          · subst hik
            rw [List.getElem?_set_self hi] at q2
            rcases q2 with z | z <;> cases z
          · rw [List.getElem?_set_ne hij] at q1
            rw [List.getElem?_set_ne hik] at q2
            exact S.dis j k e e' b q1 q2
      · by_cases hij : i = j
        · subst hij
          rw [List.getElem?_set_self hi] at q2
          cases q2
        · rw [List.getElem?_set_ne hij] at q2
          exact ⟨q2, rfl⟩
      · by_cases hij : i = j
        · subst hij
          rw [List.getElem?_set_self hi] at q2
          cases q2
        · rw [List.getElem?_set_ne hij] at q2
          exact ⟨q2, rfl⟩
      · by_cases hij : i = j
        · subst hij
          rw [List.getElem?_set_self hi] at q2
          rcases q2 with z | z <;> cases z
        · rw [List.getElem?_set_ne hij] at q2
          exact .inl ⟨j, e, q2, z⟩
      · have hb : b ≠ a := fun y => by subst y; exact z3 i d (.inl q) h1
        rw [upd_ne hb, upd_ne hb]
        exact ⟨z1, z2⟩
      · exact lk_one (fun y e => by rw [q] at e; cases e; rfl) (fun _ _ => rfl) j e q2
    | _ => exact ⟨F, H, Same.refl F, I, S, Lk.refl⟩
def sFrz (i : Nat) (f : SS → RS) : SS → RS := fun s => f (frz i s)
theorem s_frz (i : Nat) (h : PS X st (tS C W f)) : PS X st (tS C W (sFrz i f)) := ⟨fun pins s σ H D I hh => by
  obtain ⟨F, sd, S, hh⟩ := hh
  obtain ⟨F', H', q, I2, S', l⟩ := S.frz i I
  exact h.run pins s σ H' D I2 ⟨F', Z.frz i sd, S', PostS.mono q l hh⟩⟩
end
end
end Z
namespace Z
noncomputable section
open PySem PySem.Spec PySem.P PyProof.Rows L2

/-! ### targets -/
abbrev FG := D → SS → Option SS
/-- σ' is σ but for the slots vs -/
def But (vs : List Nat) (σ σ' : L2.St) : Prop := σ'.length = σ.length ∧ ∀ j, j ∉ vs → σ'[j]? = σ[j]?
theorem But.trans {vs us : List Nat} {σ σ1 σ2 : L2.St} (a : But vs σ σ1) (b : But us σ1 σ2) : But (vs ++ us) σ σ2 :=
  ⟨b.1.trans a.1, fun j h => by
    rw [List.mem_append, not_or] at h
    exact (b.2 j h.2).trans (a.2 j h.1)⟩
def tG (C : CT) (ft : FG) (vs : List Nat) : TG := fun v σ H Q => ∃ F s d s', StR C F H s σ ∧ Rep C.G F d v ∧ ft d s = some s' ∧ ∀ σ', StR C F H s' σ' → Lk s σ s' σ' → But vs σ σ' → Q σ' H
def seqG : List FG → List D → SS → Option SS
  | [], [], s => some s
  | g :: gs, d :: ds, s => (g d s).bind (seqG gs ds)
  | _, _, _ => none
def tGs (C : CT) (gs : List FG) (vs : List Nat) : TGs := fun us σ H Q => ∃ F s ds s', StR C F H s σ ∧ RepL C.G F ds us ∧ seqG gs ds s = some s' ∧ ∀ σ', StR C F H s' σ' → Lk s σ s' σ' → But vs σ σ' → Q σ' H
def gN (i : Nat) : FG := fun d s => setS s i (.sh d)
def gT (gs : List FG) : FG := fun d s => match d with
  | .tup ds => seqG gs ds s
  | _ => none
theorem pg_imp {X : Cx} {e : Expr} {t t' : TG} (h : PG X e t) (i : ∀ v σ H Q, t' v σ H Q → t v σ H Q) : PG X e t' := ⟨fun pins s σ H v u Q I r q => h.run pins s σ H v u Q I r (i v σ H Q q)⟩
theorem pgs_imp {X : Cx} {e : List Expr} {t t' : TGs} (h : PGs X e t) (i : ∀ v σ H Q, t' v σ H Q → t v σ H Q) : PGs X e t' := ⟨fun pins s σ H v u Q I r q => h.run pins s σ H v u Q I r (i v σ H Q q)⟩
section
variable {X : Cx} {C : CT} {W : WX} {e tg : Expr} {es : List Expr} {fe : SS → R D} {pos : Pos} {g : FG} {gs : List FG}
theorem g_n (i : Nat) {x : Str} (hN : X.N.Nodup) (hi : X.N[i]? = some x := by rfl) (hx : Loc X.env.scope x := by first | exact Or.inl rfl | exact Or.inr rfl) (hf : X.fn x = true ∨ X.env.scope.names.lookup x = some .local := by first | exact .inl rfl | exact .inr rfl) : PG X (.Name x pos) (tG C (gN i) [i]) :=
  pg_imp (pg_name hN hi hx hf) fun v σ H Q ⟨F, s, d, s', S, r, h, q⟩ => q _ (S.setSh h r) (lk_set h) ⟨List.length_set, fun j hj => List.getElem?_set_ne (fun z => hj (by simp [z]))⟩
theorem g_nil : PGs X [] (tGs C [] []) := pgs_imp pgs_nil fun v σ H Q ⟨F, s, ds, s', S, r, h, q⟩ => by
  cases ds with
  | nil =>
    unfold RepL at r
    cases h
    exact ⟨r, q σ S Lk.refl ⟨rfl, fun _ _ => rfl⟩⟩
  | cons d ds => cases h
theorem g_cons {vs us : List Nat} (h1 : PG X e (tG C g vs)) (h2 : PGs X es (tGs C gs us)) (hs : (assignEach (e :: es) X.env).map (·.2) = assign e X.env :: (assignEach es X.env).map (·.2) := by rfl) : PGs X (e :: es) (tGs C (g :: gs) (vs ++ us)) :=
  pgs_imp (pgs_cons h1 h2 hs) fun v σ H Q ⟨F, s, ds, s', S, r, h, q⟩ => by
    cases ds with
    | nil => cases h
    | cons d ds =>
      unfold RepL at r
      obtain ⟨u, t, rfl, r1, r2⟩ := r
      refine ⟨u, t, rfl, ?_⟩
      have h : (g d s).bind (seqG gs ds) = some s' := h
      cases k : g d s with
      | none => rw [k] at h; cases h
      | some s1 =>
        rw [k] at h
        exact ⟨F, s, d, s1, S, r1, k, fun σ1 S1 l1 b1 => ⟨F, s1, ds, s', S1, r2, h, fun σ2 S2 l2 b2 => q σ2 S2 (l1.trans l2) (b1.trans b2)⟩⟩
theorem seqG_len : ∀ {gs : List FG} {ds : List D} {s s' : SS}, seqG gs ds s = some s' → ds.length = gs.length
  | [], [], _, _, _ => rfl
  | [], _ :: _, _, _, h => by cases h
  | _ :: _, [], _, _, h => by cases h
  | g :: gs, d :: ds, s, s', h => by
    have h : (g d s).bind (seqG gs ds) = some s' := h
    cases k : g d s with
    | none => rw [k] at h; cases h
    | some s1 =>
      rw [k] at h
      have := seqG_len (gs := gs) (ds := ds) h
      simp [this]
theorem g_t {k : Nat} {vs : List Nat} (v : Pl X C W) (h : PGs X es (tGs C gs vs)) (hl : gs.length = es.length := by rfl) (hn : (assignEach es X.env).length = es.length := by rfl) (hst : (assignEach es X.env).findIdx? (·.1) = none := by rfl) : PG X (.Tuple es k pos) (tG C (gT gs) vs) :=
  pg_imp (pg_tup v.calm h hn hst) fun u σ H Q ⟨F, s, d, s', S, r, hh, q⟩ => by
    unfold gT at hh
    cases d with
    | tup ds =>
      obtain ⟨a, xs, rfl, sq, rr⟩ := rep_tup.mp r
      rw [← v.K] at sq
      refine ⟨a, xs, rfl, Same.seqT S.fh sq, ?_, F, s, ds, s', S, rr, hh, q⟩
      rw [rr.length, seqG_len hh, hl]
    | _ => cases hh
/-- targets = e -/
def sAsg (ft : FG) (fe : SS → R D) : SS → RS := sE fe fun d s => optS (ft d s)
theorem s_asg {vs : List Nat} (he : PE X e (tD C W fe)) (hg : PG X tg (tG C g vs)) (hs : swapsWithSole [tg] e pos.line X.env = pure false := by rfl) (hw : swappedStores [tg] e X.env = pure none := by rfl)
    (h1 : (assignEach [tg] X.env).map (·.2) = [assign tg X.env] := by rfl) : PS X (.Assign [tg] e pos) (tS C W (sAsg g fe)) := by
  refine ps_imp (ps_asg he hg hs hw h1) fun D σ H ⟨F, sd, S, h⟩ => ?_
  refine ⟨F, sd, S, postS_E S h fun d v F1 H1 e1 r h1 => ?_⟩
  cases q : g d sd with
  | none => rw [q] at h1; exact h1.elim
  | some s' =>
    rw [q] at h1
    exact ⟨F1, sd, d, s', S.mono e1, r, q, fun σ' S' l' _ => h1 F1 H1 σ' S' e1.ff l'⟩
end

/-! ### what is walked -/
structure ItOk (G : GE) (F : Hp) (J : It) (ds : List D) : Prop where
  go : ∀ (i : Nat) (F' H' : Hp), Same F F' → Same F' H' → i < ds.length → J.go i H'
  yld : ∀ (i : Nat) (F' H' : Hp) (x : V) (H'' : Hp), Same F F' → Same F' H' → i < ds.length → J.yld i H' x H'' → ∃ F'' d, Ext F' H' F'' H'' ∧ ds[i]? = some d ∧ Rep G F'' d x
  stop : ∀ (i : Nat) (F' H' : Hp), Same F F' → Same F' H' → ds.length ≤ i → J.stop i H'
def PostI (C : CT) (W : WX) (F H : Hp) (σ : L2.St) (Q : It → Hp → Prop) : R (List D) → Prop
  | .ok ds => ∀ J F' H', Ext F H F' H' → ItOk C.G F' J ds → Q J H'
  | .ex c vs => ∀ cls dx F' H', Ext F H F' H' → XR C.G F' c vs cls dx → W cls dx σ H'
  | .bad => False
def tI (C : CT) (W : WX) (f : SS → R (List D)) : TI := fun σ H Q => ∃ F sd, StR C F H sd σ ∧ PostI C W F H σ Q (f sd)
theorem pi_imp {X : Cx} {tg e : Expr} {t t' : TI} (h : PI X tg e t) (i : ∀ σ H Q, t' σ H Q → t σ H Q) : PI X tg e t' := ⟨fun pins s σ H Q I q => h.run pins s σ H Q I (i σ H Q q)⟩
/-- a key as data -/
def keyDd : Key → D
  | .inl i => .int i
  | .inr x => .str x.cps.toList
def keyOk : Key → Bool
  | .inl _ => true
  | .inr x => okS x.cps.toList
theorem keyDd_rep {G : GE} {F : Hp} {k : Key} (h : keyOk k = true) : Rep G F (keyDd k) (kV k) := by
  cases k with
  | inl i => exact rep_int.mpr rfl
  | inr x => exact rep_str.mpr ⟨rfl, h⟩
/-- the items of a list, a tuple, a text, the keys of a dict -/
def itD : D → R (List D)
  | .lst ds => .ok ds
  | .tup ds => .ok ds
  | .str x => .ok (x.map fun c => .str [c])
  | .dic ks _ => if ks.all keyOk = true then .ok (ks.map keyDd) else .bad
  | _ => .bad
def iE (fe : SS → R D) : SS → R (List D) := fun s => (fe s).bind itD
section
variable {X : Cx} {C : CT} {W : WX} {a b c e tg : Expr} {es : List Expr} {fe fa fb fc : SS → R D} {pos p : Pos} {fi : SS → R (List D)}
theorem PostI.ext {F H F1 H1 : Hp} {σ : L2.St} {Q : It → Hp → Prop} {r : R (List D)} (e : Ext F H F1 H1) (h : PostI C W F H σ Q r) : PostI C W F1 H1 σ Q r := by
  cases r with
  | ok d => exact fun J F' H' e' p => h J F' H' (e.trans e') p
  | ex c vs => exact fun cls dx F' H' e' x => h cls dx F' H' (e.trans e') x
  | bad => exact h
theorem PostI.bind {F H : Hp} {σ : L2.St} {P : Hp → Hp → D → V → Prop} {Q : It → Hp → Prop} {Q1 : VK} {x : R D} {k : D → R (List D)} (h : PostI C W F H σ Q (x.bind k))
    (hk : ∀ d v F1 H1, Ext F H F1 H1 → P F1 H1 d v → PostI C W F1 H1 σ Q (k d) → Q1 v H1) : PostE C W F H σ P Q1 x := by
  cases x with
  | ok d => exact fun v F' H' e r => hk d v F' H' e r (PostI.ext e h)
  | ex c vs => exact h
  | bad => exact h
theorem it_list {G : GE} {K : PySem.W.Frag} (hK : K = G.K) {F : Hp} {l : Addr} {vs : List V} {ds : List D} (q : SqL G.K F l vs) (r : RepL G F ds vs) : ItOk G F (Itl K l) ds where
  go := fun i F' H' f h hi => by
    subst hK
    have hv : i < vs.length := by rw [r.length]; exact hi
    exact ⟨vs, vs[i], h.seq (f.seq q), by simp [hv]⟩
  yld := fun i F' H' x H'' f h hi y => by
    subst hK
    obtain ⟨rfl, y⟩ := y
    obtain ⟨d, e, rr⟩ := r.get' (y vs (h.seq (f.seq q)))
    exact ⟨F', d, Ext.refl h, e, Rep.mono f rr⟩
  stop := fun i F' H' f h hi => by
    subst hK
    exact ⟨vs, h.seq (f.seq q), by rw [r.length]; exact hi⟩
theorem it_tup {G : GE} {K : PySem.W.Frag} (hK : K = G.K) {F : Hp} {l : Addr} {vs : List V} {ds : List D} (q : SqT G.K F l vs) (r : RepL G F ds vs) : ItOk G F (Itt K l) ds where
  go := fun i F' H' f h hi => by
    subst hK
    have hv : i < vs.length := by rw [r.length]; exact hi
    exact ⟨vs, vs[i], Same.seqT h (Same.seqT f q), by simp [hv]⟩
  yld := fun i F' H' x H'' f h hi y => by
    subst hK
    obtain ⟨rfl, y⟩ := y
    obtain ⟨d, e, rr⟩ := r.get' (y vs (Same.seqT h (Same.seqT f q)))
    exact ⟨F', d, Ext.refl h, e, Rep.mono f rr⟩
  stop := fun i F' H' f h hi => by
    subst hK
    exact ⟨vs, Same.seqT h (Same.seqT f q), by rw [r.length]; exact hi⟩
theorem it_str {G : GE} {F : Hp} {x : List Nat} (k : okS x = true) : ItOk G F (Its ⟨x.toArray⟩) (x.map fun c => .str [c]) where
  go := fun i F' H' f h hi => by
    show i < Array.size _
    rw [List.size_toArray]
    simpa using hi
  yld := fun i F' H' v H'' f h hi y => by
    obtain ⟨rfl, c, e, rfl⟩ := y
    have e : x[i]? = some c := by simpa using e
    exact ⟨F', .str [c], Ext.refl h, by rw [List.getElem?_map, e]; rfl, rep_str.mpr ⟨rfl, okS_mem k (List.mem_of_getElem? e)⟩⟩
  stop := fun i F' H' f h hi => by
    show Array.size _ ≤ i
    rw [List.size_toArray]
    simpa using hi
theorem it_keys {G : GE} {F : Hp} {l : Addr} {o : Obj} {kvs : List (Key × V)} (q : F l = some (.frz o (.dK kvs))) (hk : (kvs.map (·.1)).all keyOk = true) : ItOk G F (Itk l o kvs) ((kvs.map (·.1)).map keyDd) where
  go := fun i F' H' f h hi => ⟨h _ _ (f _ _ q), by simpa using hi⟩
  yld := fun i F' H' x H'' f h hi y => by
    obtain ⟨rfl, k, v, e, rfl⟩ := y
    have e1 : (kvs.map (·.1))[i]? = some k := by rw [List.getElem?_map, e]; rfl
    exact ⟨F', keyDd k, Ext.refl h, by rw [List.getElem?_map, e1]; rfl, keyDd_rep (List.all_eq_true.mp hk k (List.mem_of_getElem? e1))⟩
  stop := fun i F' H' f h hi => ⟨h _ _ (f _ _ q), by simpa using hi⟩
theorem s_iter (v : Pq X C W) (he : PE X e (tD C W fe)) : PI X tg e (tI C W (iE fe)) := by
  refine ⟨fun pins s σ H Q I ⟨F, sd, S, h⟩ => ?_⟩
  refine thn (he.run pins s σ H (fun x H1 => ∃ F1 d, Same F1 H1 ∧ Rep C.G F1 d x ∧ PostI C W F1 H1 σ Q (itD d)) I ⟨F, sd, S, PostI.bind h fun d v F1 H1 e1 r h1 => ⟨F1, d, e1.fh, r, h1⟩⟩) fun u s1 ⟨x, H1, I1, r1, F1, d, f1, rp, h1⟩ => ?_
  have one : ∀ {Q' : VK}, Q' x H1 → (tC x) σ H1 Q' := fun q => q
  cases d with
  | lst ds =>
    have h1 : PostI C W F1 H1 σ Q (.ok ds) := h1
    obtain ⟨a, xs, rfl, q, rr⟩ := rep_lst.mp rp
    cases r1
    have q' := f1.seq q
    rw [← v.K] at q'
    obtain ⟨its, rv, pl, hz⟩ := I1.list q'
    refine wpAny_pyIter_list pl.isList ?_
    refine ⟨s1.heap.objs.size, [s1.heap.objs.size], _, _, H1, rfl, I1.kept (t' := s1.toks) fun b o e => Heap.get?_push_of_some _ e, turn_list a _, ⟨_, Heap.get?_push_size _ rfl, rfl, rfl⟩, fun b hb => ?_, ?_⟩
    · have e : b = s1.heap.objs.size := by simpa using hb
      subst e
      exact I1.fpOk (Nat.le_refl _) (I1.hok.fresh (Nat.le_refl _))
    · exact h1 _ F1 H1 (Ext.refl f1) (it_list v.K q rr)
  | tup ds =>
    have h1 : PostI C W F1 H1 σ Q (.ok ds) := h1
    obtain ⟨a, xs, rfl, q, rr⟩ := rep_tup.mp rp
    cases r1
    have q' := Same.seqT f1 q
    rw [← v.K] at q'
    obtain ⟨its, rv, pl, hz⟩ := I1.tuple q'
    refine wpAny_pyIter_tuple (show s1.heap.IsTuple a its.toArray from pl) ?_
    refine ⟨s1.heap.objs.size, [s1.heap.objs.size], _, _, H1, rfl, I1.kept (t' := s1.toks) fun b o e => Heap.get?_push_of_some _ e, turn_tuple a _, ⟨_, Heap.get?_push_size _ rfl, rfl, rfl⟩, fun b hb => ?_, ?_⟩
    · have e : b = s1.heap.objs.size := by simpa using hb
      subst e
      exact I1.fpOk (Nat.le_refl _) (I1.hok.fresh (Nat.le_refl _))
    · exact h1 _ F1 H1 (Ext.refl f1) (it_tup v.K q rr)
  | str z =>
    have h1 : PostI C W F1 H1 σ Q (.ok (z.map fun c => .str [c])) := h1
    obtain ⟨rfl, k⟩ := rep_str.mp rp
    obtain ⟨t, rfl⟩ := r1
    have q := h1 (Its ⟨z.toArray⟩) F1 H1 (Ext.refl f1) (it_str k)
    cases ha : (⟨z.toArray⟩ : Str).cps.all (· < 128)
    · exact wpAny_pyIter_wide ha (pi_one (tk := s1.toks) I1 _ (turn_str _ _ t "str_iterator" (.inr rfl)) ⟨_, Heap.get?_push_size _ rfl, rfl, rfl⟩ q)
    · exact wpAny_pyIter_ascii ha (pi_one (tk := s1.toks) I1 _ (turn_str _ _ t "str_ascii_iterator" (.inl rfl)) ⟨_, Heap.get?_push_size _ rfl, rfl, rfl⟩ q)
  | dic ks vs =>
    have h1 : PostI C W F1 H1 σ Q (if ks.all keyOk = true then .ok (ks.map keyDd) else .bad) := h1
    obtain ⟨d, kvs, rfl, ⟨o, hF⟩, rfl, nd, rr⟩ := rep_dic.mp rp
    obtain rfl : u = Value.ref d := r1
    split at h1
    · rename_i hk
      obtain ⟨hs, hgd, hx, es, ep, vs', hdt, hsz, kv, hm⟩ := I1.frzK (f1 _ _ hF)
      refine iter_keys hs hgd hx hdt (pi_one (tk := s1.toks) I1 _ (turn_keys _ hdt) ⟨_, Heap.get?_push_size _ rfl, rfl, ?_⟩ (h1 _ F1 H1 (Ext.refl f1) (it_keys hF hk)))
      rw [hsz] <;> rfl
    · exact h1.elim
  | _ => exact h1.elim

/-- range -/
def rangeD (i j : Int) : List D := (List.range (j - i).toNat).map fun k => .int (i + (k : Nat))
def downD (i j : Int) : List D := (List.range (i - j).toNat).map fun k => .int (i - (k : Nat))
def fit62 (i : Int) : Prop := -4611686018427387904 ≤ i ∧ i < 4611686018427387904
instance (i : Int) : Decidable (fit62 i) := Classical.propDecidable _
def rng1 : List D → R (List D)
  | [.int j] => if fit62 j then .ok (rangeD 0 j) else .bad
  | _ => .bad
def rng2 : List D → R (List D)
  | [.int i, .int j] => if fit62 i ∧ fit62 j then .ok (rangeD i j) else .bad
  | _ => .bad
def rng3 : List D → R (List D)
  | [.int i, .int j, .int c] => if fit62 i ∧ fit62 j ∧ c = -1 then .ok (downD i j) else .bad
  | _ => .bad
def iRg1 (fs : SS → R (List D)) : SS → R (List D) := fun s => (fs s).bind rng1
def iRg2 (fs : SS → R (List D)) : SS → R (List D) := fun s => (fs s).bind rng2
def iRg3 (fs : SS → R (List D)) : SS → R (List D) := fun s => (fs s).bind rng3
theorem it_range {G : GE} {F : Hp} {i : Int} {n : Nat} : ItOk G F (Itr i n) ((List.range n).map fun k => .int (i + (k : Nat))) where
  go := fun k F' H' f h hi => by
    have hi : k < n := by simpa using hi
    exact hi
  yld := fun k F' H' v H'' f h hi y => by
    obtain ⟨rfl, rfl⟩ := y
    have hi : k < n := by simpa using hi
    exact ⟨F', .int (i + (k : Nat)), Ext.refl h, by rw [List.getElem?_map, List.getElem?_range hi]; rfl, rep_int.mpr rfl⟩
  stop := fun k F' H' f h hi => by
    have hi : n ≤ k := by simpa using hi
    exact hi
theorem it_rangeC {G : GE} {F : Hp} {i : Int} {n : Nat} : ItOk G F (Itc i (-1) n) ((List.range n).map fun k => .int (i - (k : Nat))) where
  go := fun k F' H' f h hi => by
    have hi : k < n := by simpa using hi
    exact hi
  yld := fun k F' H' v H'' f h hi y => by
    obtain ⟨rfl, rfl⟩ := y
    have hi : k < n := by simpa using hi
    exact ⟨F', .int (i - (k : Nat)), Ext.refl h, by rw [List.getElem?_map, List.getElem?_range hi]; rfl, rep_int.mpr (by congr 1; omega)⟩
  stop := fun k F' H' f h hi => by
    have hi : n ≤ k := by simpa using hi
    exact hi
theorem PostI.bindA {F H : Hp} {σ : L2.St} {Q : It → Hp → Prop} {Q1 : List V → Hp → Prop} {P1 : Hp → Hp → D → V → Prop} {x : R (List D)} {k : List D → R (List D)} (h : PostI C W F H σ Q (x.bind k))
    (hk : ∀ ds vs F1 H1, Ext F H F1 H1 → Paired (P1 F1 H1) ds vs → PostI C W F1 H1 σ Q (k ds) → Q1 vs H1) : PostA C W F H σ P1 Q1 x := by
  cases x with
  | ok d => exact fun vs F' H' e r => hk d vs F' H' e r (PostI.ext e h)
  | ex c vs => exact h
  | bad => exact h

variable {fs : SS → R (List D)}
theorem s_range1 (v : Pq X C W) (hg : Gl X "range") (hm : X.mg "range" = none) (ha : PA X [a] (tAB C W fs)) (hs : starEach [a] X.env = [(false, eval a X.env)] := by rfl) : PI X tg (.Call (.Name "range" p) [a] [] pos) (tI C W (iRg1 fs)) := by
  refine pi_imp (pi_range1 hg hm ha hs) fun σ H Q ⟨F, sd, S, h⟩ => ?_
  refine ⟨F, sd, S, PostI.bindA (P1 := pB C) h fun ds vs F1 H1 e1 r h1 => ?_⟩
  unfold rng1 at h1
  split at h1
  · split at h1
    · rename_i j hz
      obtain ⟨u, rfl, b⟩ := pair1 r
      have hz : -4611686018427387904 ≤ j ∧ j < 4611686018427387904 := hz
      refine ⟨j, by rw [bor_int b], by omega, by omega, ?_⟩
      have e := h1 (Itr 0 (j - 0).toNat) F1 H1 (Ext.refl e1.fh) it_range
      rw [Int.sub_zero] at e
      exact e
    · exact h1.elim
  · exact h1.elim
theorem s_range2 (v : Pq X C W) (hg : Gl X "range") (hm : X.mg "range" = none) (ha : PA X [a, b] (tAB C W fs)) (hs : starEach [a, b] X.env = [(false, eval a X.env), (false, eval b X.env)] := by rfl) (hs2 : starEach [b] X.env = [(false, eval b X.env)] := by rfl) : PI X tg (.Call (.Name "range" p) [a, b] [] pos) (tI C W (iRg2 fs)) := by
  refine pi_imp (pi_range2 hg hm ha hs hs2) fun σ H Q ⟨F, sd, S, h⟩ => ?_
  refine ⟨F, sd, S, PostI.bindA (P1 := pB C) h fun ds vs F1 H1 e1 r h1 => ?_⟩
  unfold rng2 at h1
  split at h1
  · split at h1
    · rename_i i j hz
      obtain ⟨u, w, rfl, b1, b2⟩ := pair2 r
      have hz : (-4611686018427387904 ≤ i ∧ i < 4611686018427387904) ∧ (-4611686018427387904 ≤ j ∧ j < 4611686018427387904) := hz
      refine ⟨i, j, by rw [bor_int b1, bor_int b2], by omega, ?_⟩
      exact h1 (Itr i (j - i).toNat) F1 H1 (Ext.refl e1.fh) it_range
    · exact h1.elim
  · exact h1.elim
theorem s_range3 (v : Pq X C W) (hg : Gl X "range") (hm : X.mg "range" = none) (ha : PA X [a, b, c] (tAB C W fs)) (hs : starEach [a, b, c] X.env = (false, eval a X.env) :: starEach [b, c] X.env := by rfl) (hpl : (backTo pos (starEach [b, c] X.env)).any (·.1) = false := by rfl) : PI X tg (.Call (.Name "range" p) [a, b, c] [] pos) (tI C W (iRg3 fs)) := by
  refine pi_imp (pi_range3 hg hm ha hs hpl) fun σ H Q ⟨F, sd, S, h⟩ => ?_
  refine ⟨F, sd, S, PostI.bindA (P1 := pB C) h fun ds vs F1 H1 e1 r h1 => ?_⟩
  unfold rng3 at h1
  split at h1
  · split at h1
    · rename_i i j c hz
      have r3 : ∃ u w x, vs = [u, w, x] ∧ Bor C.G F1 H1 (.int i) u ∧ Bor C.G F1 H1 (.int j) w ∧ Bor C.G F1 H1 (.int c) x := by
        cases r with
        | cons r t =>
          obtain ⟨u, w, rfl, b1, b2⟩ := pair2 t
          exact ⟨_, _, _, rfl, r, b1, b2⟩
      obtain ⟨u, w, x, rfl, b1, b2, b3⟩ := r3
      have hz : (-4611686018427387904 ≤ i ∧ i < 4611686018427387904) ∧ (-4611686018427387904 ≤ j ∧ j < 4611686018427387904) ∧ c = -1 := hz
      obtain ⟨z1, z2, rfl⟩ := hz
      refine ⟨i, j, -1, (i - j).toNat, by rw [bor_int b1, bor_int b2, bor_int b3], RgC.neg (by omega) (by omega) (by omega) (by omega), ?_⟩
      exact h1 (Itc i (-1) (i - j).toNat) F1 H1 (Ext.refl e1.fh) it_rangeC
    · exact h1.elim
  · exact h1.elim
end

/-! ### for -/
/-- a loop over items -/
def forL (step : D → SS → RS) : List D → SS → RS
  | [], s => .nx s
  | d :: ds, s => match step d s with
    | .nx s' => forL step ds s'
    | .ct s' => forL step ds s'
    | .bk s' => .nx s'
    | .rt b d => .rt b d
    | .ex c vs s' => .ex c vs s'
    | .rm d s' => .rm d s'
    | .rn j s' => .rn j s'
    | .bad => .bad
def turn (ft : FG) (f : SS → RS) : D → SS → RS := fun d s => match ft d s with
  | some s' => f s'
  | none => .bad
def sFor (fi : SS → R (List D)) (ft : FG) (f : SS → RS) : SS → RS := fun s => match fi s with
  | .ok ds => forL (turn ft f) ds s
  | .ex c vs => .ex c vs s
  | .bad => .bad
section
variable {X : Cx} {C : CT} {W : WX} {e tg iter : Expr} {fi : SS → R (List D)} {pos : Pos} {ft : FG} {vs : List Nat} {f : SS → RS} {body : List Stmt}
theorem for_run {En : Ends} {J : It} {F1 H1 : Hp} {sd : SS} {σ : L2.St} {ds : List D} (S : StR C F1 H1 sd σ) (ok : ItOk C.G F1 J ds) (h : PostS C W F1 sd σ En (forL (turn ft f) ds sd)) :
    ∃ Wv : Nat → Nat → L2.St → Hp → Prop, (∃ m, Wv 0 m σ H1) ∧ ∀ i m σ H, Wv i m σ H →
      (J.stop i H ∧ En.nx σ H) ∨ (J.go i H ∧ ∃ N : L2.St → Hp → Prop, (∀ σ' H', N σ' H' → ∃ m', m' < m ∧ Wv (i + 1) m' σ' H') ∧ ∀ x H', J.yld i H x H' → tG C ft vs x σ H' fun σ2 H2 => tS C W f { En with nx := N, ct := N, bk := En.nx } σ2 H2) := by
  refine ⟨fun i m σ' H' => m = ds.length - i ∧ i ≤ ds.length ∧ ∃ F' s', StR C F' H' s' σ' ∧ Same F1 F' ∧ Lk sd σ s' σ' ∧ PostS C W F' s' σ' En (forL (turn ft f) (ds.drop i) s'),
    ⟨ds.length, by omega, Nat.zero_le _, F1, sd, S, Same.refl F1, Lk.refl, h⟩, ?_⟩
  rintro i m σ' H' ⟨rfl, hi, F', s', S', f1, l1, h1⟩
  by_cases hlt : i < ds.length
  · refine .inr ⟨ok.go i F' H' f1 S'.fh hlt, fun σ2 H2 => ∃ F2 s2, StR C F2 H2 s2 σ2 ∧ Same F1 F2 ∧ Lk sd σ s2 σ2 ∧ PostS C W F2 s2 σ2 En (forL (turn ft f) (ds.drop (i + 1)) s2), fun σ2 H2 n2 => ⟨ds.length - (i + 1), by omega, rfl, hlt, n2⟩, fun x H'' y => ?_⟩
    obtain ⟨F'', d, e2, hd, r⟩ := ok.yld i F' H' x H'' f1 S'.fh hlt y
    have hdr : ds.drop i = d :: ds.drop (i + 1) := by
      obtain ⟨hi', e⟩ := List.getElem?_eq_some_iff.mp hd
      rw [List.drop_eq_getElem_cons hi', e]
    rw [hdr] at h1
    unfold forL turn at h1
    cases q : ft d s' with
    | none => rw [q] at h1; exact h1.elim
    | some s2 =>
      rw [q] at h1
      refine ⟨F'', s', d, s2, S'.mono e2, r, q, fun σ2 S2 l2 _ => ⟨F'', s2, S2, ?_⟩⟩
      have h1 : PostS C W F' s' σ' En (match f s2 with
        | .nx s' => forL (turn ft f) (ds.drop (i + 1)) s'
        | .ct s' => forL (turn ft f) (ds.drop (i + 1)) s'
        | .bk s' => .nx s'
        | .rt b d => .rt b d
        | .ex c vs s' => .ex c vs s'
        | .rm d s' => .rm d s'
        | .rn j s' => .rn j s'
        | .bad => .bad) := h1
      cases k : f s2 with
      | nx s3 =>
        rw [k] at h1
        exact fun F3 H3 σ3 S3 f3 l3 => ⟨F3, s3, S3, f1.trans (e2.ff.trans f3), l1.trans (l2.trans l3), PostS.mono (e2.ff.trans f3) (l2.trans l3) h1⟩
      | ct s3 =>
        rw [k] at h1
        exact fun F3 H3 σ3 S3 f3 l3 => ⟨F3, s3, S3, f1.trans (e2.ff.trans f3), l1.trans (l2.trans l3), PostS.mono (e2.ff.trans f3) (l2.trans l3) h1⟩
      | bk s3 =>
        rw [k] at h1
        exact fun F3 H3 σ3 S3 f3 l3 => h1 F3 H3 σ3 S3 (e2.ff.trans f3) (l2.trans l3)
      | rt b d =>
        rw [k] at h1
        cases b with
        | false => exact fun v F3 H3 e3 f3 r3 => h1 v F3 H3 e3 (e2.ff.trans f3) r3
        | true => exact fun v F3 H3 e3 f3 r3 => h1 v F3 H3 e3 (e2.ff.trans f3) r3
      | ex c vs s3 =>
        rw [k] at h1
        exact fun cls dx F3 H3 σ3 S3 f3 l3 r3 => h1 cls dx F3 H3 σ3 S3 (e2.ff.trans f3) (l2.trans l3) r3
      | rm d s3 =>
        rw [k] at h1
        exact fun v F3 H3 σ3 S3 f3 l3 r3 => h1 v F3 H3 σ3 S3 (e2.ff.trans f3) (l2.trans l3) r3
      | rn j s3 =>
        rw [k] at h1
        exact fun v F3 H3 σ3 S3 f3 l3 r3 => h1 v F3 H3 σ3 S3 (e2.ff.trans f3) (l2.trans l3) r3
      | bad => rw [k] at h1; exact h1.elim
  · have e : i = ds.length := by omega
    subst e
    rw [List.drop_length] at h1
    exact .inl ⟨ok.stop _ F' H' f1 S'.fh (Nat.le_refl _), h1 F' H' σ' S' (Same.refl _) Lk.refl⟩
theorem s_for (v : Pl X C W) (hi : PI X tg iter (tI C W fi)) (hg : PG X tg (tG C ft vs)) (hb : PSs X body (tS C W f)) (hs : ∀ x, foldedSetIterable iter X.env x = pure x := by intro _; rfl) : PS X (.For tg iter body [] pos) (tS C W (sFor fi ft f)) := by
  refine ps_imp (ps_for v.pass v.calm hi hg hb hs) fun En σ H ⟨F, sd, S, h⟩ => ?_
  refine ⟨F, sd, S, ?_⟩
  unfold sFor at h
  cases q : fi sd with
  | ok ds =>
    rw [q] at h
    exact fun J F1 H1 e1 ok => for_run (S.mono e1) ok (PostS.mono e1.ff Lk.refl h)
  | ex c vs =>
    rw [q] at h
    exact fun cls dx F' H' e x => h cls dx F' H' σ (S.mono e) e.ff Lk.refl x
  | bad => rw [q] at h; exact h

/-! ### while -/
def whL (fc : SS → R D) (f : SS → RS) : Nat → SS → RS
  | 0, _ => .bad
  | n + 1, s => match fc s with
    | .ok (.bl true) => (match f s with
      | .nx s' => whL fc f n s'
      | .ct s' => whL fc f n s'
      | .bk s' => .nx s'
      | .rt b d => .rt b d
      | .ex c vs s' => .ex c vs s'
      | .rm d s' => .rm d s'
      | .rn j s' => .rn j s'
      | .bad => .bad)
    | .ok (.bl false) => .nx s
    | .ex c vs => .ex c vs s
    | _ => .bad
def sWh (n : Nat) (fc : SS → R D) (f : SS → RS) : SS → RS := whL fc f n
theorem s_wh (v : Pq X C W) (n : Nat) {fc : SS → R D} (hc : PT X e (tT C W fc)) (hb : PSs X body (tS C W f)) : PS X (.While e body [] pos) (tS C W (sWh n fc f)) := by
  refine ps_imp (ps_while v.pass hc hb) fun En σ H ⟨F, sd, S, h⟩ => ?_
  refine ⟨fun m σ' H' => ∃ F' s', StR C F' H' s' σ' ∧ Same F F' ∧ Lk sd σ s' σ' ∧ PostS C W F' s' σ' En (whL fc f m s'), ⟨n, F, sd, S, Same.refl F, Lk.refl, h⟩, ?_⟩
  rintro m σ1 H1 ⟨F1, s1, S1, f1, l1, h1⟩
  cases m with
  | zero => exact h1.elim
  | succ m =>
    refine ⟨F1, s1, S1, ?_⟩
    unfold whL at h1
    cases q : fc s1 with
    | ok d =>
      rw [q] at h1
      cases d with
      | bl b =>
        intro F2 H2 e2
        cases b with
        | true =>
          rw [if_pos rfl]
          refine ⟨fun σ3 H3 => ∃ F3 s3, StR C F3 H3 s3 σ3 ∧ Same F F3 ∧ Lk sd σ s3 σ3 ∧ PostS C W F3 s3 σ3 En (whL fc f m s3), fun σ3 H3 n3 => ⟨m, Nat.lt_succ_self m, n3⟩, F2, s1, S1.mono e2, ?_⟩
          have h1 : PostS C W F1 s1 σ1 En (match f s1 with
            | .nx s' => whL fc f m s'
            | .ct s' => whL fc f m s'
            | .bk s' => .nx s'
            | .rt b d => .rt b d
            | .ex c vs s' => .ex c vs s'
            | .rm d s' => .rm d s'
            | .rn j s' => .rn j s'
            | .bad => .bad) := h1
          cases k : f s1 with
          | nx s3 =>
            rw [k] at h1
            exact fun F3 H3 σ3 S3 f3 l3 => ⟨F3, s3, S3, f1.trans (e2.ff.trans f3), l1.trans l3, PostS.mono (e2.ff.trans f3) l3 h1⟩
          | ct s3 =>
            rw [k] at h1
            exact fun F3 H3 σ3 S3 f3 l3 => ⟨F3, s3, S3, f1.trans (e2.ff.trans f3), l1.trans l3, PostS.mono (e2.ff.trans f3) l3 h1⟩
          | bk s3 =>
            rw [k] at h1
            exact fun F3 H3 σ3 S3 f3 l3 => h1 F3 H3 σ3 S3 (e2.ff.trans f3) l3
          | rt b d =>
            rw [k] at h1
            cases b with
            | false => exact fun v F3 H3 e3 f3 r3 => h1 v F3 H3 e3 (e2.ff.trans f3) r3
            | true => exact fun v F3 H3 e3 f3 r3 => h1 v F3 H3 e3 (e2.ff.trans f3) r3
          | ex c vs s3 =>
            rw [k] at h1
            exact fun cls dx F3 H3 σ3 S3 f3 l3 r3 => h1 cls dx F3 H3 σ3 S3 (e2.ff.trans f3) l3 r3
          | rm d s3 =>
            rw [k] at h1
            exact fun v F3 H3 σ3 S3 f3 l3 r3 => h1 v F3 H3 σ3 S3 (e2.ff.trans f3) l3 r3
          | rn j s3 =>
            rw [k] at h1
            exact fun v F3 H3 σ3 S3 f3 l3 r3 => h1 v F3 H3 σ3 S3 (e2.ff.trans f3) l3 r3
          | bad => rw [k] at h1; exact h1.elim
        | false =>
          rw [if_neg Bool.false_ne_true]
          exact h1 F2 H2 σ1 (S1.mono e2) e2.ff Lk.refl
      | _ => exact h1.elim
    | ex c vs =>
      rw [q] at h1
      exact fun cls dx F' H' e x => h1 cls dx F' H' σ1 (S1.mono e) e.ff Lk.refl x
    | bad => rw [q] at h1; exact h1.elim
end
end
end Z
namespace Z
noncomputable section
open PySem PySem.Spec PySem.P PyProof.Rows L2

/-! ### comprehensions -/
abbrev WNo : WX := fun _ _ _ _ => False
theorem Pl.blk {X : Cx} {C : CT} {W : WX} (v : Pl X C W) (s : Shared) (H : Hp) (scope : Scope) (cenv : PySem.Env) (fp : List Addr) : Pl (X.blk s H scope cenv fp) C WNo :=
  ⟨⟨v.K, v.hu, takes0, PassesOwn.never⟩, v.calm⟩
/-- the items kept -/
def mapD (step : D → R (Option D)) : List D → R (List D)
  | [] => .ok []
  | d :: ds => match step d with
    | .ok (some x) => (match mapD step ds with
      | .ok xs => .ok (x :: xs)
      | _ => .bad)
    | .ok none => mapD step ds
    | _ => .bad
def wipeS (s : SS) : List Nat → SS
  | [] => s
  | v :: vs => (wipeS s vs).set v .no
def cStep (ft : FG) (vs : List Nat) (fc fe : SS → R D) (s : SS) (d : D) : R (Option D) := match ft d (wipeS s vs) with
  | some s' => (match fc s' with
    | .ok (.bl true) => (match fe s' with
      | .ok x => .ok (some x)
      | _ => .bad)
    | .ok (.bl false) => .ok none
    | _ => .bad)
  | none => .bad
def eComp (fi : SS → R (List D)) (ft : FG) (vs : List Nat) (fc fe : SS → R D) : SS → R D := fun s => (fi s).bind fun ds => match mapD (cStep ft vs fc fe s) ds with
  | .ok xs => if xs.length ≤ SZ then .ok (.lst xs) else .bad
  | _ => .bad
def cYes : SS → R D := fun _ => .ok (.bl true)
theorem wipeS_len (s : SS) : ∀ vs, (wipeS s vs).length = s.length
  | [] => rfl
  | v :: vs => by unfold wipeS; rw [List.length_set, wipeS_len s vs]
theorem wipeS_get {s : SS} {x : Sl} {i : Nat} (hx : x ≠ .no) : ∀ {vs : List Nat}, (wipeS s vs)[i]? = some x → s[i]? = some x ∧ i ∉ vs
  | [], h => ⟨h, by simp⟩
  | v :: vs, h => by
    unfold wipeS at h
    by_cases hi : v = i
    · subst hi
      by_cases hv : v < (wipeS s vs).length
      · rw [List.getElem?_set_self hv] at h
        cases h
        exact (hx rfl).elim
      · rw [List.getElem?_eq_none (by simpa using hv)] at h
        cases h
    · rw [List.getElem?_set_ne hi] at h
      obtain ⟨h1, h2⟩ := wipeS_get hx h
      exact ⟨h1, by simp only [List.mem_cons, not_or]; exact ⟨fun e => hi e.symm, h2⟩⟩
theorem wipe_get {σ : L2.St} {i : Nat} : ∀ {vs : List Nat}, i ∉ vs → (wipe σ vs)[i]? = σ[i]?
  | [], _ => rfl
  | v :: vs, h => by
    simp only [List.mem_cons, not_or] at h
    unfold wipe
    rw [List.getElem?_set_ne (Ne.symm h.1)]
    exact wipe_get h.2
theorem wipe_in {σ : L2.St} {i : Nat} : ∀ {vs : List Nat}, i ∈ vs → i < σ.length → (wipe σ vs)[i]? = some none
  | [], h, _ => by cases h
  | v :: vs, h, hl => by
    unfold wipe
    by_cases hi : v = i
    · subst hi
      rw [List.getElem?_set_self (by rw [wipe_length]; exact hl)]
    · rw [List.getElem?_set_ne hi]
      have h2 : i ∈ vs := by
        rcases List.mem_cons.mp h with e | e
        · exact (hi e.symm).elim
        · exact e
      exact wipe_in h2 hl
theorem wipe_but {σ σ' : L2.St} {vs : List Nat} (b : But vs (wipe σ vs) σ') : wipe σ' vs = wipe σ vs := by
  have hl : σ'.length = σ.length := b.1.trans (wipe_length σ vs)
  refine List.ext_getElem? fun i => ?_
  by_cases hi : i ∈ vs
  · by_cases hlt : i < σ.length
    · rw [wipe_in hi hlt, wipe_in hi (by rw [hl]; exact hlt)]
    · rw [List.getElem?_eq_none (by rw [wipe_length]; omega), List.getElem?_eq_none (by rw [wipe_length]; omega)]
  · rw [wipe_get hi, b.2 i hi]
theorem StR.wiped {C : CT} {F H : Hp} {s : SS} {σ : L2.St} (S : StR C F H s σ) (vs : List Nat) : StR C F H (wipeS s vs) (wipe σ vs) := by
  have ow : ∀ {i : Nat} {d : D}, (wipeS s vs)[i]? = some (.ow d) ∨ (wipeS s vs)[i]? = some (.lk d) → (s[i]? = some (.ow d) ∨ s[i]? = some (.lk d)) ∧ i ∉ vs := fun {i d} h => by
    rcases h with h | h
    · obtain ⟨h1, h2⟩ := wipeS_get (by intro z; cases z) h
      exact ⟨.inl h1, h2⟩
    · obtain ⟨h1, h2⟩ := wipeS_get (by intro z; cases z) h
      exact ⟨.inr h1, h2⟩
  refine ⟨S.ext, by rw [wipeS_len, wipe_length]; exact S.len, fun i d h => ?_, fun i d h => ?_, fun i j d e a h1 h2 h3 h4 => ?_, S.nt.step (fun i k d h => ?_) (fun i k l h => ?_) (fun j e b q z => ?_) (Same.refl F) fun b o h1 h2 _ => ⟨h1, h2⟩⟩
  · obtain ⟨h1, h2⟩ := wipeS_get (by intro z; cases z) h
    rw [wipe_get h2]
    exact S.sh i d h1
  · obtain ⟨h1, h2⟩ := ow h
    rw [wipe_get h2]
    exact S.ow i d h1
  · obtain ⟨a1, a2⟩ := ow h1
    obtain ⟨b1, b2⟩ := ow h2
    rw [wipe_get a2] at h3
    rw [wipe_get b2] at h4
    exact S.dis i j d e a a1 b1 h3 h4
  · obtain ⟨h1, h2⟩ := wipeS_get (by intro z; cases z) h
    exact ⟨h1, wipe_get h2⟩
  · obtain ⟨h1, h2⟩ := wipeS_get (by intro z; cases z) h
    exact ⟨h1, wipe_get h2⟩
  · obtain ⟨a1, a2⟩ := ow q
    rw [wipe_get a2] at z
    exact .inl ⟨j, e, a1, z⟩
section
variable {X : Cx} {C : CT} {W : WX} {elt tg iter : Expr} {ifs : List Expr} {fi : SS → R (List D)} {pos : Pos} {ft : FG} {vs : List Nat} {fc fe : SS → R D}
/-- the tests of a comprehension -/
structure CTs (X : Cx) (C : CT) (ifs : List Expr) (fc : SS → R D) : Prop where
  t : PTs X ifs (tT C WNo fc)
theorem c_none : PTs X [] (tT C WNo cYes) := ⟨fun pins s σ H Q I ⟨F, sd, S, h⟩ => pts_nil.run pins s σ H Q I (h F H (Ext.refl S.fh))⟩
theorem c_one {e : Expr} (h : PT X e (tT C WNo fc)) : PTs X [e] (tT C WNo fc) := pts_one h
theorem comp_run {F1 H1 H₀ : Hp} {sd : SS} {σ : L2.St} {Q : VK} {ds : List D} {J : It} (S : StR C F1 H1 sd σ) (e₀ : Same H₀ H1) (ok : ItOk C.G F1 J ds)
    (h : PostE C W F1 H1 σ (pF C H₀) Q (match mapD (cStep ft vs fc fe sd) ds with | .ok xs => if xs.length ≤ SZ then .ok (.lst xs) else .bad | _ => .bad)) :
    ∀ L, H1 L = none → ∃ Wv : Nat → Nat → Hp → Prop, (∃ m, Wv 0 m (upd H1 L (.lst []))) ∧ ∀ i m H, Wv i m H →
      (J.stop i H ∧ Q (.ref L) H) ∨ (J.go i H ∧ ∃ Nx : Hp → Prop, (∀ H', Nx H' → ∃ m', m' < m ∧ Wv (i + 1) m' H') ∧ ∀ x H', J.yld i H x H' → tG C ft vs x (wipe σ vs) H' fun σ2 H2 => wipe σ2 vs = wipe σ vs ∧ tT C WNo fc σ2 H2 fun b H3 =>
        if b = true then tD C WNo fe σ2 H3 fun y H4 => ∃ acc, H4 L = some (.lst acc) ∧ acc.length < sizeLine ∧ Nx (upd H4 L (.lst (acc ++ [y]))) else Nx H3) := by
  intro L hL
  obtain ⟨xs, hx, hz, h⟩ : ∃ xs, mapD (cStep ft vs fc fe sd) ds = .ok xs ∧ xs.length ≤ SZ ∧ PostE C W F1 H1 σ (pF C H₀) Q (.ok (.lst xs)) := by
    cases q : mapD (cStep ft vs fc fe sd) ds with
    | ok xs =>
      rw [q] at h
      by_cases hz : xs.length ≤ SZ
      · have h : PostE C W F1 H1 σ (pF C H₀) Q (if xs.length ≤ SZ then .ok (.lst xs) else .bad) := h
        rw [if_pos hz] at h
        exact ⟨xs, rfl, hz, h⟩
      · have h : PostE C W F1 H1 σ (pF C H₀) Q (if xs.length ≤ SZ then .ok (.lst xs) else .bad) := h
        rw [if_neg hz] at h
        exact h.elim
    | ex c vs => rw [q] at h; exact h.elim
    | bad => rw [q] at h; exact h.elim
  have hFL : F1 L = none := S.fh.free hL
  refine ⟨fun i m H => m = ds.length - i ∧ i ≤ ds.length ∧ ∃ F acc dacc rest, Ext F1 H1 F H ∧ F L = none ∧ H L = some (.lst acc) ∧ RepL C.G F dacc acc ∧ mapD (cStep ft vs fc fe sd) (ds.drop i) = .ok rest ∧ xs = dacc ++ rest,
    ⟨ds.length, by omega, Nat.zero_le _, F1, [], [], xs, Ext.newOwn S.fh hL, hFL, upd_same, RepL.nil, hx, rfl⟩, ?_⟩
  rintro i m H ⟨rfl, hi, F, acc, dacc, rest, e1, f1, hl, ra, hm, hxs⟩
  by_cases hlt : i < ds.length
  · refine .inr ⟨ok.go i F H e1.ff e1.fh hlt, fun H' => ∃ F acc dacc rest, Ext F1 H1 F H' ∧ F L = none ∧ H' L = some (.lst acc) ∧ RepL C.G F dacc acc ∧ mapD (cStep ft vs fc fe sd) (ds.drop (i + 1)) = .ok rest ∧ xs = dacc ++ rest,
      fun H' n => ⟨ds.length - (i + 1), by omega, rfl, hlt, n⟩, fun x H' y => ?_⟩
    obtain ⟨F', d, e2, hd, r⟩ := ok.yld i F H x H' e1.ff e1.fh hlt y
    have hdr : ds.drop i = d :: ds.drop (i + 1) := by
      obtain ⟨hi', e⟩ := List.getElem?_eq_some_iff.mp hd
      rw [List.drop_eq_getElem_cons hi', e]
    rw [hdr] at hm
    unfold mapD at hm
    have hst : ∀ {q : R (Option D)}, cStep ft vs fc fe sd d = q → q ≠ .bad ∧ ∃ s', ft d (wipeS sd vs) = some s' ∧ ((∃ x, fc s' = .ok (.bl true) ∧ fe s' = .ok x ∧ q = .ok (some x)) ∨ (fc s' = .ok (.bl false) ∧ q = .ok none)) := by
      intro q hq
      subst hq
      unfold cStep at hm ⊢
      cases k : ft d (wipeS sd vs) with
      | none => rw [k] at hm; cases hm
      | some s' =>
        rw [k] at hm
        simp only at hm ⊢
        cases k2 : fc s' with
        | ok b =>
          rw [k2] at hm
          cases b with
          | bl b =>
            cases b with
            | true =>
              simp only at hm ⊢
              cases k3 : fe s' with
              | ok x => exact ⟨fun z => (by cases z), s', rfl, .inl ⟨x, k2, k3, rfl⟩⟩
              | ex c vs => rw [k3] at hm; cases hm
              | bad => rw [k3] at hm; cases hm
            | false => exact ⟨fun z => (by cases z), s', rfl, .inr ⟨k2, rfl⟩⟩
          | _ => cases hm
        | ex c vs => rw [k2] at hm; cases hm
        | bad => rw [k2] at hm; cases hm
    obtain ⟨_, s', k1, k2⟩ := hst rfl
    have S' : StR C F' H' (wipeS sd vs) (wipe σ vs) := ((S.mono e1).mono e2).wiped vs
    refine ⟨F', wipeS sd vs, d, s', S', r, k1, fun σ2 S2 l2 b2 => ⟨wipe_but b2, F', s', S2, ?_⟩⟩
    rcases k2 with ⟨y, c1, c2, c3⟩ | ⟨c1, c3⟩
    · rw [c1]
      intro F3 H3 e3
      rw [if_pos rfl]
      refine ⟨F3, s', S2.mono e3, ?_⟩
      rw [c2]
      intro u F4 H4 e4 r4
      have e24 : Ext F H F4 H4 := (e2.trans e3).trans e4
      have f4 : F4 L = none := e24.ow L _ hl f1
      rw [c3] at hm
      have hm : (match mapD (cStep ft vs fc fe sd) (ds.drop (i + 1)) with | .ok xs => R.ok (y :: xs) | _ => R.bad) = .ok rest := hm
      cases k5 : mapD (cStep ft vs fc fe sd) (ds.drop (i + 1)) with
      | ok rest' =>
        rw [k5] at hm
        have hm : R.ok (y :: rest') = .ok rest := hm
        cases hm
        have hlen : acc.length < sizeLine := by
          rw [ra.length, sizeLine_eq]
          have : xs.length = dacc.length + (rest'.length + 1) := by rw [hxs]; simp
          have hz' : xs.length ≤ 16777216 := (sz_is ▸ hz)
          omega
        refine ⟨acc, e24.hh _ _ hl, hlen, F4, acc ++ [u], dacc ++ [y], rest', ?_, f4, upd_same, (RepL.mono e24.ff ra).append (RepL.cons r4 RepL.nil), rfl, by rw [hxs]; simp⟩
        have e14 := e1.trans e24
        refine ⟨e14.ff, fun b o z => ?_, fun b o z => ?_, fun b o z1 z2 => e14.ow b o z1 z2⟩
        · have hb : b ≠ L := ne_of_none z hL
          rw [upd_ne hb]
          exact e14.hh _ _ z
        · have hb : b ≠ L := ne_of_none z f4
          rw [upd_ne hb]
          exact e14.fh _ _ z
      | ex c vs => rw [k5] at hm; cases hm
      | bad => rw [k5] at hm; cases hm
    · rw [c1]
      intro F3 H3 e3
      rw [if_neg Bool.false_ne_true]
      rw [c3] at hm
      have e23 : Ext F H F3 H3 := e2.trans e3
      exact ⟨F3, acc, dacc, rest, e1.trans e23, e23.ow L _ hl f1, e23.hh _ _ hl, RepL.mono e23.ff ra, hm, hxs⟩
  · have e : i = ds.length := by omega
    subst e
    rw [List.drop_length] at hm
    cases hm
    rw [List.append_nil] at hxs
    subst hxs
    exact .inl ⟨ok.stop _ F H e1.ff e1.fh (Nat.le_refl _), h _ F H e1 ⟨L, rfl, e₀.free hL, f1, acc, hl, ra⟩⟩
theorem comp_read {σ : L2.St} {H : Hp} {Q : VK} (h : tF C W (eComp fi ft vs fc fe) σ H Q) : tLc (tI C W fi) (tG C ft vs) (tT C WNo fc) (tD C WNo fe) vs σ H Q := by
  obtain ⟨F, sd, S, h⟩ := h
  refine ⟨F, sd, S, ?_⟩
  unfold eComp at h
  cases q : fi sd with
  | ok ds =>
    rw [q] at h
    exact fun J F1 H1 e1 ok => comp_run (S.mono e1) e1.hh ok (PostE.ext e1 h)
  | ex c vs => rw [q] at h; exact h
  | bad => rw [q] at h; exact h
/-- [elt for tg in iter if ..] -/
theorem s_comp (v : Pl X C W) {scope : Scope} {own : List (Str × Nat)} (hN : X.N.Nodup) (hi : PI X tg iter (tI C W fi)) (hv : own.map (·.2) = vs)
    (hg : ∀ (s : Shared) (H : Hp) (Ca : Addr) (cl : List (Str × Addr)) (fp : List Addr), Pl (X.blk s H scope (compEnvC scope cl Ca X.env) fp) C WNo → PG (X.blk s H scope (compEnvC scope cl Ca X.env) fp) tg (tG C ft vs))
    (ht : ∀ (s : Shared) (H : Hp) (Ca : Addr) (cl : List (Str × Addr)) (fp : List Addr), Pl (X.blk s H scope (compEnvC scope cl Ca X.env) fp) C WNo → PTs (X.blk s H scope (compEnvC scope cl Ca X.env) fp) ifs (tT C WNo fc))
    (he : ∀ (s : Shared) (H : Hp) (Ca : Addr) (cl : List (Str × Addr)) (fp : List Addr), Pl (X.blk s H scope (compEnvC scope cl Ca X.env) fp) C WNo → PE (X.blk s H scope (compEnvC scope cl Ca X.env) fp) elt (tD C WNo fe))
    (ok : BlkOk X.N X.env.scope scope own := by exact blkOk_by (by decide +kernel))
    (hs : ∀ x, foldedSetIterable iter X.env x = pure x := by intro _; rfl) : PE X (.ListComp elt [⟨tg, iter, ifs, 0⟩] scope pos) (tF C W (eComp fi ft vs fc fe)) := by
  subst hv
  exact pe_imp (pe_lc v.calm hN hi ok (fun s H Ca cl fp => hg s H Ca cl fp (v.blk ..)) (fun s H Ca cl fp => ht s H Ca cl fp (v.blk ..)) (fun s H Ca cl fp => he s H Ca cl fp (v.blk ..)) hs) fun σ H Q h => comp_read h
/-- y = [elt for ..]: an own list, a shared list -/
theorem s_setc (v : Pl X C W) (i : Nat) {y : Str} {py spos : Pos} {scope : Scope} {own : List (Str × Nat)} (hN : X.N.Nodup) (hi : PI X tg iter (tI C W fi)) (hv : own.map (·.2) = vs)
    (hg : ∀ (s : Shared) (H : Hp) (Ca : Addr) (cl : List (Str × Addr)) (fp : List Addr), Pl (X.blk s H scope (compEnvC scope cl Ca X.env) fp) C WNo → PG (X.blk s H scope (compEnvC scope cl Ca X.env) fp) tg (tG C ft vs))
    (ht : ∀ (s : Shared) (H : Hp) (Ca : Addr) (cl : List (Str × Addr)) (fp : List Addr), Pl (X.blk s H scope (compEnvC scope cl Ca X.env) fp) C WNo → PTs (X.blk s H scope (compEnvC scope cl Ca X.env) fp) ifs (tT C WNo fc))
    (he : ∀ (s : Shared) (H : Hp) (Ca : Addr) (cl : List (Str × Addr)) (fp : List Addr), Pl (X.blk s H scope (compEnvC scope cl Ca X.env) fp) C WNo → PE (X.blk s H scope (compEnvC scope cl Ca X.env) fp) elt (tD C WNo fe))
    (hy : X.N[i]? = some y := by rfl) (hyl : X.env.scope.names.lookup y = some .local := by rfl)
    (hsw : swapsWith (.ListComp elt [⟨tg, iter, ifs, 0⟩] scope pos) (some (.Name y py)) spos.line X.env = pure true := by exact sw_true rfl rfl rfl (by decide +kernel))
    (ok : BlkOk X.N X.env.scope scope own := by exact blkOk_by (by decide +kernel))
    (hs : ∀ x, foldedSetIterable iter X.env x = pure x := by intro _; rfl) : PS X (.Assign [.Name y py] (.ListComp elt [⟨tg, iter, ifs, 0⟩] scope pos) spos) (tS C W (sSetO i (eComp fi ft vs fc fe))) := by
  subst hv
  refine ps_imp (ps_setLc v.calm hN hy hyl hsw hi ok (fun s H Ca cl fp => hg s H Ca cl fp (v.blk ..)) (fun s H Ca cl fp => ht s H Ca cl fp (v.blk ..)) (fun s H Ca cl fp => he s H Ca cl fp (v.blk ..)) hs) fun En σ H ⟨F, sd, S, h⟩ => ?_
  refine comp_read (W := W) ⟨F, sd, S, postS_E S h fun d u F1 H1 e1 r h1 => ?_⟩
  obtain ⟨a, rfl, hn, hf, ow⟩ := r
  cases q : setS sd i (.ow d) with
  | none => rw [q] at h1; exact h1.elim
  | some s' =>
    rw [q] at h1
    exact h1 F1 H1 _ ((S.mono e1).setOw (H₁ := H) q S.owns (S.ntIn e1) hn (S.ext.hh.free hn) hf ow) e1.ff (lk_set q)
end
end
end Z
namespace Z
noncomputable section
open PySem PySem.Spec PySem.P PyProof.Rows L2

/-! ### isinstance with built-in types -/
def tyN : D → Option String
  | .non => some "NoneType" | .bl _ => some "bool" | .int _ => some "int" | .str _ => some "str" | .lst _ => some "list" | .tup _ => some "tuple" | .dic _ _ => some "dict"
  | _ => none
def tyIs (t T : String) : Bool := t == T || (t == "bool" && T == "int")
def isiD (T : String) (d : D) : R D := match tyN d with
  | some t => .ok (.bl (tyIs t T))
  | none => .bad
theorem isiD_ne {T : String} : NoEx1 (isiD T) := fun x c vs h => by
  unfold isiD at h
  split at h <;> cases h
theorem bor_ty {G : GE} {K : PySem.W.Frag} (hK : K = G.K) {F H : Hp} (S : Same F H) {d : D} {v : V} {t : String} (ht : tyN d = some t) (b : Bor G F H d v) : TyX K H v (.type t) := by
  subst hK
  cases d with
  | non => cases ht; rw [bor_non b]; exact .base .non
  | bl _ => cases ht; rw [bor_bl b]; exact .base (.bl _)
  | int _ => cases ht; rw [bor_int b]; exact .base (.int _)
  | str _ => cases ht; rw [(bor_str b).1]; exact .base (.str _)
  | lst _ =>
    cases ht
    obtain ⟨a, xs, rfl, q, _⟩ := bor_lst S b
    rcases q with (q | ⟨o, q⟩) | ⟨o, its, n, hk, hc, _⟩
    · exact .base (.lst q)
    · exact .base (.frz q)
    · exact .kList hk hc
  | tup _ =>
    cases ht
    obtain ⟨a, xs, rfl, q, _⟩ := bor_tup S b
    rcases q with (q | ⟨o, q⟩) | ⟨o, its, n, hk, hc, _⟩
    · exact .base (.tup q)
    · exact .fTuple q
    · exact .kTuple hk hc
  | dic _ _ =>
    cases ht
    obtain ⟨a, kvs, rfl, q, _⟩ := bor_dic S b
    rcases q with q | ⟨o, q⟩
    · exact .base (.dK q)
    · exact .fDict q
  | _ => cases ht
/-- the types that are asked for -/
def tyOk (T : String) : Bool := ["bool", "int", "str", "list", "tuple", "dict"].contains T
theorem kit_all {K : PySem.W.Frag} {t T : String} {d : D} (ht : tyN d = some t) (hT : tyOk T = true) : PySem.W.kitOne K (.type t) (.type T) = some (tyIs t T) := by
  have hT : T ∈ ["bool", "int", "str", "list", "tuple", "dict"] := by simpa [tyOk] using hT
  have h : ∀ t ∈ ["NoneType", "bool", "int", "str", "list", "tuple", "dict"], ∀ T ∈ ["bool", "int", "str", "list", "tuple", "dict"], kitB t T = some (tyIs t T) := by decide +kernel
  refine kit_ty (h t ?_ T hT)
  cases d <;> cases ht <;> simp
section
variable {X : Cx} {C : CT} {W : WX} {a b c e : Expr} {es : List Expr} {fa fb fc fe f : SS → R D} {pos p p2 apos : Pos} {fs : SS → R (List D)} {x : Str}
theorem s_isi (v : Pq X C W) (T : String) (hT : tyOk T = true) {y : Str} (hg : Gl X "isinstance") (hm : X.mg "isinstance" = none) (hgT : Gl X y) (hmT : X.mg y = none) (hvT : bootBuiltins y = some (.type T)) (ha : PE X a (tB C W fa))
    (hn : y ≠ "__name__" := by decide) (hdb : (y == ("__debug__" : Str)) = false := by decide)
    (he : starEach [a, .Name y p2] X.env = (false, eval a X.env) :: starEach [.Name y p2] X.env := by rfl) (he2 : starEach [.Name y p2] X.env = (false, eval (.Name y p2) X.env) :: starEach [] X.env := by rfl)
    (hpl : (backTo pos (starEach [.Name y p2] X.env)).any (·.1) = false := by rfl) : PE X (.Call (.Name "isinstance" p) [a, .Name y p2] [] pos) (tD C W (eUn (isiD T) fa)) := by
  refine pe_imp (pe_callB call_isi hg hm (by decide +kernel) (pa_cons ha (pa_cons (pe_bltn (v := .ty T) hgT hmT hvT rfl hn hdb) pa_nil he2) he) (by decide) (by decide) he hpl) fun σ H Q ⟨F, sd, S, h⟩ => ?_
  refine ⟨F, sd, S, PostE.bind h fun d u F1 H1 e1 b1 h1 => ?_⟩
  unfold isiD at h1
  split at h1
  · rename_i t ht
    exact ⟨u, .ty T, .type t, .type T, _, rfl, .ty T, bor_ty v.K e1.fh ht b1, kit_all ht hT, h1 _ F1 H1 (Ext.refl e1.fh) (rep_bl.mpr rfl)⟩
  · exact h1.elim

/-! ### more built-in functions -/
/-- list(x) -/
def listD : List D → R D
  | [.lst x] => .ok (.lst x)
  | [.tup x] => .ok (.lst x)
  | _ => .bad
theorem listD_ne : NoExL listD := fun x c vs h => by unfold listD at h; split at h <;> cases h
theorem PostVF.lst {G : GE} {F H : Hp} {Q : VK} {ds : List D} {vs : List V} (S : Same F H) (r : RepL G F ds vs) (p : PostVF G F H Q (.ok (.lst ds))) : ∀ a, H a = none → Q (.ref a) (upd H a (.lst vs)) := fun a ha =>
  p a F (upd H a (.lst vs)) (Ext.newOwn S ha) ha (S.free ha) ⟨vs, upd_same, r⟩
theorem call_listD (hK : X.K = C.G.K) : CallR X (.type "list") (rCF C.G listD) := by
  intro pins s σ H xs us Q I r h
  obtain ⟨F, ds, S, r2, p⟩ := h
  unfold listD at p
  split at p
  · obtain ⟨v, rfl, b⟩ := pair1 r2
    obtain ⟨a, ys, rfl, q, rr⟩ := bor_lst S b
    rw [← hK] at q
    exact call_list_of pins s σ H _ us Q I r ⟨a, ys, rfl, .inl q, p.lst S rr⟩
  · obtain ⟨v, rfl, b⟩ := pair1 r2
    obtain ⟨a, ys, rfl, q, rr⟩ := bor_tup S b
    rw [← hK] at q
    exact call_list_of pins s σ H _ us Q I r ⟨a, ys, rfl, .inr q, p.lst S rr⟩
  · exact p.elim
/-- tuple(x) -/
def tupleD : List D → R D
  | [.lst x] => .ok (.tup x)
  | [.tup x] => .ok (.tup x)
  | _ => .bad
theorem tupleD_ne : NoExL tupleD := fun x c vs h => by unfold tupleD at h; split at h <;> cases h
theorem call_tupleD (hK : X.K = C.G.K) : CallR X (.type "tuple") (rC C.G tupleD) := by
  intro pins s σ H xs us Q I r h
  obtain ⟨F, ds, S, r2, p⟩ := h
  unfold tupleD at p
  split at p
  · obtain ⟨v, rfl, b⟩ := pair1 r2
    obtain ⟨a, ys, rfl, q, rr⟩ := bor_lst S b
    rw [← hK] at q
    exact call_tuple_of pins s σ H _ us Q I r ⟨a, ys, rfl, .inl ⟨q, p.tup S rr⟩⟩
  · obtain ⟨v, rfl, b⟩ := pair1 r2
    have b' := b
    obtain ⟨a, ys, rfl, q, rr⟩ := bor_tup S b
    rw [← hK] at q
    exact call_tuple_of pins s σ H _ us Q I r ⟨a, ys, rfl, .inr ⟨q, p _ F H (Ext.refl S) (b'.elim id fun ⟨_, _, _, z⟩ => z.elim)⟩⟩
  · exact p.elim
/-- ints of a list -/
def intsD : List D → Option (List Int)
  | [] => some []
  | .int i :: r => (intsD r).map (i :: ·)
  | _ :: _ => none
theorem ints_rep {G : GE} {F : Hp} : ∀ {ds : List D} {vs : List V} {ns : List Int}, intsD ds = some ns → RepL G F ds vs → vs = ns.map V.int
  | [], vs, ns, h, r => by
    unfold RepL at r
    cases h
    exact r
  | d :: ds, vs, ns, h, r => by
    cases d with
    | int i =>
      unfold intsD at h
      unfold RepL at r
      obtain ⟨v, t, rfl, r1, r2⟩ := r
      cases k : intsD ds with
      | none => rw [k] at h; cases h
      | some ms =>
        rw [k] at h
        cases h
        rw [rep_int.mp r1, ints_rep k r2]
        rfl
    | _ => cases h
/-- sum(xs) -/
def sumD : List D → R D
  | [.lst x] => match intsD x with
    | some ns => .ok (.int ns.sum)
    | none => .bad
  | _ => .bad
theorem sumD_ne : NoExL sumD := fun x c vs h => by
  unfold sumD at h
  split at h <;> first | cases h | (split at h <;> cases h)
theorem call_sumD (v : Pl X C W) : CallR X (.builtin "sum") (rC C.G sumD) := by
  intro pins s σ H xs us Q I r h
  obtain ⟨F, ds, S, r2, p⟩ := h
  unfold sumD at p
  split at p
  · split at p
    · rename_i ns hn
      obtain ⟨u, rfl, b⟩ := pair1 r2
      obtain ⟨a, ys, rfl, q, rr⟩ := bor_lst S b
      rw [ints_rep hn rr, ← v.K] at q
      exact cr_sum v.calm pins s σ H _ us Q I r ⟨a, ns, rfl, q, p.int S⟩
    · exact p.elim
  · exact p.elim
/-- max(a, b), min(a, b) -/
def max2D : List D → R D
  | [.int i, .int j] => .ok (.int (if j > i then j else i))
  | _ => .bad
def min2D : List D → R D
  | [.int i, .int j] => .ok (.int (if j < i then j else i))
  | _ => .bad
theorem max2D_ne : NoExL max2D := fun x c vs h => by unfold max2D at h; split at h <;> cases h
theorem min2D_ne : NoExL min2D := fun x c vs h => by unfold min2D at h; split at h <;> cases h
theorem call_max2D (v : Pl X C W) : CallR X (.builtin "max") (rC C.G max2D) := by
  intro pins s σ H xs us Q I r h
  obtain ⟨F, ds, S, r2, p⟩ := h
  unfold max2D at p
  split at p
  · obtain ⟨u, w, rfl, b1, b2⟩ := pair2 r2
    exact call_max2 v.calm pins s σ H _ us Q I r ⟨_, _, by rw [bor_int b1, bor_int b2], p.int S⟩
  · exact p.elim
theorem call_min2D (v : Pl X C W) : CallR X (.builtin "min") (rC C.G min2D) := by
  intro pins s σ H xs us Q I r h
  obtain ⟨F, ds, S, r2, p⟩ := h
  unfold min2D at p
  split at p
  · obtain ⟨u, w, rfl, b1, b2⟩ := pair2 r2
    exact call_min2 v.calm pins s σ H _ us Q I r ⟨_, _, by rw [bor_int b1, bor_int b2], p.int S⟩
  · exact p.elim
def absD : List D → R D
  | [.int i] => .ok (.int (if i < 0 then -i else i))
  | _ => .bad
theorem absD_ne : NoExL absD := fun x c vs h => by unfold absD at h; split at h <;> cases h
theorem call_absD : CallR X (.builtin "abs") (rC C.G absD) := by
  intro pins s σ H xs us Q I r h
  obtain ⟨F, ds, S, r2, p⟩ := h
  unfold absD at p
  split at p
  · obtain ⟨u, rfl, b⟩ := pair1 r2
    exact call_abs pins s σ H _ us Q I r ⟨_, by rw [bor_int b], p.int S⟩
  · exact p.elim
/-- all(xs) -/
def blsD : List D → Option (List Bool)
  | [] => some []
  | .bl i :: r => (blsD r).map (i :: ·)
  | _ :: _ => none
theorem bls_rep {G : GE} {F : Hp} : ∀ {ds : List D} {vs : List V} {ns : List Bool}, blsD ds = some ns → RepL G F ds vs → vs = ns.map V.bl
  | [], vs, ns, h, r => by
    unfold RepL at r
    cases h
    exact r
  | d :: ds, vs, ns, h, r => by
    cases d with
    | bl i =>
      unfold blsD at h
      unfold RepL at r
      obtain ⟨v, t, rfl, r1, r2⟩ := r
      cases k : blsD ds with
      | none => rw [k] at h; cases h
      | some ms =>
        rw [k] at h
        cases h
        rw [rep_bl.mp r1, bls_rep k r2]
        rfl
    | _ => cases h
def allD : List D → R D
  | [.lst x] => match blsD x with
    | some ns => .ok (.bl (ns.all id))
    | none => .bad
  | _ => .bad
theorem allD_ne : NoExL allD := fun x c vs h => by
  unfold allD at h
  split at h <;> first | cases h | (split at h <;> cases h)
theorem call_allD (v : Pl X C W) : CallR X (.builtin "all") (rC C.G allD) := by
  intro pins s σ H xs us Q I r h
  obtain ⟨F, ds, S, r2, p⟩ := h
  unfold allD at p
  split at p
  · split at p
    · rename_i ns hn
      obtain ⟨u, rfl, b⟩ := pair1 r2
      obtain ⟨a, ys, rfl, q, rr⟩ := bor_lst S b
      rw [bls_rep hn rr, ← v.K] at q
      exact cr_all v.calm pins s σ H _ us Q I r ⟨a, ns, rfl, q, p.bl S⟩
    · exact p.elim
  · exact p.elim

/-! ### methods of texts -/
/-- texts of a list -/
def strsD : List D → Option (List (List Nat))
  | [] => some []
  | .str i :: r => (strsD r).map (i :: ·)
  | _ :: _ => none
def toS (x : List Nat) : Str := ⟨x.toArray⟩
theorem strs_rep {G : GE} {F : Hp} : ∀ {ds : List D} {vs : List V} {ns : List (List Nat)}, strsD ds = some ns → RepL G F ds vs → vs = (ns.map toS).map V.str ∧ ∀ x ∈ ns, okS x = true
  | [], vs, ns, h, r => by
    unfold RepL at r
    cases h
    exact ⟨r, fun _ z => by cases z⟩
  | d :: ds, vs, ns, h, r => by
    cases d with
    | str i =>
      unfold strsD at h
      unfold RepL at r
      obtain ⟨v, t, rfl, r1, r2⟩ := r
      cases k : strsD ds with
      | none => rw [k] at h; cases h
      | some ms =>
        rw [k] at h
        cases h
        obtain ⟨e1, e2⟩ := strs_rep k r2
        obtain ⟨e3, e4⟩ := rep_str.mp r1
        refine ⟨by rw [e3, e1]; rfl, fun x hx => ?_⟩
        rcases List.mem_cons.mp hx with z | z
        · rw [z]; exact e4
        · exact e2 x z
    | _ => cases h
def joinD : D → D → R D
  | .str a, .lst xs => match strsD xs with
    | some ys => if (ys.map (·.length)).sum + ys.length * a.length ≤ SZ then .ok (.str (TL.joinL a ys)) else .bad
    | none => .bad
  | _, _ => .bad
theorem joinD_ne : NoEx2 joinD := fun x y c vs h => by
  unfold joinD at h
  split at h <;> first | cases h | (split at h <;> first | cases h | (split at h <;> cases h))
theorem joinL_mem {a : List Nat} {c : Nat} : ∀ {ys : List (List Nat)}, c ∈ TL.joinL a ys → c ∈ a ∨ ∃ y ∈ ys, c ∈ y := by
  intro ys
  induction ys with
  | nil => intro h; simp [TL.joinL] at h
  | cons x r ih =>
    intro h
    cases r with
    | nil => exact .inr ⟨x, by simp, by simpa [TL.joinL] using h⟩
    | cons y r =>
      have e : TL.joinL a (x :: y :: r) = x ++ (a ++ TL.joinL a (y :: r)) := by simp [TL.joinL]
      rw [e, List.mem_append, List.mem_append] at h
      rcases h with h | h | h
      · exact .inr ⟨x, by simp, h⟩
      · exact .inl h
      · rcases ih h with h | ⟨z, h1, h2⟩
        · exact .inl h
        · exact .inr ⟨z, List.mem_cons_of_mem _ h1, h2⟩
theorem okS_join {a : List Nat} {ys : List (List Nat)} (ha : okS a = true) (hy : ∀ y ∈ ys, okS y = true) : okS (TL.joinL a ys) = true := by
  unfold okS at *
  rw [List.all_eq_true] at *
  intro c hc
  rcases joinL_mem hc with h | ⟨y, h1, h2⟩
  · exact ha c h
  · exact List.all_eq_true.mp (hy y h1) c h2
/-- a method of a built-in type -/
def eM (T : String) (g : D → List D → R D) (fa : SS → R D) (fs : SS → R (List D)) : SS → R D := fun s => (fa s).bind fun x => if tyN x = some T then (fs s).bind (g x) else .bad
def NoExM (g : D → List D → R D) : Prop := ∀ x xs c vs, g x xs ≠ .ex c vs
def rM (G : GE) (g : D → List D → R D) : V → List V → Hp → VK → Prop := fun x vs H Q => ∃ F d ds, Same F H ∧ Bor G F H d x ∧ Paired (Bor G F H) ds vs ∧ PostV G F H Q (g d ds)
theorem bor_tyV {G : GE} {K : PySem.W.Frag} (hK : K = G.K) {F H : Hp} (S : Same F H) {d : D} {u : V} {T : String} (hT : T = "str" ∨ T = "list") (ht : tyN d = some T) (b1 : Bor G F H d u) : tyV K T u H := by
  subst hK
  cases d <;> (unfold tyN at ht) <;> (cases ht) <;> first
    | (rcases hT with h | h <;> exact absurd h (by decide))
    | skip
  · rw [(bor_str b1).1]
    exact (rfl : "str" = "str")
  · obtain ⟨a, xs, rfl, q, _⟩ := bor_lst S b1
    exact .inl ⟨rfl, xs, q⟩
variable {g : D → List D → R D} {T id : String} {name : Str}
theorem s_me (v : Pq X C W) (hT : T = "str" ∨ T = "list") (hg : NoExM g) (pa : PlainAttrs T) (slot : Slot T name id) (hty : typeOf (.builtin id) = pure (.type "method_descriptor")) (hm : MtR X id (rM C.G g)) (ho : PE X a (tB C W fa)) (ha : PA X (e :: es) (tAB C W fs))
    (hbase : attributeBase a name X.env (eval a X.env) = eval a X.env := by rfl)
    (hfew : ((backTo pos (starEach (e :: es) X.env)).all (fun x => !x.1) && (backToKw pos (keywordEach [] X.env)).all (fun x => x.1.isSome)
      && decide ((e :: es).length + ([] : List Keyword).length + (if ([] : List Keyword).isEmpty then 0 else 1) < 30)) = true := by rfl)
    (hline : (apos.endLine == pos.line) = true := by rfl) (hs : starEach (e :: es) X.env = (false, eval e X.env) :: starEach es X.env := by rfl) (hplain : (backTo pos (starEach es X.env)).any (·.1) = false := by rfl) :
    PE X (.Call (.Attribute a name apos) (e :: es) [] pos) (tD C W (eM T g fa fs)) := by
  refine pe_imp (pe_bm pa slot hty hm ho ha hbase hfew hline hs hplain) fun σ H Q h => ?_
  obtain ⟨F, sd, S, h⟩ := h
  refine ⟨F, sd, S, PostE.bind h fun d u F1 H1 e1 b1 h1 => ?_⟩
  by_cases ht : tyN d = some T
  · rw [if_pos ht] at h1
    refine ⟨bor_tyV v.K e1.fh hT ht b1, ?_⟩
    refine ⟨F1, sd, S.mono e1, PostE.bindA h1 fun ds vs F2 H2 e2 r h2 => ?_⟩
    exact ⟨F2, d, ds, e2.fh, Bor.mono e2 b1, r, h2.toV (hg d ds)⟩
  · rw [if_neg ht] at h1
    exact h1.elim
def joinM (x : D) : List D → R D
  | [y] => joinD x y
  | _ => .bad
theorem joinM_ne : NoExM joinM := fun x xs c vs h => by
  unfold joinM at h
  split at h
  · exact joinD_ne _ _ _ _ h
  · cases h
theorem mt_joinM (hK : X.K = C.G.K) : MtR X "str.join" (rM C.G joinM) := by
  intro pins s σ H x xs v us Q I rx rs h
  obtain ⟨F, d, ds, S, b1, r, p⟩ := h
  unfold joinM at p
  split at p
  · obtain ⟨u, rfl, b2⟩ := pair1 r
    unfold joinD at p
    split at p
    · rename_i z xs
      split at p
      · rename_i ys hy
        split at p
        · rename_i hz
          obtain ⟨ea, ka⟩ := bor_str b1
          obtain ⟨p', vs, e', q, rr⟩ := bor_lst S b2
          obtain ⟨ev, kv⟩ := strs_rep hy rr
          rw [ev, ← hK] at q
          refine mt_join pins s σ H x _ v us Q I rx rs ⟨_, p', ys.map toS, ea, by rw [e'], .inl q, ?_, ?_⟩
          · have l1 : (⟨z.toArray⟩ : Str).length = z.length := List.size_toArray
            rw [l1, List.length_map]
            have : (ys.map toS).map (·.length) = ys.map (·.length) := SX.lens ys
            rw [this]
            exact (sz_is ▸ hz)
          · have : Txt.join (⟨z.toArray⟩ : Str) (ys.map toS) = ⟨(TL.joinL z ys).toArray⟩ := SX.join_S z ys
            rw [this]
            exact p.str S (okS_join ka kv)
        · exact p.elim
      · exact p.elim
    · exact p.elim
  · exact p.elim
theorem s_join (v : Pq X C W) (ho : PE X a (tB C W fa)) (ha : PA X [e] (tAB C W fs))
    (hbase : attributeBase a "join" X.env (eval a X.env) = eval a X.env := by rfl)
    (hfew : ((backTo pos (starEach [e] X.env)).all (fun x => !x.1) && (backToKw pos (keywordEach [] X.env)).all (fun x => x.1.isSome)
      && decide (([e] : List Expr).length + ([] : List Keyword).length + (if ([] : List Keyword).isEmpty then 0 else 1) < 30)) = true := by rfl)
    (hline : (apos.endLine == pos.line) = true := by rfl) (hs : starEach [e] X.env = (false, eval e X.env) :: starEach [] X.env := by rfl) (hplain : (backTo pos (starEach [] X.env)).any (·.1) = false := by rfl) :
    PE X (.Call (.Attribute a "join" apos) [e] [] pos) (tD C W (eM "str" joinM fa fs)) :=
  s_me v (.inl rfl) joinM_ne PySem.F.plainAttrs_str PySem.F.slot_str_join PySem.F.type_str_join (mt_joinM v.K) ho ha hbase hfew hline hs hplain
/-- x.index(y), a text -/
def idxS (x : D) : List D → R D
  | [y] => match x, y with
    | .str z, .str [c] => if c ∈ z then .ok (.int (z.findIdx (· == c) : Nat)) else .bad
    | _, _ => .bad
  | _ => .bad
theorem idxS_ne : NoExM idxS := fun x xs c vs h => by
  unfold idxS at h
  split at h
  · split at h <;> first | cases h | (split at h <;> cases h)
  · cases h
theorem mt_idxS : MtR X "str.index" (rM C.G idxS) := by
  intro pins s σ H x xs v us Q I rx rs h
  obtain ⟨F, d, ds, S, b1, r, p⟩ := h
  unfold idxS at p
  split at p
  · obtain ⟨u, rfl, b2⟩ := pair1 r
    split at p
    · rename_i z c
      split at p
      · rename_i hc
        obtain ⟨rfl, ka⟩ := bor_str b1
        obtain ⟨rfl, kb⟩ := bor_str b2
        obtain ⟨t, rfl⟩ := rx
        obtain ⟨u', rfl, t', rfl⟩ := Vals.one rs
        have e1 : (⟨#[c]⟩ : Str) = ⟨[c].toArray⟩ := rfl
        rcases StrLaws.occ_head (⟨z.toArray⟩ : Str) ⟨#[c]⟩ 1 (Nat.le_refl 1) with ⟨_, hn⟩ | ⟨i, r, hi, hat, hno⟩
        · exfalso
          obtain ⟨i, hi⟩ := List.mem_iff_getElem?.mp hc
          exact hn i ((StrLaws.subAt_one _ c i).mpr (by simpa using hi))
        · have hat' : z[i]? = some c := by simpa using (StrLaws.subAt_one _ c i).mp hat
          have hno' : ∀ k, k < i → z[k]? ≠ some c := fun k hk e => hno k hk ((StrLaws.subAt_one _ c k).mpr (by simpa using e))
          have hidx : z.findIdx (· == c) = i := by
            obtain ⟨hl, e⟩ := List.getElem?_eq_some_iff.mp hat'
            refine (List.findIdx_eq hl).mpr ⟨by simp [e], fun j hj => ?_⟩
            have := hno' j hj
            rw [List.getElem?_eq_getElem (by omega)] at this
            simpa using fun z => this (by rw [z])
          rw [hidx] at p
          exact PySem.SC.index hi ⟨.int (i : Nat), H, I.tok _, ⟨_, rfl⟩, p.int S⟩
      · exact p.elim
    · exact p.elim
  · exact p.elim
/-- x.index(y), a list -/
def idxL (x : D) : List D → R D
  | [y] => match x with
    | .lst zs => if depL zs ≤ 63 ∧ dep y ≤ 64 then (if zs.any (fun z => eqv z y) then .ok (.int (zs.findIdx (fun z => eqv z y) : Nat)) else .bad) else .bad
    | _ => .bad
  | _ => .bad
theorem idxL_ne : NoExM idxL := fun x xs c vs h => by
  unfold idxL at h
  split at h
  · split at h
    · split at h
      · split at h <;> cases h
      · cases h
    · cases h
  · cases h
theorem pyL_get : ∀ (ds : List D) (j : Nat), (pyL ds)[j]? = (ds[j]?).map py
  | [], j => by simp [pyL]
  | d :: ds, 0 => by simp [pyL]
  | d :: ds, j + 1 => by simpa [pyL] using pyL_get ds j
theorem depL_mem : ∀ {ds : List D} {d : D}, d ∈ ds → dep d ≤ depL ds
  | [], d, h => by cases h
  | x :: ds, d, h => by
    unfold depL
    rcases List.mem_cons.mp h with e | e
    · subst e; omega
    · have := depL_mem e; omega
theorem mt_idxL (v : Pq X C W) : MtR X "list.index" (rM C.G idxL) := by
  intro pins s σ H x xs u us Q I rx rs h
  obtain ⟨F, d, ds, S, b1, r, p⟩ := h
  unfold idxL at p
  split at p
  · rename_i y
    obtain ⟨w, rfl, b2⟩ := pair1 r
    split at p
    · rename_i zs
      split at p
      · rename_i hz
        split at p
        · rename_i ha
          obtain ⟨a1, a2⟩ := bor_dp v.K S (d := .lst zs) (by unfold dep; omega) b1
          obtain ⟨c1, c2⟩ := bor_dp v.K S hz.2 b2
          obtain ⟨ad, vs, rfl, _, _⟩ := bor_lst S b1
          unfold py at a1 a2
          obtain ⟨z, hzm, hze⟩ := List.any_eq_true.mp ha
          have hlt : zs.findIdx (fun z => eqv z y) < zs.length := List.findIdx_lt_length_of_exists ⟨z, hzm, hze⟩
          refine mt_indexD v.hu pins s σ H _ _ u us Q I rx rs ⟨ad, w, py y, pyL zs, zs.findIdx (fun z => eqv z y), py (zs[zs.findIdx (fun z => eqv z y)]), rfl, rfl, a1, c1, a2, c2, ?_, ?_, fun m z' hm he => ?_, p.int S⟩
          · rw [pyL_get, List.getElem?_eq_getElem hlt]
            rfl
          · rw [py_eqv _ _ (Nat.le_trans (depL_mem (List.getElem_mem hlt)) (by omega)) hz.2]
            exact List.findIdx_getElem (w := hlt)
          · rw [pyL_get, List.getElem?_eq_getElem (by omega)] at he
            cases he
            rw [py_eqv _ _ (Nat.le_trans (depL_mem (List.getElem_mem _)) (by omega)) hz.2]
            simpa using List.not_of_lt_findIdx hm
        · exact p.elim
      · exact p.elim
    · exact p.elim
  · exact p.elim
theorem s_idxS (v : Pq X C W) (ho : PE X a (tB C W fa)) (ha : PA X [e] (tAB C W fs))
    (hbase : attributeBase a "index" X.env (eval a X.env) = eval a X.env := by rfl)
    (hfew : ((backTo pos (starEach [e] X.env)).all (fun x => !x.1) && (backToKw pos (keywordEach [] X.env)).all (fun x => x.1.isSome)
      && decide (([e] : List Expr).length + ([] : List Keyword).length + (if ([] : List Keyword).isEmpty then 0 else 1) < 30)) = true := by rfl)
    (hline : (apos.endLine == pos.line) = true := by rfl) (hs : starEach [e] X.env = (false, eval e X.env) :: starEach [] X.env := by rfl) (hplain : (backTo pos (starEach [] X.env)).any (·.1) = false := by rfl) :
    PE X (.Call (.Attribute a "index" apos) [e] [] pos) (tD C W (eM "str" idxS fa fs)) :=
  s_me v (.inl rfl) idxS_ne PySem.F.plainAttrs_str PySem.F.slot_str_index PySem.F.type_str_index mt_idxS ho ha hbase hfew hline hs hplain
theorem s_idxL (v : Pq X C W) (ho : PE X a (tB C W fa)) (ha : PA X [e] (tAB C W fs))
    (hbase : attributeBase a "index" X.env (eval a X.env) = eval a X.env := by rfl)
    (hfew : ((backTo pos (starEach [e] X.env)).all (fun x => !x.1) && (backToKw pos (keywordEach [] X.env)).all (fun x => x.1.isSome)
      && decide (([e] : List Expr).length + ([] : List Keyword).length + (if ([] : List Keyword).isEmpty then 0 else 1) < 30)) = true := by rfl)
    (hline : (apos.endLine == pos.line) = true := by rfl) (hs : starEach [e] X.env = (false, eval e X.env) :: starEach [] X.env := by rfl) (hplain : (backTo pos (starEach [] X.env)).any (·.1) = false := by rfl) :
    PE X (.Call (.Attribute a "index" apos) [e] [] pos) (tD C W (eM "list" idxL fa fs)) :=
  s_me v (.inr rfl) idxL_ne PySem.F.plainAttrs_list PySem.F.slot_list_index PySem.F.type_list_index (mt_idxL v) ho ha hbase hfew hline hs hplain
end
end
end Z
namespace Z
noncomputable section
open PySem PySem.Spec PySem.P PyProof.Rows L2

/-! ### own objects changed -/
theorem StR.upOw {C : CT} {F H : Hp} {s : SS} {σ : L2.St} {i : Nat} {d d' : D} {a : Addr} {o : HO} (S : StR C F H s σ) (hs : s[i]? = some (.ow d)) (hσ : σ[i]? = some (some (.ref a))) (r : OwR C.G F (upd H a o) a d') : StR C F (upd H a o) (s.set i (.ow d')) σ := by
  have hi : i < s.length := (List.getElem?_eq_some_iff.mp hs).1
  obtain ⟨b, h1, h2, h3, h4⟩ := S.ow i d (.inl hs)
  rw [hσ] at h1
  cases h1
  have other : ∀ (j : Nat) (e : D) (b : Addr), j ≠ i → s[j]? = some (.ow e) ∨ s[j]? = some (.lk e) → σ[j]? = some (some (.ref b)) → b ≠ a := fun j e b hj q2 q3 z => by
    subst z
    exact hj (S.dis j i e d b q2 (.inl hs) q3 hσ)
  refine ⟨⟨S.ext.ff, fun b u e => ?_, fun b u e => ?_, S.ext.ow⟩, by rw [List.length_set]; exact S.len, fun j e q => ?_, fun j e q => ?_, fun j k e e' b q1 q2 q3 q4 => ?_, (S.nt.step (fun j k e q => ?_) (fun j k l q => ?_) (fun j e b q z => ?_) (Same.refl F) fun b o z1 z2 z3 => ?_).up⟩
  · rw [upd_ne (ne_of_none e h2)]
    exact S.ext.hh _ _ e
  · rw [upd_ne (ne_of_none e h3)]
    exact S.ext.fh _ _ e
  · by_cases hij : i = j
    · subst hij
      rw [List.getElem?_set_self hi] at q
      cases q
    · rw [List.getElem?_set_ne hij] at q
      exact S.sh j e q
  · by_cases hij : i = j
    · subst hij
      rw [List.getElem?_set_self hi] at q
      rcases q with q | q
      · cases q
        exact ⟨a, hσ, h2, h3, r⟩
      · cases q
    · rw [List.getElem?_set_ne hij] at q
      obtain ⟨b, e1, e2, e3, e4⟩ := S.ow j e q
      have hb := other j e b (Ne.symm hij) q e1
      exact ⟨b, e1, e2, e3, e4.mono (Same.refl F) fun u z => by rw [upd_ne hb]; exact z⟩
  · by_cases hij : i = j
    · by_cases hik : i = k
      · exact hij.symm.trans hik
      · subst hij
        rw [List.getElem?_set_ne hik] at q2
        rw [hσ] at q3
        cases q3
        exact (other k e' _ (Ne.symm hik) q2 q4 rfl).elim
    · rw [List.getElem?_set_ne hij] at q1
      by_cases hik : i = k
      · subst hik
        rw [hσ] at q4
        cases q4
        exact (other j e _ (Ne.symm hij) q1 q3 rfl).elim
      · rw [List.getElem?_set_ne hik] at q2
        exact S.dis j k e e' b q1 q2 q3 q4
  · by_cases hij : i = j
    · subst hij
      rw [List.getElem?_set_self hi] at q
      cases q
    · rw [List.getElem?_set_ne hij] at q
      exact ⟨q, rfl⟩
  · by_cases hij : i = j
    · subst hij
      rw [List.getElem?_set_self hi] at q
      cases q
    · rw [List.getElem?_set_ne hij] at q
      exact ⟨q, rfl⟩
  · by_cases hij : i = j
    · subst hij
      exact .inl ⟨i, d, .inl hs, z⟩
    · rw [List.getElem?_set_ne hij] at q
      exact .inl ⟨j, e, q, z⟩
  · have hb : b ≠ a := fun y => by subst y; exact z3 i d (.inl hs) hσ
    rw [upd_ne hb]
    exact ⟨z1, z2⟩
theorem lk_ow {s : SS} {σ : L2.St} {i : Nat} {d d' : D} (hs : s[i]? = some (.ow d)) : Lk s σ (s.set i (.ow d')) σ := lk_one (fun y e => by rw [hs] at e; cases e; rfl) fun _ _ => rfl
def owL (s : SS) (i : Nat) : Option (List D) := match s[i]? with
  | some (.ow (.lst xs)) => some xs
  | _ => none
theorem owL_some {s : SS} {i : Nat} {xs : List D} (h : owL s i = some xs) : s[i]? = some (.ow (.lst xs)) := by
  unfold owL at h
  split at h
  · rename_i e
    cases h
    exact e
  · cases h
section
variable {X : Cx} {C : CT} {W : WX} {a b c e : Expr} {es : List Expr} {fa fb fc fe f : SS → R D} {pos pos' p p2 apos : Pos} {fs : SS → R (List D)} {x y : Str} {i j : Nat}
/-- x.append(e), x own: f makes the new items -/
def sMut (i : Nat) (fe : SS → R D) (g : List D → D → R (List D)) : SS → RS := fun s => match owL s i with
  | some xs => sE fe (fun d s => match g xs d with
    | .ok ys => if ys.length ≤ SZ then .nx (s.set i (.ow (.lst ys))) else .bad
    | _ => .bad) s
  | none => .bad
def gApp (xs : List D) (d : D) : R (List D) := .ok (xs ++ [d])
def sApp (i : Nat) (fe : SS → R D) : SS → RS := sMut i fe gApp
theorem post_mut {F H : Hp} {sd : SS} {σ : L2.St} {En : Ends} {g : List D → D → R (List D)} {P : Hp → Hp → D → V → Prop} {Q : VK} {xs : List D} (S : StR C F H sd σ) (hx : owL sd i = some xs) (h : PostS C W F sd σ En (sMut i fe g sd))
    (hk : ∀ d v F1 H1 a vs ys, Ext F H F1 H1 → P F1 H1 d v → σ[i]? = some (some (.ref a)) → F1 a = none → H1 a = some (.lst vs) → RepL C.G F1 xs vs → g xs d = .ok ys → ys.length ≤ SZ →
      (∀ us, RepL C.G F1 ys us → En.nx σ (upd H1 a (.lst us))) → Q v H1) : PostE C W F H σ P Q (fe sd) := by
  unfold sMut at h
  rw [hx] at h
  refine postS_E S h fun d v F1 H1 e1 p1 h1 => ?_
  cases q : g xs d with
  | ok ys =>
    rw [q] at h1
    dsimp only at h1
    split at h1
    · rename_i hz
      have S1 := S.mono e1
      have ho := owL_some hx
      obtain ⟨a, e2, e3, e4, vs, e5, e6⟩ := S1.ow i _ (.inl ho)
      refine hk d v F1 H1 a vs ys e1 p1 e2 e4 e5 e6 q hz fun us r => ?_
      exact h1 F1 _ σ (S1.upOw ho e2 ⟨us, upd_same, r⟩) e1.ff (lk_ow ho)
    · exact h1.elim
  | ex c vs => rw [q] at h1; exact h1.elim
  | bad => rw [q] at h1; exact h1.elim
theorem mut_slot {F H : Hp} {sd : SS} {σ : L2.St} {En : Ends} {g : List D → D → R (List D)} (S : StR C F H sd σ) (h : PostS C W F sd σ En (sMut i fe g sd)) : ∃ xs a vs, owL sd i = some xs ∧ σ[i]? = some (some (.ref a)) ∧ H a = some (.lst vs) := by
  cases q : owL sd i with
  | none => unfold sMut at h; rw [q] at h; exact h.elim
  | some xs =>
    obtain ⟨a, e2, e3, e4, vs, e5, e6⟩ := S.ow i _ (.inl (owL_some q))
    exact ⟨xs, a, vs, rfl, e2, e5⟩
theorem s_app (i : Nat) (he : PE X e (tD C W fe)) (hN : X.N[i]? = some x := by rfl) (hv : Vis X.env.scope x := by first | exact Or.inl rfl | exact Or.inr (Or.inl rfl) | exact Or.inr (Or.inr rfl)) (hd : (x == ("__debug__" : Str)) = false := by decide)
    (hcd : (x == ("__classdict__" : Str)) = false := by decide)
    (hbase : attributeBase (.Name x p) "append" X.env (eval (.Name x p) X.env) = eval (.Name x p) X.env := by rfl)
    (hfew : ((backTo pos (starEach [e] X.env)).all (fun x => !x.1) && (backToKw pos (keywordEach [] X.env)).all (fun x => x.1.isSome)
      && decide (([e] : List Expr).length + ([] : List Keyword).length + (if ([] : List Keyword).isEmpty then 0 else 1) < 30)) = true := by rfl)
    (hline : (apos.endLine == pos.line) = true := by rfl) (hs : starEach [e] X.env = (false, eval e X.env) :: starEach [] X.env := by rfl) (hplain : (backTo pos (starEach [] X.env)).any (·.1) = false := by rfl)
    (hsw : swapsWith (.Call (.Attribute (.Name x p) "append" apos) [e] [] pos) none pos'.line X.env = pure false := by rfl) :
    PS X (.Expr (.Call (.Attribute (.Name x p) "append" apos) [e] [] pos) pos') (tS C W (sApp i fe)) := by
  refine ps_imp (ps_expr (pe_bm PySem.F.plainAttrs_list PySem.F.slot_list_append PySem.F.type_list_append mt_append (pe_var (i := i) hN hv hd hcd) (pa_cons he pa_nil hs) hbase hfew hline hs hplain) hsw) fun En σ H ⟨F, sd, S, h⟩ => ?_
  obtain ⟨xs, a, vs, hx, e2, e5⟩ := mut_slot S h
  refine ⟨_, e2, .inl ⟨rfl, vs, SqL.of e5⟩, F, sd, S, post_mut S hx h fun d u F1 H1 a' vs' ys e1 p1 e2' fa e5' r hg hz hn => ?_⟩
  rw [e2] at e2'
  cases e2'
  cases hg
  refine ⟨a, vs', u, rfl, rfl, e5', ?_, hn _ (r.append (RepL.cons p1 RepL.nil))⟩
  have hz : (xs ++ [d]).length ≤ 16777216 := (sz_is ▸ hz)
  rw [r.length, sizeLine_eq]
  rw [List.length_append, List.length_singleton] at hz
  omega
/-- x.extend(e), e a new list -/
def gExt (xs : List D) (d : D) : R (List D) := match d with
  | .lst ys => .ok (xs ++ ys)
  | _ => .bad
def sExt (i : Nat) (fe : SS → R D) : SS → RS := sMut i fe gExt
theorem s_ext (i : Nat) (he : PE X e (tF C W fe)) (hN : X.N[i]? = some x := by rfl) (hv : Vis X.env.scope x := by first | exact Or.inl rfl | exact Or.inr (Or.inl rfl) | exact Or.inr (Or.inr rfl)) (hd : (x == ("__debug__" : Str)) = false := by decide)
    (hcd : (x == ("__classdict__" : Str)) = false := by decide)
    (hbase : attributeBase (.Name x p) "extend" X.env (eval (.Name x p) X.env) = eval (.Name x p) X.env := by rfl)
    (hfew : ((backTo pos (starEach [e] X.env)).all (fun x => !x.1) && (backToKw pos (keywordEach [] X.env)).all (fun x => x.1.isSome)
      && decide (([e] : List Expr).length + ([] : List Keyword).length + (if ([] : List Keyword).isEmpty then 0 else 1) < 30)) = true := by rfl)
    (hline : (apos.endLine == pos.line) = true := by rfl) (hs : starEach [e] X.env = (false, eval e X.env) :: starEach [] X.env := by rfl) (hplain : (backTo pos (starEach [] X.env)).any (·.1) = false := by rfl)
    (hsw : swapsWith (.Call (.Attribute (.Name x p) "extend" apos) [e] [] pos) none pos'.line X.env = pure false := by rfl) :
    PS X (.Expr (.Call (.Attribute (.Name x p) "extend" apos) [e] [] pos) pos') (tS C W (sExt i fe)) := by
  refine ps_imp (ps_expr (pe_bm PySem.F.plainAttrs_list PySem.F.slot_list_extend PySem.F.type_list_extend mt_extend (pe_var (i := i) hN hv hd hcd) (pa_cons he pa_nil hs) hbase hfew hline hs hplain) hsw) fun En σ H ⟨F, sd, S, h⟩ => ?_
  obtain ⟨xs, a, vs, hx, e2, e5⟩ := mut_slot S h
  refine ⟨_, e2, .inl ⟨rfl, vs, SqL.of e5⟩, F, sd, S, post_mut (P := pF C H) S hx h fun d u F1 H1 a' vs' ys e1 p1 e2' fa e5' r hg hz hn => ?_⟩
  rw [e2] at e2'
  cases e2'
  obtain ⟨b, rfl, hb, fb, ow⟩ := p1
  unfold gExt at hg
  split at hg
  · cases hg
    obtain ⟨us, e6, r6⟩ := ow
    refine ⟨a, b, vs', us, rfl, rfl, e5', e6, ?_, hn _ (r.append r6)⟩
    rw [r.length, r6.length, ← List.length_append]
    exact sz_line hz
  · cases hg
/-- y = x.pop(), x own -/
def sPop (i j : Nat) : SS → RS := fun s => match owL s i with
  | some xs => (match xs.getLast? with
    | some d => optS (setS (s.set i (.ow (.lst xs.dropLast))) j (.sh d))
    | none => .bad)
  | none => .bad
theorem s_pop (i j : Nat) (hNd : X.N.Nodup) (hN : X.N[i]? = some x := by rfl) (hv : Vis X.env.scope x := by first | exact Or.inl rfl | exact Or.inr (Or.inl rfl) | exact Or.inr (Or.inr rfl))
    (hj : X.N[j]? = some y := by rfl) (hy : Loc X.env.scope y := by first | exact Or.inl rfl | exact Or.inr rfl)
    (hd : (x == ("__debug__" : Str)) = false := by decide) (hcd : (x == ("__classdict__" : Str)) = false := by decide)
    (hbase : attributeBase (.Name x p) "pop" X.env (eval (.Name x p) X.env) = eval (.Name x p) X.env := by rfl) (hline : (apos.endLine == pos.line) = true := by rfl)
    (hsw : swapsWith (.Call (.Attribute (.Name x p) "pop" apos) [] [] pos) (some (.Name y p2)) pos'.line X.env = pure false := by rfl)
    (hf : X.fn y = true ∨ X.env.scope.names.lookup y = some .local := by first | exact .inl rfl | exact .inr rfl) :
    PS X (.Assign [.Name y p2] (.Call (.Attribute (.Name x p) "pop" apos) [] [] pos) pos') (tS C W (sPop i j)) := by
  refine ps_imp (ps_set (i := j) hNd hj hy (pe_bm0 PySem.F.plainAttrs_list PySem.F.slot_list_pop PySem.F.type_list_pop mt_pop (pe_var (i := i) hN hv hd hcd) hbase hline) hsw hf) fun En σ H ⟨F, sd, S, h⟩ => ?_
  unfold sPop at h
  split at h
  · rename_i xs hx
    have ho := owL_some hx
    obtain ⟨a, e2, e3, e4, vs, e5, r⟩ := S.ow i _ (.inl ho)
    split at h
    · rename_i d hd'
      cases q : setS (sd.set i (.ow (.lst xs.dropLast))) j (.sh d) with
      | none => rw [q] at h; exact h.elim
      | some s' =>
        rw [q] at h
        have hl : xs[xs.length - 1]? = some d := by rw [← List.getLast?_eq_getElem?]; exact hd'
        obtain ⟨u, h1, h2⟩ := r.get hl
        have r' : RepL C.G F xs.dropLast vs.dropLast := by
          rw [List.dropLast_eq_take, List.dropLast_eq_take, r.length]
          exact r.take _
        refine ⟨_, e2, .inl ⟨rfl, vs, SqL.of e5⟩, a, vs, u, rfl, rfl, e5, by rw [r.length]; exact h1, ?_⟩
        have S1 := S.upOw (o := .lst vs.dropLast) (d' := .lst xs.dropLast) ho e2 ⟨_, upd_same, r'⟩
        exact h F _ _ (S1.setSh q h2) (Same.refl F) ((lk_ow ho).trans (lk_set q))
    · exact h.elim
  · exact h.elim
end

/-! ### defs -/
/-- what a def gives -/
def PostC (G : GE) (F H : Hp) (Q : VK) (E : XK) (fr : Bool) : R D → Prop
  | .ok d => if fr = true then ∀ a F' H', Ext F H F' H' → H a = none → F' a = none → OwR G F' H' a d → Q (.ref a) H' else ∀ v F' H', Ext F H F' H' → Rep G F' d v → Q v H'
  | .ex c vs => ∀ cls dx F' H', Ext F H F' H' → XR G F' c vs cls dx → E cls dx H'
  | .bad => False
/-- the promise: the def gives what g tells of its arguments; fr: a new object -/
def spD (G : GE) (n : Nat) (g : List D → R D) (fr : Bool) : Sp := fun vs H Q E => ∃ F ds, Same F H ∧ ds.length = n ∧ RepL G F ds vs ∧ PostC G F H Q E fr (g ds)
/-- a body run -/
def runB (fr : Bool) (m : Nat) (f : SS → RS) (ds : List D) : R D := match f (ds.map Sl.sh ++ List.replicate (m - ds.length) .no) with
  | .nx _ => if fr = true then .bad else .ok .non
  | .rt b d => if b = fr then .ok d else .bad
  | .ex c vs _ => .ex c vs
  | _ => .bad
/-- a def that is known -/
structure Kn (P : Program) (w : World) (K : PySem.W.Frag) (mg : Str → Option Value) (base : Heap) (G : GE) (x : Str) (n : Nat) (g : List D → R D) (fr : Bool) (k : Nat) : Prop where
  ex : ∃ f fd ps, FnOk P w K mg base (L2.CX P w) k f fd ps (spD G n g fr) ∧ mg x = some (.ref f) ∧ PySem.W.keepIn K (.ref f) = true ∧ Binds K fd ps []
section
variable {X : Cx} {C : CT} {W : WX} {a b c e : Expr} {es : List Expr} {fa fb fc fe f : SS → R D} {pos pos' p p2 apos : Pos} {fs : SS → R (List D)} {x y : Str} {n k : Nat} {g : List D → R D}
theorem call_ok {F H : Hp} {σ : L2.St} {Q : VK} {ds : List D} {fr : Bool} (h : PostE C W F H σ (if fr = true then pF C H else pD C) Q (g ds)) : PostC C.G F H Q (WE W σ) fr (g ds) := by
  cases q : g ds with
  | ok d =>
    rw [q] at h
    cases fr with
    | true =>
      rw [if_pos rfl] at h
      unfold PostC
      dsimp only
      rw [if_pos rfl]
      exact fun a F' H' e h1 h2 h3 => h _ F' H' e ⟨a, rfl, h1, h2, h3⟩
    | false =>
      rw [if_neg Bool.false_ne_true] at h
      unfold PostC
      dsimp only
      rw [if_neg Bool.false_ne_true]
      exact h
  | ex c vs => rw [q] at h; exact h
  | bad => rw [q] at h; exact h
theorem s_call (v : Pq X C W) (F : Kn X.prog X.w X.K X.mg X.base C.G x n g false k) (hr : Room k X.A) (hg : Gl X x) (hn : ∀ s ds, fs s = .ok ds → ds.length = n) (ha : PA X (a :: es) (tA C W fs)) (hdb : (x == ("__debug__" : Str)) = false := by decide)
    (he : starEach (a :: es) X.env = (false, eval a X.env) :: starEach es X.env := by rfl) (hpl : (backTo pos (starEach es X.env)).any (·.1) = false := by rfl) : PE X (.Call (.Name x p) (a :: es) [] pos) (tD C W (eCall g fs)) := by
  obtain ⟨f, fd, ps, F1, F2, F3, F4⟩ := F.ex
  refine pe_imp (pe_callS F1 hr hg F2 F3 F4 (fun σ => passAt v.tk σ) ha hdb he hpl) fun σ H Q ⟨F, sd, S, h⟩ => ?_
  refine ⟨F, sd, S, ?_⟩
  unfold eCall at h
  cases q : fs sd with
  | ok ds =>
    rw [q] at h
    exact fun vs F' H' e r => ⟨F', ds, e.fh, hn sd ds q, pairL r, call_ok (fr := false) (PostE.ext e h)⟩
  | ex c vs => rw [q] at h; exact h
  | bad => rw [q] at h; exact h
theorem s_callF (v : Pq X C W) (F : Kn X.prog X.w X.K X.mg X.base C.G x n g true k) (hr : Room k X.A) (hg : Gl X x) (hn : ∀ s ds, fs s = .ok ds → ds.length = n) (ha : PA X (a :: es) (tA C W fs)) (hdb : (x == ("__debug__" : Str)) = false := by decide)
    (he : starEach (a :: es) X.env = (false, eval a X.env) :: starEach es X.env := by rfl) (hpl : (backTo pos (starEach es X.env)).any (·.1) = false := by rfl) : PE X (.Call (.Name x p) (a :: es) [] pos) (tF C W (eCall g fs)) := by
  obtain ⟨f, fd, ps, F1, F2, F3, F4⟩ := F.ex
  refine pe_imp (pe_callS F1 hr hg F2 F3 F4 (fun σ => passAt v.tk σ) ha hdb he hpl) fun σ H Q ⟨F, sd, S, h⟩ => ?_
  refine ⟨F, sd, S, ?_⟩
  unfold eCall at h
  cases q : fs sd with
  | ok ds =>
    rw [q] at h
    refine fun vs F' H' e r => ⟨F', ds, e.fh, hn sd ds q, pairL r, call_ok (fr := true) ?_⟩
    rw [if_pos rfl]
    exact PostE.imp (PostE.ext e h) fun _ _ _ _ _ ⟨a, h1, h2, h3⟩ => ⟨a, h1, e.hh.free h2, h3⟩
  | ex c vs => rw [q] at h; exact h
  | bad => rw [q] at h; exact h
/-- how many arguments -/
theorem n_nil : ∀ s ds, aNil s = .ok ds → ds.length = 0 := fun s ds h => by cases h; rfl
theorem n_cons (h : ∀ s ds, fs s = .ok ds → ds.length = n) : ∀ s ds, aCons fa fs s = .ok ds → ds.length = n + 1 := fun s ds q => by
  unfold aCons at q
  cases k : fa s with
  | ok d =>
    cases k2 : fs s with
    | ok es =>
      simp only [k, k2, R.bind] at q
      cases q
      simp [h s es k2]
    | ex c vs => simp only [k, k2, R.bind] at q; cases q
    | bad => simp only [k, k2, R.bind] at q; cases q
  | ex c vs => simp only [k, R.bind] at q; cases q
  | bad => simp only [k, R.bind] at q; cases q
end
theorem start_str {C : CT} {F H : Hp} {ds : List D} {vs : List V} {N : List Str} (hC : C.F0 = F ∧ C.H0 = H) (s : Same F H) (r : RepL C.G F ds vs) (hn : ds.length ≤ N.length) : StR C F H (ds.map Sl.sh ++ List.replicate (N.length - ds.length) .no) (L2.start N vs) := by
  obtain ⟨rfl, rfl⟩ := hC
  have hl := r.length
  have no : ∀ {i : Nat} {x : Sl}, x ≠ .no → (∀ d, x ≠ .sh d) → (ds.map Sl.sh ++ List.replicate (N.length - ds.length) Sl.no)[i]? ≠ some x := fun {i x} h1 h2 e => by
    by_cases hi : i < ds.length
    · rw [List.getElem?_append_left (by simpa using hi), List.getElem?_map, List.getElem?_eq_getElem hi] at e
      cases e
      exact h2 _ rfl
    · rw [List.getElem?_append_right (by simpa using hi), List.getElem?_replicate] at e
      split at e <;> cases e
      exact h1 rfl
  refine ⟨Ext.refl s, ?_, fun i d h => ?_, fun i d h => ?_, fun i j d e a h => ?_, NtOk.zero fun i k d h => no (by intro z; cases z) (fun d z => by cases z) h⟩
  · unfold L2.start
    simp only [List.length_append, List.length_map, List.length_replicate]
    omega
  · by_cases hi : i < ds.length
    · rw [List.getElem?_append_left (by simpa using hi), List.getElem?_map, List.getElem?_eq_getElem hi] at h
      cases h
      obtain ⟨v, h1, h2⟩ := r.get (List.getElem?_eq_getElem hi)
      refine ⟨v, ?_, h2⟩
      unfold L2.start
      rw [List.getElem?_append_left (by simpa [hl] using hi), List.getElem?_map, h1]
      rfl
    · rw [List.getElem?_append_right (by simpa using hi), List.getElem?_replicate] at h
      split at h <;> cases h
  · rcases h with h | h
    · exact (no (by intro z; cases z) (fun d z => by cases z) h).elim
    · exact (no (by intro z; cases z) (fun d z => by cases z) h).elim
  · rcases h with h | h
    · exact (no (by intro z; cases z) (fun d z => by cases z) h).elim
    · exact (no (by intro z; cases z) (fun d z => by cases z) h).elim
/-- THE RULE for a def -/
theorem fn_ok {P : Program} {w : World} {K : PySem.W.Frag} {mg : Str → Option Value} {base : Heap} {G : GE} {x qual : Str} {st : Stmt} {f : Addr} {fd : FuncData} {N ps : List Str} {k : Nat} {g : List D → R D} {fr : Bool} {body : SS → RS}
    (Fu : Fun K x qual st f fd) (S : FnScope N ps (defScope st)) (hK : K = G.K) (hN : ps.length ≤ N.length)
    (hb : ∀ (cdv : Value) (A : Around) (outer : List PySem.Env) (s : Shared) (H F : Hp) (E : XK), Room k (A.deeper (envOfC qual (defScope st) s.heap.objs.size f cdv)) →
      Pl (cxOf (L2.CX P w) P w K mg base N qual (defScope st) f cdv A outer s H E) ⟨G, F, H⟩ (fun cls d _ H => E cls d H) →
      PSs (cxOf (L2.CX P w) P w K mg base N qual (defScope st) f cdv A outer s H E) (defBody st) (tS ⟨G, F, H⟩ (fun cls d _ H => E cls d H) body))
    (hg : ∀ ds, ds.length = ps.length → g ds ≠ .bad → runB fr N.length body ds = g ds) : FnOk P w K mg base (L2.CX P w) (k + 1) f fd ps (spD G ps.length g fr) := by
  refine Fu.okX S (fun vs H Q E h => ?_) (fun cdv A outer s H vs Q E hr h => ?_)
  · obtain ⟨F, ds, _, hl, r, _⟩ := h
    rw [r.length, hl]
  · obtain ⟨F, ds, sm, hl, r, h⟩ := h
    have tk : Takes (cxOf (L2.CX P w) P w K mg base N qual (defScope st) f cdv A outer s H E) (fun cls d _ H => E cls d H) := takes_of rfl rfl rfl rfl
    have v : Pl (cxOf (L2.CX P w) P w K mg base N qual (defScope st) f cdv A outer s H E) ⟨G, F, H⟩ (fun cls d _ H => E cls d H) := by
      refine ⟨⟨hK, ?_, tk, ?_⟩, rfl⟩
      · have := hr.un
        show Around.units (A.deeper _) + 65 < _
        omega
      · exact passes_of rfl
    refine ⟨_, hb cdv A outer s H F E hr v, ?_⟩
    refine ⟨F, ds.map Sl.sh ++ List.replicate (N.length - ds.length) .no, start_str (C := ⟨G, F, H⟩) ⟨rfl, rfl⟩ sm r (by omega), ?_⟩
    have hne : g ds ≠ .bad := fun z => by rw [z] at h; exact h
    have hrun := hg ds hl hne
    unfold runB at hrun
    cases q : body (ds.map Sl.sh ++ List.replicate (N.length - ds.length) .no) with
    | nx s' =>
      rw [q] at hrun
      cases fr with
      | true => rw [← hrun] at hne; exact (hne rfl).elim
      | false =>
        have hrun : R.ok D.non = g ds := hrun
        rw [← hrun] at h
        exact fun F' H' σ' S' f' l' => h .non F' H' S'.ext (rep_non.mpr rfl)
    | rt b d =>
      rw [q] at hrun
      have hrun : (if b = fr then R.ok d else .bad) = g ds := hrun
      by_cases hb : b = fr
      · rw [if_pos hb] at hrun
        rw [← hrun] at h
        subst hb
        cases b with
        | true => exact fun a F' H' e f' h1 h2 h3 => h a F' H' e h1 h2 h3
        | false => exact fun u F' H' e f' r' => h u F' H' e r'
      · rw [if_neg hb] at hrun
        rw [← hrun] at hne
        exact (hne rfl).elim
    | ex c vs s' =>
      rw [q] at hrun
      have hrun : R.ex c vs = g ds := hrun
      rw [← hrun] at h
      exact fun cls dx F' H' σ' S' f' l' x => h cls dx F' H' S'.ext x
    | rm d s' => rw [q] at hrun; exact (hne hrun.symm).elim
    | rn j s' => rw [q] at hrun; exact (hne hrun.symm).elim
    | bk s' => rw [q] at hrun; exact (hne hrun.symm).elim
    | ct s' => rw [q] at hrun; exact (hne hrun.symm).elim
    | bad => rw [q] at hrun; exact (hne hrun.symm).elim
theorem kn_mk {P : Program} {w : World} {K : PySem.W.Frag} {mg : Str → Option Value} {base : Heap} {G : GE} {x : Str} {f : Addr} {fd : FuncData} {ps : List Str} {n k : Nat} {g : List D → R D} {fr : Bool} (h : FnOk P w K mg base (L2.CX P w) k f fd ps (spD G n g fr))
    (hm : mg x = some (.ref f)) (hk : PySem.W.keepIn K (.ref f) = true) (hb : Binds K fd ps []) : Kn P w K mg base G x n g fr k := ⟨⟨f, fd, ps, h, hm, hk, hb⟩⟩
end
end Z
namespace Z
noncomputable section
open PySem PySem.Spec PySem.P PyProof.Rows L2
section
variable {X : Cx} {C : CT} {W : WX} {a b c e elt tg iter : Expr} {ifs : List Expr} {es : List Expr} {fa fb fc fe f : SS → R D} {pos pos' p p2 apos py spos : Pos} {fs : SS → R (List D)} {fi : SS → R (List D)} {ft : FG} {vs : List Nat} {x y : Str}
theorem s_add (v : Pq X C W) (ha : PE X a (tB C W fa)) (hb : PE X b (tB C W fb)) : PE X (.BinOp a .Add b pos) (tD C W (eBin addD fa fb)) := s_bin addD_ne (op_addD v.K) ha hb
theorem s_sub (v : Pq X C W) (ha : PE X a (tB C W fa)) (hb : PE X b (tB C W fb)) : PE X (.BinOp a .Sub b pos) (tD C W (eBin subD fa fb)) := s_bin subD_ne op_subD ha hb
theorem s_mul (v : Pq X C W) (ha : PE X a (tB C W fa)) (hb : PE X b (tB C W fb)) : PE X (.BinOp a .Mult b pos) (tD C W (eBin mulD fa fb)) := s_bin mulD_ne (op_mulD v.K) ha hb
theorem s_fdiv (v : Pq X C W) (ha : PE X a (tB C W fa)) (hb : PE X b (tB C W fb)) : PE X (.BinOp a .FloorDiv b pos) (tD C W (eBin fdivD fa fb)) := s_bin fdivD_ne op_fdivD ha hb
theorem s_mod (v : Pq X C W) (ha : PE X a (tB C W fa)) (hb : PE X b (tB C W fb)) : PE X (.BinOp a .Mod b pos) (tD C W (eBin modD fa fb)) := s_bin modD_ne op_modD ha hb
theorem s_pow (v : Pq X C W) (ha : PE X a (tB C W fa)) (hb : PE X b (tB C W fb)) : PE X (.BinOp a .Pow b pos) (tD C W (eBin powD fa fb)) := s_bin powD_ne op_powD ha hb
theorem s_neg (v : Pq X C W) (ha : PE X a (tB C W fa)) : PE X (.UnaryOp .USub a pos) (tD C W (eUn negD fa)) := s_un negD_ne un_negD ha
theorem s_eq (v : Pq X C W) (ha : PE X a (tB C W fa)) (hb : PE X b (tB C W fb)) : PE X (.Compare a [.Eq] [b] pos) (tD C W (eBin eqD fa fb)) := s_cmp eqD_ne (op_eqDD v.K (by have := v.hu; omega)) ha hb
theorem s_ne (v : Pq X C W) (ha : PE X a (tB C W fa)) (hb : PE X b (tB C W fb)) : PE X (.Compare a [.NotEq] [b] pos) (tD C W (eBin neD fa fb)) := s_cmp neD_ne (op_neDD v.K (by have := v.hu; omega)) ha hb
theorem s_lt (v : Pq X C W) (ha : PE X a (tB C W fa)) (hb : PE X b (tB C W fb)) : PE X (.Compare a [.Lt] [b] pos) (tD C W (eBin ltD fa fb)) := s_cmp ltD_ne op_ltD ha hb
theorem s_le (v : Pq X C W) (ha : PE X a (tB C W fa)) (hb : PE X b (tB C W fb)) : PE X (.Compare a [.LtE] [b] pos) (tD C W (eBin leD fa fb)) := s_cmp leD_ne op_leD ha hb
theorem s_gt (v : Pq X C W) (ha : PE X a (tB C W fa)) (hb : PE X b (tB C W fb)) : PE X (.Compare a [.Gt] [b] pos) (tD C W (eBin gtD fa fb)) := s_cmp gtD_ne op_gtD ha hb
theorem s_ge (v : Pq X C W) (ha : PE X a (tB C W fa)) (hb : PE X b (tB C W fb)) : PE X (.Compare a [.GtE] [b] pos) (tD C W (eBin geD fa fb)) := s_cmp geD_ne op_geD ha hb
theorem s_is (v : Pq X C W) (ha : PE X a (tB C W fa)) (hb : PE X b (tB C W fb)) : PE X (.Compare a [.Is] [b] pos) (tD C W (eBin (isN false) fa fb)) := s_cmp isN_ne op_isND ha hb
theorem s_isn (v : Pq X C W) (ha : PE X a (tB C W fa)) (hb : PE X b (tB C W fb)) : PE X (.Compare a [.IsNot] [b] pos) (tD C W (eBin (isN true) fa fb)) := s_cmp isN_ne op_notND ha hb
theorem s_in (v : Pq X C W) (ha : PE X a (tB C W fa)) (hb : PE X b (tB C W fb)) (hm : behindInMarks .In b = false := by with_unfolding_all rfl) : PE X (.Compare a [.In] [b] pos) (tD C W (eBin (inD false) fa fb)) := s_cmp inD_ne (op_inDD v.K v.hu) ha hb hm
theorem s_nin (v : Pq X C W) (ha : PE X a (tB C W fa)) (hb : PE X b (tB C W fb)) (hm : behindInMarks .NotIn b = false := by with_unfolding_all rfl) : PE X (.Compare a [.NotIn] [b] pos) (tD C W (eBin (inD true) fa fb)) := s_cmp inD_ne (op_notInDD v.K v.hu) ha hb hm
theorem t_eq (v : Pq X C W) (ha : PE X a (tB C W fa)) (hb : PE X b (tB C W fb)) : PT X (.Compare a [.Eq] [b] pos) (tT C W (eBin eqD fa fb)) := s_tcmp eqD_ne (op_eqDD v.K (by have := v.hu; omega)) ha hb
theorem t_ne (v : Pq X C W) (ha : PE X a (tB C W fa)) (hb : PE X b (tB C W fb)) : PT X (.Compare a [.NotEq] [b] pos) (tT C W (eBin neD fa fb)) := s_tcmp neD_ne (op_neDD v.K (by have := v.hu; omega)) ha hb
theorem t_lt (v : Pq X C W) (ha : PE X a (tB C W fa)) (hb : PE X b (tB C W fb)) : PT X (.Compare a [.Lt] [b] pos) (tT C W (eBin ltD fa fb)) := s_tcmp ltD_ne op_ltD ha hb
theorem t_le (v : Pq X C W) (ha : PE X a (tB C W fa)) (hb : PE X b (tB C W fb)) : PT X (.Compare a [.LtE] [b] pos) (tT C W (eBin leD fa fb)) := s_tcmp leD_ne op_leD ha hb
theorem t_gt (v : Pq X C W) (ha : PE X a (tB C W fa)) (hb : PE X b (tB C W fb)) : PT X (.Compare a [.Gt] [b] pos) (tT C W (eBin gtD fa fb)) := s_tcmp gtD_ne op_gtD ha hb
theorem t_ge (v : Pq X C W) (ha : PE X a (tB C W fa)) (hb : PE X b (tB C W fb)) : PT X (.Compare a [.GtE] [b] pos) (tT C W (eBin geD fa fb)) := s_tcmp geD_ne op_geD ha hb
theorem t_is (v : Pq X C W) (ha : PE X a (tB C W fa)) (hb : PE X b (tB C W fb)) : PT X (.Compare a [.Is] [b] pos) (tT C W (eBin (isN false) fa fb)) := s_tcmp isN_ne op_isND ha hb
theorem t_isn (v : Pq X C W) (ha : PE X a (tB C W fa)) (hb : PE X b (tB C W fb)) : PT X (.Compare a [.IsNot] [b] pos) (tT C W (eBin (isN true) fa fb)) := s_tcmp isN_ne op_notND ha hb
theorem t_in (v : Pq X C W) (ha : PE X a (tB C W fa)) (hb : PE X b (tB C W fb)) (hm : behindInMarks .In b = false := by with_unfolding_all rfl) : PT X (.Compare a [.In] [b] pos) (tT C W (eBin (inD false) fa fb)) := s_tcmp inD_ne (op_inDD v.K v.hu) ha hb hm
theorem t_nin (v : Pq X C W) (ha : PE X a (tB C W fa)) (hb : PE X b (tB C W fb)) (hm : behindInMarks .NotIn b = false := by with_unfolding_all rfl) : PT X (.Compare a [.NotIn] [b] pos) (tT C W (eBin (inD true) fa fb)) := s_tcmp inD_ne (op_notInDD v.K v.hu) ha hb hm
/-- y = [..], shared -/
theorem s_setcS (v : Pl X C W) (i : Nat) {scope : Scope} {own : List (Str × Nat)} (hN : X.N.Nodup) (hi : PI X tg iter (tI C W fi)) (hv : own.map (·.2) = vs)
    (hg : ∀ (s : Shared) (H : Hp) (Ca : Addr) (cl : List (Str × Addr)) (fp : List Addr), Pl (X.blk s H scope (compEnvC scope cl Ca X.env) fp) C WNo → PG (X.blk s H scope (compEnvC scope cl Ca X.env) fp) tg (tG C ft vs))
    (ht : ∀ (s : Shared) (H : Hp) (Ca : Addr) (cl : List (Str × Addr)) (fp : List Addr), Pl (X.blk s H scope (compEnvC scope cl Ca X.env) fp) C WNo → PTs (X.blk s H scope (compEnvC scope cl Ca X.env) fp) ifs (tT C WNo fc))
    (he : ∀ (s : Shared) (H : Hp) (Ca : Addr) (cl : List (Str × Addr)) (fp : List Addr), Pl (X.blk s H scope (compEnvC scope cl Ca X.env) fp) C WNo → PE (X.blk s H scope (compEnvC scope cl Ca X.env) fp) elt (tD C WNo fe))
    (hy : X.N[i]? = some y := by rfl) (hyl : X.env.scope.names.lookup y = some .local := by rfl)
    (hsw : swapsWith (.ListComp elt [⟨tg, iter, ifs, 0⟩] scope pos) (some (.Name y py)) spos.line X.env = pure true := by exact sw_true rfl rfl rfl (by decide +kernel))
    (ok : BlkOk X.N X.env.scope scope own := by exact blkOk_by (by decide +kernel))
    (hs : ∀ x, foldedSetIterable iter X.env x = pure x := by intro _; rfl) : PS X (.Assign [.Name y py] (.ListComp elt [⟨tg, iter, ifs, 0⟩] scope pos) spos) (tS C W (sSet i (eComp fi ft vs fc fe))) := by
  subst hv
  refine ps_imp (ps_setLc v.calm hN hy hyl hsw hi ok (fun s H Ca cl fp => hg s H Ca cl fp (v.blk ..)) (fun s H Ca cl fp => ht s H Ca cl fp (v.blk ..)) (fun s H Ca cl fp => he s H Ca cl fp (v.blk ..)) hs) fun En σ H ⟨F, sd, S, h⟩ => ?_
  have hsub : sSet i (eComp fi ft (own.map (·.2)) fc fe) sd = sE (eComp fi ft (own.map (·.2)) fc fe) (fun d s => if isDic d = true then .bad else optS (setS s i (.sh d))) sd := by
    unfold sSet sE
    cases q : eComp fi ft (own.map (·.2)) fc fe sd with
    | ok d =>
      have hd : isDic d = false := by
        unfold eComp at q
        cases q1 : fi sd with
        | ok ds =>
          rw [q1] at q
          have q : (match mapD (cStep ft (own.map (·.2)) fc fe sd) ds with
            | .ok xs => if xs.length ≤ SZ then R.ok (D.lst xs) else .bad
            | _ => .bad) = .ok d := q
          split at q
          · split at q
            · cases q; rfl
            · cases q
          · cases q
        | ex c vs => rw [q1] at q; cases q
        | bad => rw [q1] at q; cases q
      dsimp only
      rw [if_neg (by rw [hd]; exact Bool.false_ne_true)]
    | ex c vs => rfl
    | bad => rfl
  rw [hsub] at h
  refine comp_read (W := W) ⟨F, sd, S, postS_E S h fun d u F1 H1 e1 r h1 => ?_⟩
  have hd : isDic d = false := by
    cases z : isDic d with
    | false => rfl
    | true => rw [if_pos z] at h1; exact h1.elim
  rw [if_neg (by rw [hd]; exact Bool.false_ne_true)] at h1
  obtain ⟨q, rfl, hn, hf, ow⟩ := r
  obtain ⟨o, ho⟩ := ow.there
  have s1 : Same F1 (upd F1 q o) := same_new hf
  have s2 : Same (upd F1 q o) H1 := fun b u z => by
    by_cases hb : b = q
    · subst hb; rw [upd_same] at z; cases z; exact ho
    · rw [upd_ne hb] at z; exact e1.fh _ _ z
  have e2 : Ext F H (upd F1 q o) H1 := ⟨e1.ff.trans s1, e1.hh, s2, fun b u h1 h2 => by
    have hb : b ≠ q := fun z => by subst z; rw [hn] at h1; cases h1
    rw [upd_ne hb]
    exact e1.ow b u h1 h2⟩
  have rr : Rep C.G (upd F1 q o) d (.ref q) := ow.rep1 hd s1 fun u z => by rw [ho] at z; cases z; exact upd_same
  cases k : setS sd i (.sh d) with
  | none => rw [k] at h1; exact h1.elim
  | some s' =>
    rw [k] at h1
    exact h1 _ H1 _ ((S.mono e2).setSh k rr) e2.ff (lk_set k)
/-- name op= e -/
def sAug (i : Nat) (g : D → D → R D) (fe : SS → R D) : SS → RS := sE (eBin g (eR i) fe) fun d s => optS (setS s i (.sh d))
end

/-! ### a law's end -/
def fuelP : {n : Nat // n = 1000000000} := Classical.choice ⟨⟨_, rfl⟩⟩
def fuel : Nat := fuelP.1
theorem fuel_is : fuel = 1000000000 := fuelP.2
theorem law_sp {K : PySem.W.Frag} {G : GE} (hK : K = G.K) {n : Nat} {g : List D → R D} (hg : ∀ ns : List Int, ns.length ≤ n → g [.lst (ns.map .int)] = .ok (.bl true)) (H : Hp) (a : Addr) (ns : List Int) (hl : ns.length ≤ n) (hS : SqL K H a (ns.map V.int)) :
    spD G 1 g false [.ref a] H (fun v _ => v = .bl true) (fun _ _ _ => False) := by
  subst hK
  have hr : ∀ ns : List Int, RepL G H (ns.map D.int) (ns.map V.int) := fun ns => by
    induction ns with
    | nil => exact RepL.nil
    | cons i r ih => exact RepL.cons (rep_int.mpr rfl) ih
  refine ⟨H, [.lst (ns.map .int)], Same.refl H, rfl, RepL.cons (rep_lst.mpr ⟨a, _, rfl, hS, hr ns⟩) RepL.nil, ?_⟩
  rw [hg ns hl]
  unfold PostC
  dsimp only
  rw [if_neg Bool.false_ne_true]
  exact fun v F' H' e r => rep_bl.mp r
theorem law_cx {P : Program} {w : World} {H : Hp} {s s' : Shared} {e : Value} (h : L2.CX P w [] H s (fun _ _ _ => False) e s') : False := by
  obtain ⟨_, _, _, _, _, _, _, _, _, _, _, _, z⟩ := h
  exact z
end
end Z
namespace Z
noncomputable section
open PySem PySem.Spec PySem.P PyProof.Rows L2
/-! ### how a meaning runs: equations for the plain side -/
section
variable {f g : SS → RS} {fa fb fc fe : SS → R D} {fs : SS → R (List D)} {s s' : SS} {d x y : D} {A B : Type}
@[simp] theorem R.bind_ok (a : A) (k : A → R B) : (R.ok a).bind k = k a := rfl
@[simp] theorem R.bind_bad (k : A → R B) : (R.bad).bind k = .bad := rfl
@[simp] theorem R.bind_ex (k : A → R B) (c : Nat) (vs : List D) : (R.ex c vs).bind k = .ex c vs := rfl
@[simp] theorem R.bind_ite (p : Prop) [Decidable p] (a b : R A) (k : A → R B) : (if p then a else b).bind k = if p then a.bind k else b.bind k := by split <;> rfl
@[simp] theorem eC_s : eC d s = .ok d := rfl
@[simp] theorem eBin_s (h : D → D → R D) : eBin h fa fb s = (fa s).bind fun x => (fb s).bind fun y => h x y := rfl
@[simp] theorem eUn_s (h : D → R D) : eUn h fa s = (fa s).bind h := rfl
@[simp] theorem eCall_s (h : List D → R D) : eCall h fs s = (fs s).bind h := rfl
@[simp] theorem aNil_s : aNil s = .ok [] := rfl
@[simp] theorem aCons_s : aCons fa fs s = (fa s).bind fun x => (fs s).bind fun xs => .ok (x :: xs) := rfl
def gV : Option Sl → R D
  | some (.sh d) => .ok d
  | _ => .bad
def gR : Option Sl → R D
  | some (.sh d) => .ok d
  | some (.ow d) => .ok d
  | some (.lk d) => .ok d
  | _ => .bad
@[simp] theorem eV_s (i : Nat) : eV i s = gV s[i]? := rfl
@[simp] theorem eR_s (i : Nat) : eR i s = gR s[i]? := rfl
@[simp] theorem gV_sh : gV (some (.sh d)) = .ok d := rfl
@[simp] theorem gR_sh : gR (some (.sh d)) = .ok d := rfl
@[simp] theorem gR_ow : gR (some (.ow d)) = .ok d := rfl
@[simp] theorem gR_lk : gR (some (.lk d)) = .ok d := rfl
def rE (s : SS) (r : R D) (k : D → SS → RS) : RS := match r with
  | .ok d => k d s
  | .ex c vs => .ex c vs s
  | .bad => .bad
@[simp] theorem rE_ok (k : D → SS → RS) : rE s (.ok d) k = k d s := rfl
@[simp] theorem rE_ex (k : D → SS → RS) (c : Nat) (vs : List D) : rE s (.ex c vs) k = .ex c vs s := rfl
@[simp] theorem rE_ite (p : Prop) [Decidable p] (a b : R D) (k : D → SS → RS) : rE s (if p then a else b) k = if p then rE s a k else rE s b k := by split <;> rfl
theorem sE_s (k : D → SS → RS) : sE fe k s = rE s (fe s) k := rfl
/-- a write into a list of slots -/
def canS : Option Sl → Bool
  | some (.lk _) => false
  | some (.nt true _) => false
  | some _ => true
  | none => false
theorem setS_s (i : Nat) (z : Sl) : setS s i z = if canS s[i]? = true then some (s.set i z) else none := by
  unfold setS canS
  split <;> simp_all
@[simp] theorem canS_sh : canS (some (.sh d)) = true := rfl
@[simp] theorem canS_ow : canS (some (.ow d)) = true := rfl
@[simp] theorem canS_no : canS (some .no) = true := rfl
@[simp] theorem optS_some : optS (some s) = .nx s := rfl
@[simp] theorem sSet_s (i : Nat) : sSet i fe s = rE s (fe s) fun d s => optS (if canS s[i]? = true then some (s.set i (.sh d)) else none) := by
  unfold sSet
  rw [sE_s]
  congr 1
  funext d s
  rw [setS_s]
@[simp] theorem sSetO_s (i : Nat) : sSetO i fe s = rE s (fe s) fun d s => optS (if canS s[i]? = true then some (s.set i (.ow d)) else none) := by
  unfold sSetO
  rw [sE_s]
  congr 1
  funext d s
  rw [setS_s]
@[simp] theorem sX_s : sX fe s = rE s (fe s) fun _ s => .nx s := rfl
@[simp] theorem sRet_s : sRet fe s = rE s (fe s) fun d _ => .rt false d := rfl
@[simp] theorem sRetF_s : sRetF fe s = rE s (fe s) fun d _ => .rt true d := rfl
@[simp] theorem sRetN_s : sRetN s = .rt false .non := rfl
@[simp] theorem sNx_s : sNx s = .nx s := rfl
@[simp] theorem sBk_s : sBk s = .bk s := rfl
@[simp] theorem sCt_s : sCt s = .ct s := rfl
def bnd (r : RS) (g : SS → RS) : RS := match r with
  | .nx s' => g s'
  | r => r
@[simp] theorem sSeq_s : sSeq f g s = bnd (f s) g := rfl
@[simp] theorem bnd_nx : bnd (.nx s) g = g s := rfl
@[simp] theorem bnd_rt (b : Bool) : bnd (.rt b d) g = .rt b d := rfl
@[simp] theorem bnd_bk : bnd (.bk s) g = .bk s := rfl
@[simp] theorem bnd_ct : bnd (.ct s) g = .ct s := rfl
@[simp] theorem bnd_ex (c : Nat) (vs : List D) : bnd (.ex c vs s) g = .ex c vs s := rfl
@[simp] theorem bnd_ite (p : Prop) [Decidable p] (a b : RS) : bnd (if p then a else b) g = if p then bnd a g else bnd b g := by split <;> rfl
def brS (s : SS) (r : R D) (a b : RS) : RS := match r with
  | .ok (.bl true) => a
  | .ok (.bl false) => b
  | .ex c vs => .ex c vs s
  | _ => .bad
@[simp] theorem sIf_s : sIf fc f g s = brS s (fc s) (f s) (g s) := by
  unfold sIf
  rw [sE_s]
  cases fc s with
  | ok d => cases d with
    | bl b => cases b <;> rfl
    | _ => rfl
  | _ => rfl
@[simp] theorem brS_bl (b : Bool) (p q : RS) : brS s (.ok (.bl b)) p q = if b = true then p else q := by cases b <;> rfl
@[simp] theorem brS_ex (c : Nat) (vs : List D) (p q : RS) : brS s (.ex c vs) p q = .ex c vs s := rfl
@[simp] theorem brS_ite (c : Prop) [Decidable c] (a b : R D) (p q : RS) : brS s (if c then a else b) p q = if c then brS s a p q else brS s b p q := by split <;> rfl
def andR (r : R D) (q : R D) : R D := match r with
  | .ok (.bl true) => q
  | .ok (.bl false) => .ok (.bl false)
  | .ex c vs => .ex c vs
  | _ => .bad
def orR (r : R D) (q : R D) : R D := match r with
  | .ok (.bl true) => .ok (.bl true)
  | .ok (.bl false) => q
  | .ex c vs => .ex c vs
  | _ => .bad
def notR (r : R D) : R D := match r with
  | .ok (.bl b) => .ok (.bl (!b))
  | .ex c vs => .ex c vs
  | _ => .bad
def ifR (r a b : R D) : R D := match r with
  | .ok (.bl true) => a
  | .ok (.bl false) => b
  | .ex c vs => .ex c vs
  | _ => .bad
@[simp] theorem eAnd_s : eAnd fa fb s = andR (fa s) (fb s) := by
  unfold eAnd
  cases fa s with
  | ok d => cases d with
    | bl b => cases b <;> rfl
    | _ => rfl
  | _ => rfl
@[simp] theorem eOr_s : eOr fa fb s = orR (fa s) (fb s) := by
  unfold eOr
  cases fa s with
  | ok d => cases d with
    | bl b => cases b <;> rfl
    | _ => rfl
  | _ => rfl
@[simp] theorem eNot_s : eNot fa s = notR (fa s) := by
  unfold eNot
  cases fa s with
  | ok d => cases d <;> rfl
  | _ => rfl
@[simp] theorem eIf_s : eIf fc fa fb s = ifR (fc s) (fa s) (fb s) := by
  unfold eIf
  cases fc s with
  | ok d => cases d with
    | bl b => cases b <;> rfl
    | _ => rfl
  | _ => rfl
@[simp] theorem andR_bl (b c : Bool) : andR (.ok (.bl b)) (.ok (.bl c)) = .ok (.bl (b && c)) := by cases b <;> rfl
@[simp] theorem andR_tt (q : R D) : andR (.ok (.bl true)) q = q := rfl
@[simp] theorem andR_ff (q : R D) : andR (.ok (.bl false)) q = .ok (.bl false) := rfl
theorem andR_if (b : Bool) (q : R D) : andR (.ok (.bl b)) q = if b = true then q else .ok (.bl false) := by cases b <;> rfl
@[simp] theorem orR_bl (b c : Bool) : orR (.ok (.bl b)) (.ok (.bl c)) = .ok (.bl (b || c)) := by cases b <;> rfl
@[simp] theorem orR_tt (q : R D) : orR (.ok (.bl true)) q = .ok (.bl true) := rfl
@[simp] theorem orR_ff (q : R D) : orR (.ok (.bl false)) q = q := rfl
theorem orR_if (b : Bool) (q : R D) : orR (.ok (.bl b)) q = if b = true then .ok (.bl true) else q := by cases b <;> rfl
@[simp] theorem notR_bl (b : Bool) : notR (.ok (.bl b)) = .ok (.bl (!b)) := rfl
@[simp] theorem ifR_bl (b : Bool) (p q : R D) : ifR (.ok (.bl b)) p q = if b = true then p else q := by cases b <;> rfl
/-- a body's end -/
def fin (fr : Bool) (r : RS) : R D := match r with
  | .nx _ => if fr = true then .bad else .ok .non
  | .rt b d => if b = fr then .ok d else .bad
  | .ex c vs _ => .ex c vs
  | _ => .bad
theorem runB_s (fr : Bool) (m : Nat) (ds : List D) : runB fr m f ds = fin fr (f (ds.map Sl.sh ++ List.replicate (m - ds.length) .no)) := rfl
@[simp] theorem fin_rt (fr : Bool) : fin fr (.rt fr d) = .ok d := by unfold fin; simp
@[simp] theorem fin_nx : fin false (.nx s) = .ok .non := rfl
@[simp] theorem fin_ex (fr : Bool) (c : Nat) (vs : List D) : fin fr (.ex c vs s) = .ex c vs := rfl
@[simp] theorem fin_ite (fr : Bool) (p : Prop) [Decidable p] (a b : RS) : fin fr (if p then a else b) = if p then fin fr a else fin fr b := by split <;> rfl
/-! data -/
@[simp] theorem addD_i (i j : Int) : addD (.int i) (.int j) = .ok (.int (i + j)) := rfl
theorem addD_s (a b : List Nat) : addD (.str a) (.str b) = if a.length + b.length ≤ SZ then .ok (.str (a ++ b)) else .bad := rfl
theorem addD_l (a b : List D) : addD (.lst a) (.lst b) = if a.length + b.length ≤ SZ then .ok (.lst (a ++ b)) else .bad := rfl
@[simp] theorem subD_i (i j : Int) : subD (.int i) (.int j) = .ok (.int (i - j)) := rfl
theorem mulD_i (i j : Int) : mulD (.int i) (.int j) = if i.natAbs < 18446744073709551616 ∨ j.natAbs < 18446744073709551616 ∨ i.natAbs.log2 + j.natAbs.log2 < 1000000 then .ok (.int (i * j)) else .bad := by
  unfold mulD
  dsimp only
  congr
theorem mulD_s (x : List Nat) (j : Int) : mulD (.str x) (.int j) = if j < 9223372036854775808 ∧ -9223372036854775808 ≤ j ∧ x.length * j.toNat ≤ SZ then .ok (.str (repS x j.toNat)) else .bad := by
  unfold mulD
  dsimp only
  congr
theorem mulD_l (x : List D) (j : Int) : mulD (.lst x) (.int j) = if j < 9223372036854775808 ∧ -9223372036854775808 ≤ j ∧ x.length * j.toNat ≤ SZ then .ok (.lst (List.replicate j.toNat x).flatten) else .bad := by
  unfold mulD
  dsimp only
  congr
theorem fdivD_i (i j : Int) (h : 0 < j) (h2 : j.natAbs.log2 < 9000) : fdivD (.int i) (.int j) = .ok (.int (i / j)) := by unfold fdivD; simp [h, h2]
theorem modD_i (i j : Int) (h : 0 < j) : modD (.int i) (.int j) = .ok (.int (i % j)) := by unfold modD; simp [h]
theorem powD_i (i j : Int) (h : 0 ≤ j) (h1 : j ≤ 1000000) (h2 : i.natAbs < 18446744073709551616) : powD (.int i) (.int j) = .ok (.int (i ^ j.toNat)) := by unfold powD; simp [h, h1, h2]
@[simp] theorem ltD_i (i j : Int) : ltD (.int i) (.int j) = .ok (.bl (decide (i < j))) := rfl
@[simp] theorem leD_i (i j : Int) : leD (.int i) (.int j) = .ok (.bl (decide (i ≤ j))) := rfl
@[simp] theorem gtD_i (i j : Int) : gtD (.int i) (.int j) = .ok (.bl (decide (j < i))) := rfl
@[simp] theorem geD_i (i j : Int) : geD (.int i) (.int j) = .ok (.bl (decide (j ≤ i))) := rfl
@[simp] theorem ltD_s (i j : List Nat) : ltD (.str i) (.str j) = .ok (.bl (ltS i j)) := rfl
@[simp] theorem leD_s (i j : List Nat) : leD (.str i) (.str j) = .ok (.bl (!ltS j i)) := rfl
@[simp] theorem gtD_s (i j : List Nat) : gtD (.str i) (.str j) = .ok (.bl (ltS j i)) := rfl
@[simp] theorem geD_s (i j : List Nat) : geD (.str i) (.str j) = .ok (.bl (!ltS i j)) := rfl
@[simp] theorem eqD_i (i j : Int) : eqD (.int i) (.int j) = .ok (.bl (i == j)) := rfl
@[simp] theorem neD_i (i j : Int) : neD (.int i) (.int j) = .ok (.bl (!(i == j))) := rfl
@[simp] theorem eqD_s (i j : List Nat) : eqD (.str i) (.str j) = .ok (.bl (i == j)) := rfl
@[simp] theorem neD_s (i j : List Nat) : neD (.str i) (.str j) = .ok (.bl (!(i == j))) := rfl
@[simp] theorem lenD_s (x : List Nat) : lenD [.str x] = if x.length ≤ SZ then .ok (.int x.length) else .bad := rfl
@[simp] theorem lenD_l (x : List D) : lenD [.lst x] = .ok (.int x.length) := rfl
@[simp] theorem lenD_t (x : List D) : lenD [.tup x] = .ok (.int x.length) := rfl
@[simp] theorem max2D_i (i j : Int) : max2D [.int i, .int j] = .ok (.int (max i j)) := by
  show R.ok (D.int (if j > i then j else i)) = _
  congr 2
  split <;> omega
@[simp] theorem min2D_i (i j : Int) : min2D [.int i, .int j] = .ok (.int (min i j)) := by
  show R.ok (D.int (if j < i then j else i)) = _
  congr 2
  split <;> omega
@[simp] theorem intsD_map (ns : List Int) : intsD (ns.map .int) = some ns := by
  induction ns with
  | nil => rfl
  | cons a r ih => simp [intsD, ih]
@[simp] theorem strsD_map (ns : List (List Nat)) : strsD (ns.map .str) = some ns := by
  induction ns with
  | nil => rfl
  | cons a r ih => simp [strsD, ih]
@[simp] theorem blsD_map (ns : List Bool) : blsD (ns.map .bl) = some ns := by
  induction ns with
  | nil => rfl
  | cons a r ih => simp [blsD, ih]
@[simp] theorem sumD_m (ns : List Int) : sumD [.lst (ns.map .int)] = .ok (.int ns.sum) := by simp [sumD]
@[simp] theorem allD_m (ns : List Bool) : allD [.lst (ns.map .bl)] = .ok (.bl (ns.all id)) := by simp [allD]
theorem atI_nat {α : Type} (xs : List α) (n : Nat) : atI xs (n : Int) = xs[n]? := by
  unfold atI ixN
  by_cases h : n < xs.length
  · have : (n : Int) < xs.length := by omega
    simp [this]
  · have h2 : ¬ ((n : Int) < xs.length) := by omega
    simp [h2]
    omega
theorem atI_int {α : Type} (xs : List α) (i : Int) (h : 0 ≤ i) : atI xs i = xs[i.toNat]? := by
  have := atI_nat xs i.toNat
  rwa [show ((i.toNat : Nat) : Int) = i by omega] at this
theorem ixD_l (xs : List D) (i : Int) (h : 0 ≤ i) (x : D) (hx : xs[i.toNat]? = some x) : ixD (.lst xs) (.int i) = .ok x := by
  unfold ixD
  simp [atI_int xs i h, hx]
theorem ixD_t (xs : List D) (i : Int) (h : 0 ≤ i) (x : D) (hx : xs[i.toNat]? = some x) : ixD (.tup xs) (.int i) = .ok x := by
  unfold ixD
  simp [atI_int xs i h, hx]
theorem ixD_s (xs : List Nat) (i : Int) (h : 0 ≤ i) (x : Nat) (hl : xs.length ≤ SZ) (hx : xs[i.toNat]? = some x) : ixD (.str xs) (.int i) = .ok (.str [x]) := by
  unfold ixD
  simp [atI_int xs i h, hx, hl]
theorem slD_s (x : List Nat) (lo hi : Option Int) (h : x.length ≤ SZ) : slD (.str x) lo hi = .ok (.str (cutL x lo hi)) := by unfold slD; simp [h]
@[simp] theorem slD_l (x : List D) (lo hi : Option Int) : slD (.lst x) lo hi = .ok (.lst (cutL x lo hi)) := rfl
theorem cutL_to {α : Type} (x : List α) (n : Int) (h : 0 ≤ n) : cutL x none (some n) = x.take n.toNat := by
  unfold cutL HT.sIx
  have : ¬ n < 0 := by omega
  simp [this]
theorem cutL_from {α : Type} (x : List α) (n : Int) (h : 0 ≤ n) : cutL x (some n) none = x.drop n.toNat := by
  unfold cutL HT.sIx
  have : ¬ n < 0 := by omega
  simp [this]
  apply List.ext_getElem? 
  intro i
  simp [List.getElem?_take]
  split
  · congr 1; omega
  · symm; simp; omega
theorem cutL_at {α : Type} (x : List α) (a b : Int) (h : 0 ≤ a) (h2 : a ≤ b) : cutL x (some a) (some b) = (x.drop a.toNat).take (b.toNat - a.toNat) := by
  unfold cutL HT.sIx
  have h1 : ¬ a < 0 := by omega
  have h3 : ¬ b < 0 := by omega
  simp [h1, h3]
  apply List.ext_getElem? 
  intro i
  simp [List.getElem?_take]
  split <;> split
  · congr 1; omega
  · symm; simp; omega
  · symm; simp; omega
  · rfl
/-! loops -/
@[simp] theorem eSl_s (fl fh : SS → R (Option Int)) : eSl fa fl fh s = (fa s).bind fun x => (fl s).bind fun l => (fh s).bind fun h => slD x l h := rfl
def oR (r : R D) : R (Option Int) := r.bind fun x => match x with
  | .int i => .ok (some i)
  | _ => .bad
@[simp] theorem oSo_s : oSo fe s = oR (fe s) := rfl
@[simp] theorem oNo_s : oNo s = .ok none := rfl
@[simp] theorem oR_i (i : Int) : oR (.ok (.int i)) = .ok (some i) := rfl
@[simp] theorem eLst_s : eLst fs s = (fs s).bind fun xs => if xs.length ≤ SZ then .ok (.lst xs) else .bad := rfl
@[simp] theorem eTup_s : eTup fs s = (fs s).bind fun xs => if xs.length ≤ SZ then .ok (.tup xs) else .bad := rfl
@[simp] theorem iRg1_s : iRg1 fs s = (fs s).bind rng1 := rfl
@[simp] theorem iRg2_s : iRg2 fs s = (fs s).bind rng2 := rfl
@[simp] theorem iRg3_s : iRg3 fs s = (fs s).bind rng3 := rfl
@[simp] theorem iE_s : iE fe s = (fe s).bind itD := rfl
@[simp] theorem itD_l (xs : List D) : itD (.lst xs) = .ok xs := rfl
@[simp] theorem itD_t (xs : List D) : itD (.tup xs) = .ok xs := rfl
theorem rng1_i (j : Int) (h : fit62 j) : rng1 [.int j] = .ok (rangeD 0 j) := by unfold rng1; simp [h]
theorem rng2_i (i j : Int) (h : fit62 i) (h2 : fit62 j) : rng2 [.int i, .int j] = .ok (rangeD i j) := by unfold rng2; simp [h, h2]
def rFor (ft : FG) (f : SS → RS) (s : SS) (r : R (List D)) : RS := match r with
  | .ok ds => forL (turn ft f) ds s
  | .ex c vs => .ex c vs s
  | .bad => .bad
@[simp] theorem sFor_s (fi : SS → R (List D)) (ft : FG) : sFor fi ft f s = rFor ft f s (fi s) := rfl
@[simp] theorem rFor_ok (ft : FG) (ds : List D) : rFor ft f s (.ok ds) = forL (turn ft f) ds s := rfl
@[simp] theorem sWh_s (n : Nat) : sWh n fc f s = whL fc f n s := rfl
/-- THE RULE for `for` -/
theorem forL_ind {step : D → SS → RS} (P : Nat → SS → Prop) (Q : RS → Prop) : ∀ (ds : List D) (s : SS), P 0 s →
    (∀ i d s, ds[i]? = some d → P i s → match step d s with | .nx s' => P (i + 1) s' | .ct s' => P (i + 1) s' | .bk s' => Q (.nx s') | .rt b d => Q (.rt b d) | .ex c vs s' => Q (.ex c vs s') | .rm d s' => Q (.rm d s') | .rn j s' => Q (.rn j s') | .bad => False) →
    (∀ s, P ds.length s → Q (.nx s)) → Q (forL step ds s)
  | [], s, h0, _, he => he s h0
  | d :: ds, s, h0, hs, he => by
    have h1 := hs 0 d s rfl h0
    have ih := fun s' (h : P 1 s') => forL_ind (step := step) (fun i => P (i + 1)) Q ds s' h (fun i d s h => hs (i + 1) d s (by simpa using h)) he
    unfold forL
    cases q : step d s with
    | nx s' => rw [q] at h1; exact ih s' h1
    | ct s' => rw [q] at h1; exact ih s' h1
    | bk s' => rw [q] at h1; exact h1
    | rt b d => rw [q] at h1; exact h1
    | ex c vs s' => rw [q] at h1; exact h1
    | rm d s' => rw [q] at h1; exact h1
    | rn j s' => rw [q] at h1; exact h1
    | bad => rw [q] at h1; exact h1.elim
/-- a loop that only goes on -/
theorem forL_nx {step : D → SS → RS} (P : Nat → SS → Prop) (ds : List D) (s : SS) (h0 : P 0 s) (hs : ∀ i d s, ds[i]? = some d → P i s → ∃ s', step d s = .nx s' ∧ P (i + 1) s') : ∃ s', forL step ds s = .nx s' ∧ P ds.length s' := by
  apply forL_ind P (fun r => ∃ s', r = .nx s' ∧ P ds.length s') ds s h0
  · intro i d s h p
    obtain ⟨s', q, h'⟩ := hs i d s h p
    rw [q]
    exact h'
  · intro s h
    exact ⟨s, rfl, h⟩
theorem rangeD_get {i j : Int} {k : Nat} {d : D} (h : (rangeD i j)[k]? = some d) : d = .int (i + k) ∧ (k : Int) < j - i := by
  unfold rangeD at h
  rw [List.getElem?_map] at h
  by_cases hk : k < (j - i).toNat
  · rw [List.getElem?_range hk] at h
    simp at h
    exact ⟨h.symm, by omega⟩
  · rw [List.getElem?_eq_none (by simpa using hk)] at h
    cases h
@[simp] theorem rangeD_len (i j : Int) : (rangeD i j).length = (j - i).toNat := by simp [rangeD]
/-- for k in range -/
theorem forR_nx {step : D → SS → RS} (P : Nat → SS → Prop) (i j : Int) (s : SS) (h0 : P 0 s) (hs : ∀ (k : Nat) s, (k : Int) < j - i → P k s → ∃ s', step (.int (i + k)) s = .nx s' ∧ P (k + 1) s') : ∃ s', forL step (rangeD i j) s = .nx s' ∧ P (j - i).toNat s' := by
  have := forL_nx P (rangeD i j) s h0 fun k d s h p => by
    obtain ⟨rfl, h2⟩ := rangeD_get h
    exact hs k s h2 p
  simpa using this
/-- THE RULE for `while` -/
theorem whL_ind (P : SS → Prop) (mu : SS → Nat) (Q : RS → Prop) (hs : ∀ s, P s → match fc s with
    | .ok (.bl true) => (match f s with | .nx s' => P s' ∧ mu s' < mu s | .ct s' => P s' ∧ mu s' < mu s | .bk s' => Q (.nx s') | .rt b d => Q (.rt b d) | .ex c vs s' => Q (.ex c vs s') | .rm d s' => Q (.rm d s') | .rn j s' => Q (.rn j s') | .bad => False)
    | .ok (.bl false) => Q (.nx s)
    | .ex c vs => Q (.ex c vs s)
    | _ => False) : ∀ (n : Nat) (s : SS), P s → mu s < n → Q (whL fc f n s)
  | 0, s, _, h => absurd h (Nat.not_lt_zero _)
  | n + 1, s, h, hm => by
    have h1 := hs s h
    unfold whL
    cases q : fc s with
    | ok d =>
      rw [q] at h1
      cases d with
      | bl b =>
        cases b with
        | true =>
          dsimp only at h1 ⊢
          cases q2 : f s with
          | nx s' => rw [q2] at h1; exact whL_ind P mu Q hs n s' h1.1 (by have := h1.2; omega)
          | ct s' => rw [q2] at h1; exact whL_ind P mu Q hs n s' h1.1 (by have := h1.2; omega)
          | bk s' => rw [q2] at h1; exact h1
          | rt b d => rw [q2] at h1; exact h1
          | ex c vs s' => rw [q2] at h1; exact h1
          | rm d s' => rw [q2] at h1; exact h1
          | rn j s' => rw [q2] at h1; exact h1
          | bad => rw [q2] at h1; exact h1.elim
        | false => exact h1
      | _ => exact h1.elim
    | ex c vs => rw [q] at h1; exact h1
    | bad => rw [q] at h1; exact h1.elim
theorem mapD_map {step : D → R (Option D)} (g : D → D) : ∀ (ds : List D), (∀ d ∈ ds, step d = .ok (some (g d))) → mapD step ds = .ok (ds.map g)
  | [], _ => rfl
  | d :: ds, h => by
    unfold mapD
    rw [h d (by simp), mapD_map g ds fun e he => h e (by simp [he])]
    rfl
theorem mapD_filter {step : D → R (Option D)} (p : D → Bool) (g : D → D) : ∀ (ds : List D), (∀ d ∈ ds, step d = .ok (if p d = true then some (g d) else none)) → mapD step ds = .ok ((ds.filter p).map g)
  | [], _ => rfl
  | d :: ds, h => by
    unfold mapD
    rw [h d (by simp), mapD_filter p g ds fun e he => h e (by simp [he])]
    by_cases q : p d = true
    · simp [q]
    · simp [q]
theorem mapD_range {step : D → R (Option D)} (g : Nat → D) (i j : Int) (h : ∀ k : Nat, (k : Int) < j - i → step (.int (i + k)) = .ok (some (g k))) : mapD step (rangeD i j) = .ok ((List.range (j - i).toNat).map g) := by
  unfold rangeD
  generalize hn : (j - i).toNat = n
  have h' : ∀ k, k < n → step (.int (i + (k : Nat))) = .ok (some (g k)) := fun k hk => h k (by omega)
  clear h hn
  have : ∀ (l : List Nat), (∀ k ∈ l, k < n) → mapD step (l.map fun k : Nat => D.int (i + (k : Nat))) = .ok (l.map g) := by
    intro l
    induction l with
    | nil => intro; rfl
    | cons k l ih =>
      intro hl
      simp only [List.map_cons]
      unfold mapD
      rw [h' k (hl k (by simp)), ih fun e he => hl e (by simp [he])]
  exact this _ fun k hk => by simpa using hk
/-- comprehension over the items of a mapped list -/
theorem mapD_mapped {α : Type} {step : D → R (Option D)} (c : α → D) (g : α → D) (l : List α) (h : ∀ a ∈ l, step (c a) = .ok (some (g a))) : mapD step (l.map c) = .ok (l.map g) := by
  induction l with
  | nil => rfl
  | cons k l ih =>
    simp only [List.map_cons]
    unfold mapD
    rw [h k (by simp), ih fun e he => h e (by simp [he])]
/-- comprehensions -/
def rComp (r : R (List D)) : R D := match r with
  | .ok xs => if xs.length ≤ SZ then .ok (.lst xs) else .bad
  | _ => .bad
@[simp] theorem eComp_s (fi : SS → R (List D)) (ft : FG) (vs : List Nat) : eComp fi ft vs fc fe s = (fi s).bind fun ds => rComp (mapD (cStep ft vs fc fe s) ds) := rfl
@[simp] theorem rComp_ok (xs : List D) : rComp (.ok xs) = if xs.length ≤ SZ then .ok (.lst xs) else .bad := rfl
theorem rComp_of {r : R (List D)} {xs : List D} (h : r = .ok xs) (hl : xs.length ≤ 16777216) : rComp r = .ok (.lst xs) := by
  subst h
  exact if_pos (le_sz hl)
theorem comp_range {step : D → R (Option D)} (g : Nat → D) (i j : Int) (n : Nat) (hn : (j - i).toNat = n) (hl : n ≤ 16777216) (h : ∀ k : Nat, (k : Int) < j - i → step (.int (i + k)) = .ok (some (g k))) : rComp (mapD step (rangeD i j)) = .ok (.lst ((List.range n).map g)) := by
  subst hn
  exact rComp_of (mapD_range g i j h) (by simpa using hl)
theorem comp_mapped {α : Type} {step : D → R (Option D)} (c : α → D) (g : α → D) (l : List α) (hl : l.length ≤ 16777216) (h : ∀ a ∈ l, step (c a) = .ok (some (g a))) : rComp (mapD step (l.map c)) = .ok (.lst (l.map g)) :=
  rComp_of (mapD_mapped c g l h) (by simpa using hl)
theorem comp_filter {step : D → R (Option D)} (p : D → Bool) (g : D → D) (ds : List D) (hl : ds.length ≤ 16777216) (h : ∀ d ∈ ds, step d = .ok (if p d = true then some (g d) else none)) : rComp (mapD step ds) = .ok (.lst ((ds.filter p).map g)) :=
  rComp_of (mapD_filter p g ds h) (by simpa using Nat.le_trans (List.length_filter_le p ds) hl)
def rStep (c e : R D) : R (Option D) := match c with
  | .ok (.bl true) => (match e with | .ok x => .ok (some x) | _ => .bad)
  | .ok (.bl false) => .ok none
  | _ => .bad
@[simp] theorem rStep_t (x : D) : rStep (.ok (.bl true)) (.ok x) = .ok (some x) := rfl
@[simp] theorem rStep_b (b : Bool) (x : D) : rStep (.ok (.bl b)) (.ok x) = .ok (if b = true then some x else none) := by cases b <;> rfl
@[simp] theorem rStep_f (r : R D) : rStep (.ok (.bl false)) r = .ok none := rfl
def optR (o : Option SS) (k : SS → R (Option D)) : R (Option D) := match o with
  | some s' => k s'
  | none => .bad
@[simp] theorem optR_some (k : SS → R (Option D)) : optR (some s) k = k s := rfl
theorem cStep_s (ft : FG) (vs : List Nat) : cStep ft vs fc fe s d = optR (ft d (wipeS s vs)) fun s' => rStep (fc s') (fe s') := by
  unfold cStep
  cases ft d (wipeS s vs) with
  | none => rfl
  | some s' =>
    dsimp only [optR_some]
    generalize fc s' = r
    generalize fe s' = q
    cases r with
    | ok d => cases d with
      | bl b => cases b with
        | true => cases q <;> rfl
        | false => rfl
      | _ => rfl
    | _ => rfl
@[simp] theorem cYes_s : cYes s = .ok (.bl true) := rfl
@[simp] theorem wipeS_nil : wipeS s [] = s := rfl
@[simp] theorem wipeS_cons (v : Nat) (vs : List Nat) : wipeS s (v :: vs) = (wipeS s vs).set v .no := rfl
@[simp] theorem gN_s (i : Nat) : gN i d s = if canS s[i]? = true then some (s.set i (.sh d)) else none := setS_s i _
theorem turn_s (ft : FG) : turn ft f d s = match ft d s with | some s' => f s' | none => .bad := rfl
end
end
end Z
namespace Z
noncomputable section
open PySem PySem.Spec PySem.P PyProof.Rows L2
/-- the laws' own mixing -/
def mixI (c k : Int) : Int := ((c % 10 ^ 30 * 1000003 + (k + 1) * (k + 1) * 998244353) % 2305843009213693951) * ((c % 10 ^ 30 * 1000003 + (k + 1) * (k + 1) * 998244353) % 2305843009213693951) % 2305843009213693921
theorem mixI_nn (c k : Int) : 0 ≤ mixI c k := Int.emod_nonneg _ (by decide)
theorem mixI_lt (c k : Int) : mixI c k < 2305843009213693921 := Int.emod_lt_of_pos _ (by decide)
theorem fdivD_s (i j : Int) (h : 0 < j) (h2 : j < 1000000000000000000) : fdivD (.int i) (.int j) = .ok (.int (i / j)) := fdivD_i i j h (by
  have h3 : j.natAbs < 2 ^ 100 := by omega
  have h4 : j.natAbs ≠ 0 := by omega
  have := (Nat.log2_lt h4).mpr h3
  omega)
theorem rep_map {α β : Type} (f : α → β) (n : Nat) (l : List α) : (List.replicate n (l.map f)).flatten = ((List.replicate n l).flatten).map f := by
  rw [List.map_flatten, List.map_replicate]
theorem joinL_one (x : List Nat) : TL.joinL [] (x.map fun c => [c]) = x := by
  induction x with
  | nil => rfl
  | cons a r ih => cases r with
    | nil => rfl
    | cons b r => simp only [List.map_cons] at ih ⊢; unfold TL.joinL; rw [ih]; rfl
theorem joinM_one (x : List Nat) (h : x.length ≤ 16777216) : joinM (.str []) [.lst (x.map fun c => .str [c])] = .ok (.str x) := by
  have e : (x.map fun c => D.str [c]) = (x.map fun c => [c]).map .str := by simp
  have e2 : ((x.map fun c => [c]).map (·.length)).sum = x.length := by
    rw [List.map_map]
    clear h e
    induction x with
    | nil => rfl
    | cons a r ih => simp at ih ⊢; omega
  unfold joinM joinD
  rw [e]
  dsimp only
  rw [strsD_map]
  dsimp only
  rw [e2, joinL_one, if_pos (le_sz (by simpa using h))]
@[simp] theorem eM_s {fa : SS → R D} {fs : SS → R (List D)} {s : SS} (T : String) (g : D → List D → R D) : eM T g fa fs s = (fa s).bind fun x => if tyN x = some T then (fs s).bind (g x) else .bad := rfl
@[simp] theorem tyN_str (x : List Nat) : tyN (.str x) = some "str" := rfl
@[simp] theorem tyN_lst (x : List D) : tyN (.lst x) = some "list" := rfl
@[simp] theorem tyN_tup (x : List D) : tyN (.tup x) = some "tuple" := rfl
@[simp] theorem tyN_int (x : Int) : tyN (.int x) = some "int" := rfl
@[simp] theorem tyN_bl (x : Bool) : tyN (.bl x) = some "bool" := rfl
@[simp] theorem tyN_non : tyN .non = some "NoneType" := rfl
@[simp] theorem tyN_dic (ks : List Key) (vs : List D) : tyN (.dic ks vs) = some "dict" := rfl

/-- a loop, then what follows -/
theorem forR_then {β : Type} {step : D → SS → RS} {i j : Int} {s : SS} {k : RS → β} {Y : β} (P : Nat → SS → Prop) (h0 : P 0 s)
    (hs : ∀ (k : Nat) s, (k : Int) < j - i → P k s → ∃ s', step (.int (i + k)) s = .nx s' ∧ P (k + 1) s') (he : ∀ s', P (j - i).toNat s' → k (.nx s') = Y) : k (forL step (rangeD i j) s) = Y := by
  obtain ⟨s', q, h⟩ := forR_nx P i j s h0 hs
  rw [q]
  exact he s' h
theorem forR_in {step : D → SS → RS} {i j : Int} {s : SS} {P' : SS → Prop} (P : Nat → SS → Prop) (h0 : P 0 s)
    (hs : ∀ (k : Nat) s, (k : Int) < j - i → P k s → ∃ s', step (.int (i + k)) s = .nx s' ∧ P (k + 1) s') (he : ∀ s', P (j - i).toNat s' → P' s') : ∃ s', forL step (rangeD i j) s = .nx s' ∧ P' s' := by
  obtain ⟨s', q, h⟩ := forR_nx P i j s h0 hs
  exact ⟨s', q, he s' h⟩
/-- over the items of a mapped list -/
theorem forM_then {α β : Type} {c : α → D} {xs : List α} {step : D → SS → RS} {s : SS} {k : RS → β} {Y : β} (P : Nat → SS → Prop) (h0 : P 0 s)
    (hs : ∀ (i : Nat) (a : α) s, xs[i]? = some a → P i s → ∃ s', step (c a) s = .nx s' ∧ P (i + 1) s') (he : ∀ s', P xs.length s' → k (.nx s') = Y) : k (forL step (xs.map c) s) = Y := by
  obtain ⟨s', q, h⟩ := forL_nx P (xs.map c) s h0 fun i d s h p => by
    rw [List.getElem?_map] at h
    cases q : xs[i]? with
    | none => rw [q] at h; cases h
    | some a => rw [q] at h; cases h; exact hs i a s q p
  rw [q]
  exact he s' (by simpa using h)
theorem forM_in {α : Type} {c : α → D} {xs : List α} {step : D → SS → RS} {s : SS} {P' : SS → Prop} (P : Nat → SS → Prop) (h0 : P 0 s)
    (hs : ∀ (i : Nat) (a : α) s, xs[i]? = some a → P i s → ∃ s', step (c a) s = .nx s' ∧ P (i + 1) s') (he : ∀ s', P xs.length s' → P' s') : ∃ s', forL step (xs.map c) s = .nx s' ∧ P' s' :=
  forM_then (k := fun r => ∃ s', r = .nx s' ∧ P' s') (Y := True) P h0 hs (fun s' h => propext ⟨fun _ => trivial, fun _ => ⟨s', rfl, he s' h⟩⟩) ▸ trivial
theorem bnd_on {r : RS} {g : SS → RS} {Q : SS → Prop} (P' : SS → Prop) (h1 : ∃ s', r = .nx s' ∧ P' s') (h2 : ∀ s', P' s' → ∃ s'', g s' = .nx s'' ∧ Q s'') : ∃ s'', bnd r g = .nx s'' ∧ Q s'' := by
  obtain ⟨s', rfl, h⟩ := h1
  exact h2 s' h
theorem bnd_end {r : RS} {g : SS → RS} {fr : Bool} {Y : R D} (P' : SS → Prop) (h1 : ∃ s', r = .nx s' ∧ P' s') (h2 : ∀ s', P' s' → fin fr (g s') = Y) : fin fr (bnd r g) = Y := by
  obtain ⟨s', rfl, h⟩ := h1
  exact h2 s' h
theorem mem_le_sum {l : List Nat} {x : Nat} (h : x ∈ l) : x ≤ l.sum := by
  induction l with
  | nil => cases h
  | cons a r ih =>
    rw [List.sum_cons]
    rcases List.mem_cons.mp h with rfl | h
    · omega
    · have := ih h; omega
theorem bnd_q {r : RS} {g : SS → RS} {Q : RS → Prop} (P' : SS → Prop) (h1 : ∃ s', r = .nx s' ∧ P' s') (h2 : ∀ s', P' s' → Q (g s')) : Q (bnd r g) := by
  obtain ⟨s', rfl, h⟩ := h1
  exact h2 s' h
end
end Z
namespace ZS
open PySem PyProof.Rows Srt SrtO
section
variable {prog : Program} {w : World} {A : Around} {E : Value → Shared → Prop} {s : Shared}
def sv : Value → List Nat
  | .str x _ => x.cps.toList
  | _ => []
def svS : Value → Str
  | .str x _ => x
  | _ => ⟨#[]⟩
def ltSv (v u : Value) : Bool := decide (sv v < sv u)
theorem swo_str : Swo ltSv := by
  refine ⟨fun x y h => ?_, fun x y z h1 h2 => ?_⟩
  · exact decide_eq_false (List.lt_asymm (of_decide_eq_true h))
  · have a := of_decide_eq_false h1
    have b := of_decide_eq_false h2
    exact decide_eq_false (List.not_lt.mpr (List.le_trans (List.not_lt.mp a) (List.not_lt.mp b)))
theorem str_cmp {vs : List Value} {ns : List Str} (hI : StrsAre vs ns) : Cmp prog w A s oneType' (fun p => p.1 ∈ vs) (lt2 ltSv) := by
  intro p q hm hm'
  obtain ⟨a, t, e⟩ := hI.all _ hm
  obtain ⟨b, u, e'⟩ := hI.all _ hm'
  show wpAny (model prog w) A (keyLt' oneType' p.1 q.1) (fun r s' => s' = s ∧ r = ltSv p.1 q.1) (fun _ _ => False) s
  rw [e, e', keyLt'_oneType]
  exact oneLt_str ⟨rfl, rfl⟩
theorem strs_sortable {a : Addr} {vs : List Value} {ns : List Str} (hI : StrsAre vs ns) (h2 : 2 ≤ vs.length) : SortableO prog w A s a vs ltSv := by
  intro h' _
  refine ⟨oneType', fun Q E hq => ?_, str_cmp hI⟩
  match vs, hI, h2 with
  | v1 :: v2 :: rest, hI, _ =>
    rw [keyKind_strs hI]
    exact wpAny_pure hq
  | [], _, h => exact absurd h (by decide)
  | [v], _, h => exact absurd h (by simp)
theorem strs_ss : ∀ {vs : List Value}, (∀ v ∈ vs, ∃ i t, v = Value.str i t) → StrsAre vs (vs.map svS)
  | [], _ => .nil
  | v :: vs, h => by
    obtain ⟨i, t, e⟩ := h v List.mem_cons_self
    subst e
    exact .cons i t (strs_ss fun u hu => h u (List.mem_cons_of_mem _ hu))
theorem ss_strs : ∀ {vs : List Value} {ns : List Str}, StrsAre vs ns → vs.map svS = ns
  | _, _, .nil => rfl
  | _, _, .cons n t r => congrArg (n :: ·) (ss_strs r)
theorem strs_out {vs out : List Value} {ns : List Str} (hI : StrsAre vs ns) (hs : Srtd ltSv out) (hb : Stb ltSv out vs) : StrsAre out (out.map svS) ∧ (out.map svS).Perm ns ∧ (out.map svS).Pairwise (fun x y => ¬ y.cps.toList < x.cps.toList) := by
  have hall : ∀ v ∈ out, ∃ i t, v = Value.str i t := fun v hv => hI.all v (hb.perm.mem_iff.mp hv)
  refine ⟨strs_ss hall, ?_, ?_⟩
  · have q := hb.perm.map svS
    rw [ss_strs hI] at q
    exact q
  · refine List.pairwise_map.mpr (List.Pairwise.imp_of_mem (fun {x y} hx hy h => ?_) hs)
    obtain ⟨i, t, rfl⟩ := hall x hx
    obtain ⟨j, u, rfl⟩ := hall y hy
    exact of_decide_eq_false h
end
end ZS
namespace Z
noncomputable section
open PySem PySem.Spec PySem.P PyProof.Rows L2
section
variable {X : Cx} {C : CT} {W : WX}
def rSortedT (K : PySem.W.Frag) : List V → Hp → VK → Prop := fun vs H Q => ∃ (a : Addr) (xs : List Str), vs = [V.ref a] ∧ SqL K H a (xs.map V.str) ∧
  ∀ (ys : List Str) (p : Addr), ys.Perm xs → ys.Pairwise (fun x y => ¬ y.cps.toList < x.cps.toList) → H p = none → Q (.ref p) (upd H p (.lst (ys.map V.str)))
theorem cr_sortedT : CallR X (.builtin "sorted") (rSortedT X.K) := by
  intro pins s σ H vs us Q I r h
  obtain ⟨a, ns, rfl, hs, q⟩ := h
  obtain ⟨its, rv, hl, hz⟩ := I.list hs
  rw [Vals.ref1 r]
  have hi := rv.strs
  refine SrtO.sorted_ord ZS.swo_str hl.isList (by rw [← rv.length]; exact hz) (fun h2 h₁ a' _ _ => ZS.strs_sortable hi h2) fun out h1 h2 => ?_
  obtain ⟨k1, k2, k3⟩ := ZS.strs_out hi h1 h2
  obtain ⟨ep, he'⟩ := PyProof.Rows.sortedAll_at s.heap its out.toArray
  have hlen : ((out.map ZS.svS).map V.str).length ≤ sizeLine := by
    rw [List.length_map, k2.length_eq]
    rw [List.length_map] at hz
    exact hz
  exact ⟨.ref _, upd H (s.heap.objs.size + 1) (.lst ((out.map ZS.svS).map V.str)), I.laid (t' := s.toks) (fun _ _ => PyProof.Rows.sortedAll_old) (Nat.le_succ _) ⟨hlen, out, ep, vals_of_strs k1, he'⟩, rfl, q _ _ k2 k3 (I.hok.fresh (Nat.le_succ _))⟩
/-- in order -/
def sortT (xs : List (List Nat)) : List (List Nat) := xs.mergeSort fun a b => !ltS b a
def sortI (xs : List Int) : List Int := xs.mergeSort fun a b => decide (a ≤ b)
theorem sortT_perm (xs : List (List Nat)) : (sortT xs).Perm xs := List.mergeSort_perm _ _
theorem sortI_perm (xs : List Int) : (sortI xs).Perm xs := List.mergeSort_perm _ _
theorem sortT_sorted (xs : List (List Nat)) : (sortT xs).Pairwise fun x y => ¬ y < x := by
  have := List.pairwise_mergeSort (le := fun a b : List Nat => !ltS b a) (fun a b c h1 h2 => by
    simp [ltS] at h1 h2 ⊢
    exact List.le_trans h1 h2) (fun a b => by
    simp [ltS]
    exact List.le_total a b) xs
  exact this.imp fun h => by simpa [ltS] using h
theorem sortI_sorted (xs : List Int) : (sortI xs).Pairwise (· ≤ ·) := by
  have := List.pairwise_mergeSort (le := fun a b : Int => decide (a ≤ b)) (fun a b c h1 h2 => by
    simp at h1 h2 ⊢
    omega) (fun a b => by
    simp
    omega) xs
  exact this.imp fun h => by simpa using h
theorem sortT_uniq {xs ys : List (List Nat)} (hp : ys.Perm xs) (hs : ys.Pairwise fun x y => ¬ y < x) : ys = sortT xs :=
  List.Perm.eq_of_pairwise (le := fun x y => ¬ y < x) (fun a b _ _ h1 h2 => List.le_antisymm (List.not_lt.mp h1) (List.not_lt.mp h2)) hs (sortT_sorted xs) (hp.trans (sortT_perm xs).symm)
theorem sortI_uniq {xs ys : List Int} (hp : ys.Perm xs) (hs : ys.Pairwise (· ≤ ·)) : ys = sortI xs :=
  List.Perm.eq_of_pairwise (le := (· ≤ ·)) (fun a b _ _ h1 h2 => by omega) hs (sortI_sorted xs) (hp.trans (sortI_perm xs).symm)
def sortD : List D → R D
  | [.lst x] => match strsD x with
    | some ys => .ok (.lst ((sortT ys).map .str))
    | none => match intsD x with
      | some ns => .ok (.lst ((sortI ns).map .int))
      | none => .bad
  | _ => .bad
theorem sortD_ne : NoExL sortD := fun x c vs h => by
  unfold sortD at h
  split at h
  · split at h
    · cases h
    · split at h <;> cases h
  · cases h
theorem repL_ints {G : GE} {F : Hp} : ∀ (ns : List Int), RepL G F (ns.map .int) (ns.map V.int)
  | [] => RepL.nil
  | _ :: ns => RepL.cons (rep_int.mpr rfl) (repL_ints ns)
theorem repL_strs {G : GE} {F : Hp} : ∀ (ns : List (List Nat)), (∀ x ∈ ns, okS x = true) → RepL G F (ns.map .str) ((ns.map toS).map V.str)
  | [], _ => RepL.nil
  | x :: ns, h => RepL.cons (rep_str.mpr ⟨rfl, h x List.mem_cons_self⟩) (repL_strs ns fun y hy => h y (List.mem_cons_of_mem _ hy))
theorem call_sortD (v : Pl X C W) : CallR X (.builtin "sorted") (rCF C.G sortD) := by
  intro pins s σ H xs us Q I r h
  obtain ⟨F, ds, S, r2, p⟩ := h
  unfold sortD at p
  split at p
  · obtain ⟨u, rfl, b⟩ := pair1 r2
    obtain ⟨a, ys, rfl, q, rr⟩ := bor_lst S b
    rw [← v.K] at q
    split at p
    · rename_i ns hn
      obtain ⟨e, hok⟩ := strs_rep hn rr
      rw [e] at q
      refine cr_sortedT pins s σ H _ us Q I r ⟨a, ns.map toS, rfl, q, fun zs p' hp hs hf => ?_⟩
      have h1 : zs = (zs.map fun z => z.cps.toList).map toS := by
        rw [List.map_map]
        conv => lhs; rw [← List.map_id zs]
        refine List.map_congr_left fun z _ => ?_
        show z = ⟨z.cps.toList.toArray⟩
        rw [Array.toArray_toList]
      have h2 : zs.map (fun z => z.cps.toList) = sortT ns := by
        apply sortT_uniq
        · have := hp.map fun z : Str => z.cps.toList
          rw [List.map_map] at this
          have e2 : ns.map ((fun z : Str => z.cps.toList) ∘ toS) = ns := by
            conv => rhs; rw [← List.map_id ns]
            exact List.map_congr_left fun z _ => rfl
          rwa [e2] at this
        · exact List.pairwise_map.mpr hs
      rw [h1, h2]
      exact p.lst S (repL_strs _ fun x hx => hok x ((sortT_perm ns).mem_iff.mp hx)) p' hf
    · split at p
      · rename_i ns hn
        rw [ints_rep hn rr] at q
        refine cr_sortedI pins s σ H _ us Q I r ⟨a, ns, rfl, q, fun zs p' hp hs hf => ?_⟩
        rw [sortI_uniq hp hs]
        exact p.lst S (repL_ints _) p' hf
      · exact p.elim
  · exact p.elim
/-! min(xs), max(xs) of texts and of ints -/
theorem strs_cmp {prog : Program} {w : World} {A : Around} {P : Nat → Value → Prop} (val : Nat → List Nat) (hval : ∀ i v, P i v → ∃ x t, v = .str x t ∧ x.cps.toList = val i) :
    CmpOf prog w A .Lt P (fun i j => decide (val i < val j)) := fun i j vi vj s Q E hi hj h => by
  obtain ⟨x, t, rfl, e1⟩ := hval i vi hi
  obtain ⟨y, u, rfl, e2⟩ := hval j vj hj
  dsimp only at h
  rw [← e1, ← e2] at h
  exact richCompare_gives (op := .Lt) (typeIs_str s _ t) (typeIs_str s _ u) PySem.F.slot_str_lt PySem.F.entry_str_lt (PySem.F.args_str_lt_2 _ _) (gives_str_lt _ _ t u) (fun x => nomatch x) h
theorem strs_cmpG {prog : Program} {w : World} {A : Around} {P : Nat → Value → Prop} (val : Nat → List Nat) (hval : ∀ i v, P i v → ∃ x t, v = .str x t ∧ x.cps.toList = val i) :
    CmpOf prog w A .Gt P (fun i j => decide (val i > val j)) := fun i j vi vj s Q E hi hj h => by
  obtain ⟨x, t, rfl, e1⟩ := hval i vi hi
  obtain ⟨y, u, rfl, e2⟩ := hval j vj hj
  dsimp only at h
  rw [← e1, ← e2] at h
  exact richCompare_gives (op := .Gt) (typeIs_str s _ t) (typeIs_str s _ u) PySem.F.slot_str_gt PySem.F.entry_str_gt (PySem.F.args_str_gt_2 _ _) (gives_str_gt _ _ t u) (fun x => nomatch x) h
theorem argBest_lex (val : Nat → List Nat) : ∀ k, argBest (fun i j => decide (val i < val j)) k ≤ k ∧ ∀ j, j ≤ k → ¬ val j < val (argBest (fun i j => decide (val i < val j)) k)
  | 0 => ⟨Nat.le_refl _, fun j hj => by
    have : j = 0 := by omega
    subst this
    exact List.lt_irrefl _⟩
  | k + 1 => by
    obtain ⟨h1, h2⟩ := argBest_lex val k
    simp only [argBest]
    by_cases hc : val (k + 1) < val (argBest (fun i j => decide (val i < val j)) k)
    · rw [if_pos (by simpa using hc)]
      refine ⟨Nat.le_refl _, fun j hj => ?_⟩
      rcases Nat.lt_or_ge j (k + 1) with hlt | hge
      · exact fun z => h2 j (by omega) (List.lt_trans z hc)
      · have : j = k + 1 := by omega
        subst this; exact List.lt_irrefl _
    · rw [if_neg (by simpa using hc)]
      refine ⟨by omega, fun j hj => ?_⟩
      rcases Nat.lt_or_ge j (k + 1) with hlt | hge
      · exact h2 j (by omega)
      · have : j = k + 1 := by omega
        subst this; exact hc
def rMinT (K : PySem.W.Frag) : List V → Hp → VK → Prop := fun vs H Q => ∃ (a : Addr) (ns : List Str), vs = [V.ref a] ∧ SqL K H a (ns.map V.str) ∧ 0 < ns.length ∧ ∀ m, m ∈ ns → (∀ y, y ∈ ns → ¬ y.cps.toList < m.cps.toList) → Q (.str m) H
theorem min_rawT {prog : Program} {w : World} {A : Around} {E : Value → Shared → Prop} {s : Shared} {l : Addr} {its : List Value} {ns : List Str} {Q : Value → Shared → Prop} (hh : A.handled = none) (hl : s.heap.IsList l its.toArray) (hi : StrsAre its ns) (hne : 0 < ns.length)
    (h : ∀ h' tk m t', (∀ b o, s.heap.get? b = some o → h'.get? b = some o) → m ∈ ns → (∀ y, y ∈ ns → ¬ y.cps.toList < m.cps.toList) → Q (.str m t') { s with heap := h', toks := tk }) : wpAny (model prog w) A (call (.builtin "min") [.ref l]) Q E s := by
  have hlt : l < s.heap.objs.size := by obtain ⟨_, e, _⟩ := hl; exact Heap.lt_size e
  have hlen : its.length = ns.length := hi.length
  have hval : ∀ (i : Nat) (v : Value), its.toArray[i]? = some v → ∃ (x : Str) (t : Tok), v = .str x t ∧ x.cps.toList = ((ns[i]?).getD (⟨#[]⟩ : Str)).cps.toList := fun i v hv => by
    have hss := ZS.ss_strs hi
    rw [List.getElem?_toArray] at hv
    obtain ⟨x, t, rfl⟩ := hi.all v (List.mem_of_getElem? hv)
    refine ⟨x, t, rfl, ?_⟩
    rw [← hss, List.getElem?_map, hv]
    rfl
  refine call_min_walk (wpAny_pyIter_list hl ?_)
  refine ⟨_, _, _, _, _, _, _, rfl, Walks.list (A := A.in1) hh _ l (Nat.ne_of_lt hlt) its.toArray, ⟨⟨_, Heap.get?_push_size _ rfl, rfl, rfl⟩, hl.push _⟩, fun b hb => ?_, by simpa [hlen] using hne, strs_cmp (fun i => ((ns[i]?).getD (⟨#[]⟩ : Str)).cps.toList) hval, fun v h' tk hP hk => ?_⟩
  · show b < (s.heap.push _).objs.size
    rw [Heap.size_push]
    rcases List.mem_cons.mp hb with rfl | hb
    · exact Nat.lt_succ_self _
    · rcases List.mem_cons.mp hb with rfl | hb
      · exact Nat.lt_succ_of_lt hlt
      · cases hb
  · obtain ⟨b1, b2⟩ := argBest_lex (fun i => ((ns[i]?).getD (⟨#[]⟩ : Str)).cps.toList) (its.toArray.size - 1)
    generalize argBest (fun i j => decide (((ns[i]?).getD (⟨#[]⟩ : Str)).cps.toList < ((ns[j]?).getD (⟨#[]⟩ : Str)).cps.toList)) (its.toArray.size - 1) = at' at hP b1 b2
    obtain ⟨x, t, rfl, e⟩ := hval _ _ hP
    have hat : at' < ns.length := by simp at b1; omega
    have hx : ns[at']? = some x := by
      have hss := ZS.ss_strs hi
      rw [← hss, List.getElem?_map]
      rw [List.getElem?_toArray] at hP
      rw [hP]
      rfl
    refine h h' tk x t (old_kept hk) (List.mem_of_getElem? hx) fun y hy => ?_
    obtain ⟨j, hj, rfl⟩ := List.mem_iff_getElem.mp hy
    have := b2 j (by simp; omega)
    simpa [hx, hj] using this
theorem cr_minT (hc : X.calm = true) : CallR X (.builtin "min") (rMinT X.K) := by
  intro pins s σ H vs us Q I r h
  obtain ⟨a, ns, rfl, hs, hne, q⟩ := h
  obtain ⟨its, rv, hl, _⟩ := I.list hs
  rw [Vals.ref1 r]
  exact min_rawT (I.ok.hd hc) hl.isList rv.strs hne fun h' tk m t' hk h1 h2 => ⟨.str _, H, I.kept hk, ⟨_, rfl⟩, q m h1 h2⟩
def minT (y : List Nat) (ys : List (List Nat)) : List Nat := ys.foldl (fun m x => if x < m then x else m) y
def minI (y : Int) (ys : List Int) : Int := ys.foldl (fun m x => if x < m then x else m) y
def maxI (y : Int) (ys : List Int) : Int := ys.foldl (fun m x => if m < x then x else m) y
theorem minT_spec : ∀ (ys : List (List Nat)) (y : List Nat), minT y ys ∈ y :: ys ∧ ∀ x ∈ y :: ys, ¬ x < minT y ys
  | [], y => ⟨List.mem_cons_self, fun x hx => by
    rcases List.mem_cons.mp hx with rfl | hx
    · exact List.lt_irrefl _
    · cases hx⟩
  | z :: ys, y => by
    obtain ⟨h1, h2⟩ := minT_spec ys (if z < y then z else y)
    have e : minT y (z :: ys) = minT (if z < y then z else y) ys := rfl
    rw [e]
    have h3 := h2 _ List.mem_cons_self
    refine ⟨?_, fun x hx => ?_⟩
    · rcases List.mem_cons.mp h1 with e | h
      · rw [e]
        split
        · exact List.mem_cons_of_mem _ List.mem_cons_self
        · exact List.mem_cons_self
      · exact List.mem_cons_of_mem _ (List.mem_cons_of_mem _ h)
    · by_cases q : z < y
      · simp only [if_pos q] at *
        rcases List.mem_cons.mp hx with rfl | hx
        · grind
        · rcases List.mem_cons.mp hx with rfl | hx
          · exact h3
          · exact h2 _ (List.mem_cons_of_mem _ hx)
      · simp only [if_neg q] at *
        rcases List.mem_cons.mp hx with rfl | hx
        · exact h3
        · rcases List.mem_cons.mp hx with rfl | hx
          · grind
          · exact h2 _ (List.mem_cons_of_mem _ hx)
theorem minI_spec : ∀ (ys : List Int) (y : Int), minI y ys ∈ y :: ys ∧ ∀ x ∈ y :: ys, minI y ys ≤ x
  | [], y => by simp [minI]
  | z :: ys, y => by
    obtain ⟨h1, h2⟩ := minI_spec ys (if z < y then z else y)
    have e : minI y (z :: ys) = minI (if z < y then z else y) ys := rfl
    rw [e]
    have h3 := h2 _ List.mem_cons_self
    by_cases q : z < y
    · simp only [if_pos q] at *
      simp only [List.mem_cons] at *
      refine ⟨by rcases h1 with h | h <;> simp [h], fun x hx => ?_⟩
      rcases hx with rfl | rfl | hx
      · omega
      · omega
      · exact h2 x (.inr hx)
    · simp only [if_neg q] at *
      simp only [List.mem_cons] at *
      refine ⟨by rcases h1 with h | h <;> simp [h], fun x hx => ?_⟩
      rcases hx with rfl | rfl | hx
      · omega
      · omega
      · exact h2 x (.inr hx)
theorem maxI_spec : ∀ (ys : List Int) (y : Int), maxI y ys ∈ y :: ys ∧ ∀ x ∈ y :: ys, x ≤ maxI y ys
  | [], y => by simp [maxI]
  | z :: ys, y => by
    obtain ⟨h1, h2⟩ := maxI_spec ys (if y < z then z else y)
    have e : maxI y (z :: ys) = maxI (if y < z then z else y) ys := rfl
    rw [e]
    have h3 := h2 _ List.mem_cons_self
    by_cases q : y < z
    · simp only [if_pos q] at *
      simp only [List.mem_cons] at *
      refine ⟨by rcases h1 with h | h <;> simp [h], fun x hx => ?_⟩
      rcases hx with rfl | rfl | hx
      · omega
      · omega
      · exact h2 x (.inr hx)
    · simp only [if_neg q] at *
      simp only [List.mem_cons] at *
      refine ⟨by rcases h1 with h | h <;> simp [h], fun x hx => ?_⟩
      rcases hx with rfl | rfl | hx
      · omega
      · omega
      · exact h2 x (.inr hx)
theorem minT_uniq {y : List Nat} {ys : List (List Nat)} {m : List Nat} (h1 : m ∈ y :: ys) (h2 : ∀ x ∈ y :: ys, ¬ x < m) : m = minT y ys := by
  obtain ⟨a, b⟩ := minT_spec ys y
  have := h2 _ a
  have := b _ h1
  exact List.le_antisymm (List.not_lt.mp ‹¬ minT y ys < m›) (List.not_lt.mp ‹¬ m < minT y ys›)
/-- min(xs) -/
def min1D : List D → R D
  | [.lst x] => match strsD x with
    | some (y :: ys) => .ok (.str (minT y ys))
    | some [] => .bad
    | none => match intsD x with
      | some (n :: ns) => .ok (.int (minI n ns))
      | _ => .bad
  | _ => .bad
def max1D : List D → R D
  | [.lst x] => match intsD x with
    | some (n :: ns) => .ok (.int (maxI n ns))
    | _ => .bad
  | _ => .bad
theorem min1D_ne : NoExL min1D := fun x c vs h => by
  unfold min1D at h
  split at h
  · split at h
    · cases h
    · cases h
    · split at h <;> cases h
  · cases h
theorem max1D_ne : NoExL max1D := fun x c vs h => by
  unfold max1D at h
  split at h
  · split at h <;> cases h
  · cases h
theorem call_min1D (v : Pl X C W) : CallR X (.builtin "min") (rC C.G min1D) := by
  intro pins s σ H xs us Q I r h
  obtain ⟨F, ds, S, r2, p⟩ := h
  unfold min1D at p
  split at p
  · obtain ⟨u, rfl, b⟩ := pair1 r2
    obtain ⟨a, ys, rfl, q, rr⟩ := bor_lst S b
    rw [← v.K] at q
    split at p
    · rename_i y0 ns hn
      obtain ⟨e, hok⟩ := strs_rep hn rr
      rw [e] at q
      refine cr_minT v.calm pins s σ H _ us Q I r ⟨a, (y0 :: ns).map toS, rfl, q, by simp, fun m hm hall => ?_⟩
      obtain ⟨m', hm', rfl⟩ := List.mem_map.mp hm
      have e2 : m' = minT y0 ns := minT_uniq hm' fun x hx => hall (toS x) (List.mem_map_of_mem hx)
      have := p (.str (toS m')) F H (Ext.refl S) (by rw [← e2]; exact rep_str.mpr ⟨rfl, hok _ hm'⟩)
      exact this
    · exact p.elim
    · split at p
      · rename_i n0 ns hn
        rw [ints_rep hn rr] at q
        refine cr_min v.calm pins s σ H _ us Q I r ⟨a, n0 :: ns, rfl, q, by simp, fun m hm hall => ?_⟩
        obtain ⟨b1, b2⟩ := minI_spec ns n0
        have e2 : m = minI n0 ns := by
          have := hall _ b1
          have := b2 _ hm
          omega
        rw [e2]
        exact p.int S
      · exact p.elim
  · exact p.elim
theorem call_max1D (v : Pl X C W) : CallR X (.builtin "max") (rC C.G max1D) := by
  intro pins s σ H xs us Q I r h
  obtain ⟨F, ds, S, r2, p⟩ := h
  unfold max1D at p
  split at p
  · obtain ⟨u, rfl, b⟩ := pair1 r2
    obtain ⟨a, ys, rfl, q, rr⟩ := bor_lst S b
    rw [← v.K] at q
    split at p
    · rename_i n0 ns hn
      rw [ints_rep hn rr] at q
      refine cr_max v.calm pins s σ H _ us Q I r ⟨a, n0 :: ns, rfl, q, by simp, fun m hm hall => ?_⟩
      obtain ⟨b1, b2⟩ := maxI_spec ns n0
      have e2 : m = maxI n0 ns := by
        have := hall _ b1
        have := b2 _ hm
        omega
      rw [e2]
      exact p.int S
    · exact p.elim
  · exact p.elim
end
end
end Z
namespace Z
noncomputable section
open PySem PySem.Spec PySem.P PyProof.Rows L2
@[simp] theorem min1D_s (y : List Nat) (ys : List (List Nat)) : min1D [.lst (.str y :: ys.map .str)] = .ok (.str (minT y ys)) := by
  have : strsD (D.str y :: ys.map .str) = some (y :: ys) := strsD_map (y :: ys)
  unfold min1D
  dsimp only
  rw [this]
@[simp] theorem sortD_s (ys : List (List Nat)) : sortD [.lst (ys.map .str)] = .ok (.lst ((sortT ys).map .str)) := by
  unfold sortD
  dsimp only
  rw [strsD_map]
/-- where a thing stands first -/
theorem eqvL_map (xs : List (List Nat)) : ∀ ys : List (List Nat), eqvL (xs.map .str) (ys.map .str) = decide (xs = ys) := by
  induction xs with
  | nil => intro ys; cases ys <;> simp [eqvL]
  | cons x xs ih => intro ys; cases ys with
    | nil => simp [eqvL]
    | cons y ys => simp only [List.map_cons, eqvL, eqv, ih]; simp [Bool.beq_eq_decide_eq]
/-! ### words and their turns -/
def rot (w : List Nat) (k : Nat) : List Nat := w.drop k ++ w.take k
def rots (w : List Nat) : List (List Nat) := (List.range w.length).map (rot w)
def lrot (w : List Nat) : List Nat := match rots w with
  | [] => []
  | y :: ys => minT y ys
theorem rot_len (w : List Nat) (k : Nat) : (rot w k).length = w.length := by simp [rot]; omega
theorem rot_zero (w : List Nat) : rot w 0 = w := by simp [rot]
theorem rot_get (w : List Nat) (k i : Nat) (hk : k ≤ w.length) (hi : i < w.length) : (rot w k)[i]? = w[(i + k) % w.length]? := by
  unfold rot
  by_cases h : i < w.length - k
  · rw [List.getElem?_append_left (by simpa using h), List.getElem?_drop, Nat.mod_eq_of_lt (by omega), Nat.add_comm]
  · rw [List.getElem?_append_right (by simpa using h), List.getElem?_take, List.length_drop, if_pos (by omega)]
    congr 1
    have e : i + k = (i - (w.length - k)) + w.length := by omega
    rw [e, Nat.add_mod_right, Nat.mod_eq_of_lt (by omega)]
theorem rot_rot (w : List Nat) (i j : Nat) (hi : i ≤ w.length) (hj : j ≤ w.length) (hw : 0 < w.length) : rot (rot w i) j = rot w ((i + j) % w.length) := by
  apply List.ext_getElem?
  intro m
  by_cases hm : m < w.length
  · rw [rot_get _ _ _ (by rw [rot_len]; exact hj) (by rw [rot_len]; exact hm), rot_len, rot_get _ _ _ hi (Nat.mod_lt _ hw), rot_get _ _ _ (Nat.le_of_lt (Nat.mod_lt _ hw)) hm]
    rw [Nat.mod_add_mod, Nat.add_mod_mod, Nat.add_assoc, Nat.add_comm j i]
  · rw [List.getElem?_eq_none (by rw [rot_len, rot_len]; omega), List.getElem?_eq_none (by rw [rot_len]; omega)]
theorem rot_full (w : List Nat) : rot w w.length = w := by simp [rot]
theorem mem_rots {w x : List Nat} : x ∈ rots w ↔ ∃ k, k < w.length ∧ x = rot w k := by
  unfold rots
  rw [List.mem_map]
  constructor
  · rintro ⟨k, hk, rfl⟩; exact ⟨k, by simpa using hk, rfl⟩
  · rintro ⟨k, hk, rfl⟩; exact ⟨k, by simpa using hk, rfl⟩
theorem rots_len (w : List Nat) : (rots w).length = w.length := by simp [rots]
theorem rots_rot {w : List Nat} {i : Nat} (hi : i < w.length) {x : List Nat} : x ∈ rots (rot w i) ↔ x ∈ rots w := by
  have hw : 0 < w.length := by omega
  rw [mem_rots, mem_rots, rot_len]
  constructor
  · rintro ⟨k, hk, rfl⟩
    exact ⟨(i + k) % w.length, Nat.mod_lt _ hw, rot_rot w i k (by omega) (by omega) hw⟩
  · rintro ⟨k, hk, rfl⟩
    refine ⟨(k + (w.length - i)) % w.length, Nat.mod_lt _ hw, ?_⟩
    rw [rot_rot w i _ (by omega) (Nat.le_of_lt (Nat.mod_lt _ hw)) hw, Nat.add_mod_mod]
    have : i + (k + (w.length - i)) = k + w.length := by omega
    rw [this, Nat.add_mod_right, Nat.mod_eq_of_lt hk]
theorem self_rots {w : List Nat} (hw : w ≠ []) : w ∈ rots w := mem_rots.mpr ⟨0, List.length_pos_iff.mpr hw, (rot_zero w).symm⟩
theorem rots_cons {w : List Nat} (hw : w ≠ []) : ∃ ys, rots w = w :: ys := by
  have h := List.length_pos_iff.mpr hw
  unfold rots
  obtain ⟨n, hn⟩ : ∃ n, w.length = n + 1 := ⟨w.length - 1, by omega⟩
  rw [hn, List.range_succ_eq_map, List.map_cons, rot_zero]
  exact ⟨_, rfl⟩
theorem lrot_spec {w : List Nat} (hw : w ≠ []) : lrot w ∈ rots w ∧ ∀ x ∈ rots w, ¬ x < lrot w := by
  obtain ⟨ys, e⟩ := rots_cons hw
  unfold lrot
  rw [e]
  exact minT_spec ys w
theorem lrot_uniq {w m : List Nat} (hw : w ≠ []) (h1 : m ∈ rots w) (h2 : ∀ x ∈ rots w, ¬ x < m) : m = lrot w := by
  obtain ⟨a, b⟩ := lrot_spec hw
  have h3 := h2 _ a
  have h4 := b _ h1
  exact List.le_antisymm (List.not_lt.mp h3) (List.not_lt.mp h4)
theorem lrot_nil {w : List Nat} (hw : w ≠ []) : lrot w ≠ [] := by
  obtain ⟨k, h, e⟩ := mem_rots.mp (lrot_spec hw).1
  intro z
  have := congrArg List.length e
  rw [z, rot_len] at this
  simp at this
  omega
theorem lrot_len {w : List Nat} (hw : w ≠ []) : (lrot w).length = w.length := by
  obtain ⟨k, h, e⟩ := mem_rots.mp (lrot_spec hw).1
  rw [e, rot_len]
theorem lrot_rot {w : List Nat} {i : Nat} (hi : i < w.length) : lrot (rot w i) = lrot w := by
  have hw : w ≠ [] := by intro z; subst z; simp at hi
  have hw2 : rot w i ≠ [] := by intro z; have := rot_len w i; rw [z] at this; simp at this; omega
  obtain ⟨a, b⟩ := lrot_spec hw
  exact (lrot_uniq hw2 ((rots_rot hi).mpr a) fun x hx => b x ((rots_rot hi).mp hx)).symm
/-! ### small things of the laws -/
@[simp] theorem eqD_b (a b : Bool) : eqD (.bl a) (.bl b) = .ok (.bl (a == b)) := rfl
@[simp] theorem neD_b (a b : Bool) : neD (.bl a) (.bl b) = .ok (.bl (!(a == b))) := rfl
@[simp] theorem isi_str (x : List Nat) : isiD "str" (.str x) = .ok (.bl true) := rfl
@[simp] theorem isi_int (x : Int) : isiD "int" (.int x) = .ok (.bl true) := rfl
@[simp] theorem isi_ib (x : Int) : isiD "bool" (.int x) = .ok (.bl false) := rfl
@[simp] theorem isi_bb (x : Bool) : isiD "bool" (.bl x) = .ok (.bl true) := rfl
@[simp] theorem isi_lst (x : List D) : isiD "list" (.lst x) = .ok (.bl true) := rfl
@[simp] theorem isi_tup (x : List D) : isiD "tuple" (.tup x) = .ok (.bl true) := rfl
theorem letter_ok (i : Int) (h : 0 ≤ i) (h2 : i < 6) : ixD (.str [97, 98, 99, 100, 101, 102]) (.int i) = .ok (.str [97 + i.toNat]) := by
  have hz : ([97, 98, 99, 100, 101, 102] : List Nat).length ≤ SZ := le_sz (by decide)
  apply ixD_s _ _ h _ hz
  have : i = 0 ∨ i = 1 ∨ i = 2 ∨ i = 3 ∨ i = 4 ∨ i = 5 := by omega
  rcases this with rfl | rfl | rfl | rfl | rfl | rfl <;> rfl
/-- the laws' other mixing -/
def mixedI (c k : Int) : Int := ((c * 48271 + (k + 1) * (k + 1) * 69621) % 2147483647) * ((c * 48271 + (k + 1) * (k + 1) * 69621) % 2147483647) % 2147483629 / 8
theorem mixedI_nn (c k : Int) : 0 ≤ mixedI c k := Int.ediv_nonneg (Int.emod_nonneg _ (by decide)) (by decide)
/-- drawn letters -/
def Lets (kd : Int) (w : List Nat) : Prop := ∀ x ∈ w, 97 ≤ x ∧ (x : Int) < 97 + kd
theorem Lets.nil {kd : Int} : Lets kd [] := fun _ h => by cases h
theorem Lets.app {kd : Int} {a b : List Nat} (h1 : Lets kd a) (h2 : Lets kd b) : Lets kd (a ++ b) := fun x h => by
  rcases List.mem_append.mp h with h | h
  · exact h1 x h
  · exact h2 x h
theorem Lets.take {kd : Int} {a : List Nat} (h : Lets kd a) (n : Nat) : Lets kd (a.take n) := fun x hx => h x (List.mem_of_mem_take hx)
theorem Lets.drop {kd : Int} {a : List Nat} (h : Lets kd a) (n : Nat) : Lets kd (a.drop n) := fun x hx => h x (List.mem_of_mem_drop hx)
theorem Lets.one {kd i : Int} (h : 0 ≤ i) (h2 : i < kd) : Lets kd [97 + i.toNat] := fun x hx => by
  rw [List.mem_singleton] at hx
  subst hx
  omega
theorem Lets.as {kd : Int} (h : 1 ≤ kd) (n : Nat) : Lets kd (List.replicate n 97) := fun x hx => by
  have := List.eq_of_mem_replicate hx
  subst this
  omega
theorem repS_a (n : Nat) : repS [97] n = List.replicate n 97 := by
  unfold repS
  induction n with
  | zero => rfl
  | succ n ih => rw [List.replicate_succ, List.flatten_cons, ih]; rfl
theorem depL_strs (xs : List (List Nat)) : depL (xs.map .str) = 0 := by
  induction xs with
  | nil => simp [depL]
  | cons x xs ih => simp only [List.map_cons, depL, ih, dep]; rfl
theorem idxL_str {xs : List (List Nat)} {y : List Nat} (h : y ∈ xs) : idxL (.lst (xs.map .str)) [.str y] = .ok (.int (xs.findIdx (· == y) : Nat)) := by
  have e : (fun z => eqv z (D.str y)) ∘ D.str = fun x => x == y := by
    funext x
    rfl
  unfold idxL
  dsimp only
  rw [depL_strs, if_pos ⟨by omega, by simp [dep]⟩, List.any_map, e, List.findIdx_map, e, if_pos]
  simpa using h
/-! letters -/
def abc (k : Int) : List Nat := [97, 98, 99, 100, 101, 102].take k.toNat
theorem mem_abc {k : Int} (h1 : 1 ≤ k) (h2 : k ≤ 6) {c : Nat} : c ∈ abc k ↔ 97 ≤ c ∧ (c : Int) < 97 + k := by
  have : k = 1 ∨ k = 2 ∨ k = 3 ∨ k = 4 ∨ k = 5 ∨ k = 6 := by omega
  rcases this with rfl | rfl | rfl | rfl | rfl | rfl <;> simp [abc] <;> omega
def goodW (w : List Nat) (k : Int) : Bool := decide (1 ≤ w.length) && decide (w.length ≤ 24) && w.all fun c => decide (97 ≤ c) && decide ((c : Int) < 97 + k)
theorem goodW_iff {w : List Nat} {k : Int} : goodW w k = true ↔ 1 ≤ w.length ∧ w.length ≤ 24 ∧ Lets k w := by
  unfold goodW Lets
  simp [and_assoc]
@[simp] theorem itD_s (x : List Nat) : itD (.str x) = .ok (x.map fun c => .str [c]) := rfl
theorem inS_one (c : Nat) (y : List Nat) : inS [c] y = decide (c ∈ y) := by
  unfold inS
  rw [Bool.eq_iff_iff]
  simp only [List.any_eq_true, List.mem_range, beq_iff_eq, decide_eq_true_eq]
  constructor
  · rintro ⟨i, hi, h⟩
    have : c ∈ (y.drop i).take 1 := by
      have h' : (y.drop i).take 1 = [c] := h
      rw [h']; simp
    exact List.mem_of_mem_drop (List.mem_of_mem_take this)
  · intro h
    obtain ⟨i, hi, rfl⟩ := List.mem_iff_getElem.mp h
    refine ⟨i, by omega, ?_⟩
    show (y.drop i).take 1 = [y[i]]
    rw [List.drop_eq_getElem_cons hi]
    rfl
@[simp] theorem inD_sf (x y : List Nat) : inD false (.str x) (.str y) = .ok (.bl (inS x y)) := by
  show R.ok (D.bl (xor false (inS x y))) = _
  rw [Bool.false_xor]
@[simp] theorem inD_st (x y : List Nat) : inD true (.str x) (.str y) = .ok (.bl (!inS x y)) := by
  show R.ok (D.bl (xor true (inS x y))) = _
  rw [Bool.true_xor]
theorem letters_idx (c : Nat) (h : 97 ≤ c) (h2 : c < 103) : idxS (.str [97, 98, 99, 100, 101, 102]) [.str [c]] = .ok (.int ((c : Int) - 97)) := by
  have : c = 97 ∨ c = 98 ∨ c = 99 ∨ c = 100 ∨ c = 101 ∨ c = 102 := by omega
  rcases this with rfl | rfl | rfl | rfl | rfl | rfl <;> rfl
/-- a word's number -/
def numW (k : Int) (w : List Nat) : Int := w.foldl (fun (n : Int) (c : Nat) => n * k + ((c : Int) - 97)) 0
theorem numW_app (k : Int) (w : List Nat) (c : Nat) : numW k (w ++ [c]) = numW k w * k + ((c : Int) - 97) := by simp [numW]
@[simp] theorem numW_nil (k : Int) : numW k [] = 0 := rfl
/-- the word of a number -/
def wordN (k : Int) : Nat → Int → List Nat
  | 0, _ => []
  | n + 1, i => wordN k n (i / k) ++ [97 + (i % k).toNat]
theorem wordN_len (k : Int) : ∀ (n : Nat) (i : Int), (wordN k n i).length = n
  | 0, _ => rfl
  | n + 1, i => by simp [wordN, wordN_len k n]
theorem wordN_lets {k : Int} (hk : 1 ≤ k) : ∀ (n : Nat) (i : Int), Lets k (wordN k n i)
  | 0, _ => Lets.nil
  | n + 1, i => (wordN_lets hk n _).app (Lets.one (Int.emod_nonneg _ (by omega)) (Int.emod_lt_of_pos _ (by omega)))
theorem numW_wordN {k : Int} (hk : 1 ≤ k) : ∀ (n : Nat) (i : Int), 0 ≤ i → i < k ^ n → numW k (wordN k n i) = i
  | 0, i, h, h2 => by simp at h2; simp [wordN]; omega
  | n + 1, i, h, h2 => by
    have h3 : i / k < k ^ n := by
      apply Int.ediv_lt_of_lt_mul (by omega)
      rwa [← Int.pow_succ]
    have e1 := Int.emod_nonneg i (show k ≠ 0 by omega)
    rw [wordN, numW_app, numW_wordN hk n _ (Int.ediv_nonneg h (by omega)) h3]
    have := Int.mul_ediv_add_emod i k
    have e2 : ((97 + (i % k).toNat : Nat) : Int) - 97 = i % k := by omega
    rw [e2, Int.mul_comm]
    omega
/-! own lists -/
section
variable {s : SS} {fe : SS → R D}
def getOw : Option Sl → Option (List D)
  | some (.ow (.lst xs)) => some xs
  | _ => none
@[simp] theorem getOw_l (xs : List D) : getOw (some (.ow (.lst xs))) = some xs := rfl
theorem owL_s (i : Nat) : owL s i = getOw s[i]? := by
  unfold owL
  generalize s[i]? = o
  cases o with
  | none => rfl
  | some x => cases x with
    | ow d => cases d <;> rfl
    | _ => rfl
def rMut (s : SS) (i : Nat) (o : Option (List D)) (r : R D) (g : List D → D → R (List D)) : RS := match o with
  | some xs => rE s r fun d s => match g xs d with
    | .ok ys => if ys.length ≤ SZ then .nx (s.set i (.ow (.lst ys))) else .bad
    | _ => .bad
  | none => .bad
theorem sMut_s (i : Nat) (g : List D → D → R (List D)) : sMut i fe g s = rMut s i (getOw s[i]?) (fe s) g := by
  unfold sMut
  rw [owL_s]
  cases getOw s[i]? with
  | none => rfl
  | some xs => rfl
@[simp] theorem sApp_s (i : Nat) : sApp i fe s = rMut s i (getOw s[i]?) (fe s) gApp := sMut_s i gApp
@[simp] theorem sExt_s (i : Nat) : sExt i fe s = rMut s i (getOw s[i]?) (fe s) gExt := sMut_s i gExt
@[simp] theorem rMut_app (i : Nat) (xs : List D) (d : D) : rMut s i (some xs) (.ok d) gApp = if xs.length + 1 ≤ SZ then .nx (s.set i (.ow (.lst (xs ++ [d])))) else .bad := by
  show (if (xs ++ [d]).length ≤ SZ then _ else _) = _
  rw [List.length_append]
  rfl
@[simp] theorem rMut_ext (i : Nat) (xs ys : List D) : rMut s i (some xs) (.ok (.lst ys)) gExt = if xs.length + ys.length ≤ SZ then .nx (s.set i (.ow (.lst (xs ++ ys)))) else .bad := by
  show (if (xs ++ ys).length ≤ SZ then _ else _) = _
  rw [List.length_append]
@[simp] theorem rMut_ex (i : Nat) (xs : List D) (c : Nat) (vs : List D) (g : List D → D → R (List D)) : rMut s i (some xs) (.ex c vs) g = .ex c vs s := rfl
/-- an own thing becomes a shared one -/
def frzS : Option Sl → Option D
  | some (.ow d) => some d
  | _ => none
@[simp] theorem sFrz_s (i : Nat) (f : SS → RS) : sFrz i f s = f (frz i s) := rfl
def frzG (s : SS) (i : Nat) : Option Sl → SS
  | some (.ow d) => s.set i (.sh d)
  | _ => s
@[simp] theorem frz_g (i : Nat) : frz i s = frzG s i s[i]? := rfl
@[simp] theorem frzG_ow (i : Nat) (d : D) : frzG s i (some (.ow d)) = s.set i (.sh d) := rfl
@[simp] theorem frzG_sh (i : Nat) (d : D) : frzG s i (some (.sh d)) = s := rfl
theorem frz_s (i : Nat) (d : D) (h : s[i]? = some (.ow d)) : frz i s = s.set i (.sh d) := by
  unfold frz
  rw [h]
@[simp] theorem sRetO_s (i : Nat) : sRetO i s = match s[i]? with | some (.ow d) => .rt true d | _ => .bad := rfl
end
theorem numW_cons (k : Int) (c : Nat) (w : List Nat) : numW k (c :: w) = ((c : Int) - 97) * k ^ w.length + numW k w := by
  have : ∀ (w : List Nat) (a : Int), w.foldl (fun (n : Int) (c : Nat) => n * k + ((c : Int) - 97)) a = a * k ^ w.length + numW k w := by
    intro w
    induction w with
    | nil => intro a; simp [numW]
    | cons b r ih =>
      intro a
      have h2 : numW k (b :: r) = (0 * k + ((b : Int) - 97)) * k ^ r.length + numW k r := by
        show r.foldl _ _ = _
        rw [ih]
      show r.foldl _ (a * k + ((b : Int) - 97)) = _
      rw [ih, h2, List.length_cons, Int.pow_succ]
      rw [Int.add_mul, Int.add_mul]
      rw [show a * (k ^ r.length * k) = a * k * k ^ r.length by rw [Int.mul_assoc, Int.mul_comm (k ^ r.length)]]
      omega
  show w.foldl _ (0 * k + ((c : Int) - 97)) = _
  rw [this]
  simp
theorem numW_word {k : Int} (hk : 1 ≤ k) : ∀ (n : Nat) (w : List Nat), w.length = n → Lets k w → 0 ≤ numW k w ∧ numW k w < k ^ n ∧ wordN k n (numW k w) = w
  | 0, w, h, _ => by
    have : w = [] := List.length_eq_zero_iff.mp h
    subst this
    simp [wordN]
  | n + 1, w, h, hl => by
    have hne : w ≠ [] := by intro z; subst z; simp at h
    have e := List.dropLast_concat_getLast hne
    have h1 : w.dropLast.length = n := by rw [List.length_dropLast, h]; rfl
    have h2 : Lets k w.dropLast := fun x hx => hl x (List.dropLast_subset w hx)
    have h3 := hl _ (List.getLast_mem hne)
    generalize w.getLast hne = c at e h3
    generalize w.dropLast = v at e h1 h2
    subst e
    obtain ⟨a1, a2, a3⟩ := numW_word hk n v h1 h2
    rw [numW_app]
    have e1 : (numW k v * k + ((c : Int) - 97)) / k = numW k v := by
      rw [Int.add_comm, Int.add_mul_ediv_right _ _ (by omega), Int.ediv_eq_zero_of_lt (by omega) (by omega)]
      omega
    have e2 : (numW k v * k + ((c : Int) - 97)) % k = (c : Int) - 97 := by
      rw [Int.add_comm, Int.add_mul_emod_self_right, Int.emod_eq_of_lt (by omega) (by omega)]
    refine ⟨?_, ?_, ?_⟩
    · have := Int.mul_nonneg a1 (show 0 ≤ k by omega)
      omega
    · rw [Int.pow_succ]
      have : numW k v * k ≤ (k ^ n - 1) * k := Int.mul_le_mul_of_nonneg_right (by omega) (by omega)
      rw [Int.sub_mul] at this
      omega
    · rw [wordN, e1, e2, a3]
      congr 2
      omega
@[simp] theorem rng3_i (i j : Int) (h : fit62 i) (h2 : fit62 j) : rng3 [.int i, .int j, .int (-1)] = .ok (downD i j) := by unfold rng3; simp [h, h2]
theorem eqD_ok (d e : D) : eqD d e = if dep d ≤ 64 ∧ dep e ≤ 64 then .ok (.bl (eqv d e)) else .bad := rfl
theorem neD_ok (d e : D) : neD d e = if dep d ≤ 64 ∧ dep e ≤ 64 then .ok (.bl (!eqv d e)) else .bad := rfl
end
end Z
namespace Z
noncomputable section
open PySem PySem.Spec PySem.P PyProof.Rows L2
/-! ### raise -/
def sRaise (c : Nat) : SS → RS := fun s => .ex c [] s
theorem s_raise {X : Cx} {C : CT} {W : WX} {x m : Str} {j c : Nat} {B newId initId : String} {bmB : List Value} {D : Addr} {p p2 pos pos' : Pos} (v : Pl X C W) (F : ExcBaseFacts B newId initId bmB) (q : PySem.W.excIn X.K D bmB newId = true) (gC : X.mg x = some (.ref D))
    (kC : PySem.W.keepIn X.K (.ref D) = true) (r : Raises X (.ref D)) (hx : C.G.xcl c = some (D, [])) (hg : Gl X x) (hdb : (x == ("__debug__" : Str)) = false := by decide) :
    PS X (.Raise (some (.Call (.Name x p) [.Constant (.str m) j p2] [] pos)) none pos') (tS C W (sRaise c)) :=
  ps_imp (ps_raise v.calm v.tk (pmk_own F q gC kC r hg hdb)) fun En σ H ⟨F, sd, S, h⟩ => h (.ref D) none F H σ S (Same.refl F) Lk.refl ⟨D, [], hx, rfl, .inl ⟨rfl, rfl, rfl⟩⟩
/-! ### try: body, except x as n: suite; the exception is kept -/
section
variable {X : Cx} {pins : List (Addr × Obj)} {σ : L2.St} {H : Hp} {s : Shared}
/-- the place of an except suite -/
abbrev suit (X : Cx) (a : Addr) (pn : List (Addr × Obj)) : Cx := { X with A := X.A.mark (some (.ref a)), calm := false, pn := pn, xe := fun _ _ => False }
theorem suit_ok (ok : X.Ok) (a : Addr) (pn : List (Addr × Obj)) : (suit X a pn).Ok :=
  ⟨ok.mod, ok.kind, ok.glob, ok.blt, ok.above, ok.inj, ok.has, ok.cab, (fun z => absurd (show false = true from z) Bool.false_ne_true), ok.frames, ok.stk, ok.exf, ok.bs, ok.bsz, ok.noex, ok.exfs, ok.funs, ok.frf⟩
/-- the caught object becomes a known thing -/
theorem inv_suit (I : Inv X pins σ H s) {a : Addr} {oe : Obj} {vs : Array Value} {cls : Value} {dx : Option Addr} (ha : s.heap.get? a = some oe) (hd : oe.data = .fields vs) (hz : Zc cls dx oe) (na : H a = none) (nL : a ≠ X.env.locals)
    (nP : ∀ p ∈ X.pn ++ pins, p.1 ≠ a) (n0 : X.s_0.heap.get? a = none) : Inv (suit X a (X.pn ++ pins)) [] σ (upd H a (exo a cls dx)) s := by
  have ne : ∀ {b : Addr} {u : HO}, H b = some u → b ≠ a := fun h => ne_of_none h na
  refine ⟨suit_ok I.ok _ _, I.os, I.bare, ⟨I.base.keep, I.base.slot, fun b o e n hx => ?_, I.base.there, fun b xs e => ?_, fun b o u e => ?_, fun b ps e => ?_⟩, I.loc, I.cell, ?_, fun x c e => ?_, fun p hp => ?_, fun b u e => ?_, I.len⟩
  · have hb : b ≠ a := fun z => by subst z; rw [n0] at e; cases e
    rw [upd_ne hb]
    exact I.base.free b o e n hx
  · have q := I.base.tups b xs e
    rw [upd_ne (ne q)]
    exact q
  · have q := I.base.frzs b o u e
    rw [upd_ne (ne q)]
    exact q
  · obtain ⟨more, q⟩ := I.base.tbls b ps e
    exact ⟨more, by rw [upd_ne (ne q)]; exact q⟩
  · show upd H a (exo a cls dx) X.env.locals = none
    rw [upd_ne (Ne.symm nL)]
    exact I.free
  · have hc : c ≠ a := fun z => by
      subst z
      obtain ⟨v, o, q1, q2⟩ := I.cell x c e
      rw [ha] at q1
      cases q1
      rw [hd] at q2
      cases q2
    show upd H a (exo a cls dx) c = none
    rw [upd_ne hc]
    exact I.freeC x c e
  · have hp' : p ∈ X.pn ++ pins := by rw [List.append_nil] at hp; exact hp
    obtain ⟨q1, q2, q3, q4, q5⟩ := I.pin p hp'
    exact ⟨q1, by rw [upd_ne (nP p hp')]; exact q2, q3, q4, q5⟩
  · by_cases hb : b = a
    · subst hb
      rw [upd_same] at e
      cases e
      exact ⟨⟨oe, vs, ha, hz, hd⟩, ⟨oe, ha⟩, fun h1 h2 ⟨o1, v1, q1, q2, q3⟩ k => ⟨o1, v1, k _ q1, q2, q3⟩⟩
    · rw [upd_ne hb] at e
      exact (I.hok b u e).stay (fun c w' hc q => q) (fun c q => by rw [upd_ne (ne q)]; exact q) fun c xs q => by rw [upd_ne (ne q)]; exact q
theorem inv_unsuit {a : Addr} {pn' : List (Addr × Obj)} (I : Inv (suit X a (X.pn ++ pins)) pn' σ H s) (ok : X.Ok) : Inv X pins σ H s :=
  ⟨ok, I.os, I.bare, I.base, I.loc, I.cell, I.free, I.freeC, fun p hp => I.pin p (List.mem_append_left _ hp), I.hok, I.len⟩
/-- what the clause wishes -/
def wEx (K : PySem.W.Frag) (c : Value) (i : Nat) (ts : TS) (Wout : WX) (D : Ends) : WX := fun cls d σ H =>
  ∃ b, PySem.W.exmOne K cls c = some b ∧ (b = true → ∀ a, H a = none → ts { nx := fun σ' H' => D.nx (σ'.set i none) H', rt := D.rt, bk := fun σ' H' => D.bk (σ'.set i none) H', ct := fun σ' H' => D.ct (σ'.set i none) H' } (σ.set i (some (.ref a))) (upd H a (exo a cls d))) ∧
    (b = false → Wout cls d σ H)
end
section
variable {X : Cx} {x n : Str} {c : Value} {i : Nat} {body suite : List Stmt} {b₀ : Stmt} {np pos pos' : Pos} {tb : WX → TS} {ts : TS} {Wout : WX}
theorem ps_try_exo (hs : X.stack = X.env :: X.outer) (hf : X.env.frame = some X.env.locals) (hex : X.ex = []) (hN : X.N.Nodup) (hi : X.N[i]? = some n) (hln : X.env.kindOf n = some .local) (hc : Names X x c) (tk : Takes X Wout)
    (hb : ∀ (W : WX) (pn : List (Addr × Obj)) (xe : Value → Shared → Prop), Takes (X.tr pn xe) W → PassesOwn (model X.prog X.w) X.A X.env xe → PSs (X.tr pn xe) body (tb W))
    (hsu : ∀ (a : Addr) (pn : List (Addr × Obj)), PSs (suit X a pn) (b₀ :: suite) ts) :
    PS X (.Try body [.ExceptHandler (some (.Name x np)) (some n) (b₀ :: suite) pos'] [] [] pos) (fun D σ H => tb (wEx X.K c i ts Wout D) D σ H) := by
  refine ⟨fun pins s σ H D I h => ?_⟩
  have ok := I.ok
  have hfr : X.A.frames = some (X.env :: X.outer) := by rw [ok.frames, hs]
  have hloc : Loc X.env.scope n := .inl hln
  refine wpAny_Try_except ?_
  refine wpAny_mono ((hb (wEx X.K c i ts Wout D) (X.pn ++ pins) (fun e s₁ => wpAny (model X.prog X.w) X.A (noteFrame e X.env) (fun _ s₂ => wpAny (model X.prog X.w) X.A (setFlight e none) (fun _ s₃ =>
    wpAny (model X.prog X.w) X.A (handleBy e X.env [.ExceptHandler (some (.Name x np)) (some n) (b₀ :: suite) pos']) (SP X pins D) X.xe s₃) X.xe s₂) X.xe s₁) (fun u s' xx => ?_) PassesOwn.looking).run [] s σ H D (I.toTry _) h) (fun f s1 hsp => ?_) (fun e s1 he => he)
  · obtain ⟨a, B, sI, pins', σ', H', cls, d, rfl, J', nb, up, sky, na, os, ag, b, hb1, hyes, hno⟩ := xx
    have J : Inv X pins σ' H' sI := J'.ofTry ok
    have sky' : Sky B (X.env :: X.outer) a (Zc cls d) X.env.locals s'.heap := by rw [← hs]; exact sky
    show wpAny (model X.prog X.w) X.A (noteFrame (.ref a) X.env) _ _ _
    refine Sky.land Zc.steady hfr hf sky' fun h3 fl3 up3 => ?_
    have J3 : Inv X pins σ' H' { s' with heap := h3 } := J.landed nb fl3.1 (up.trans up3) os ag
    obtain ⟨oe3, vs3, he3, hz3, hd3⟩ := fl3.there
    have notFr : ∀ {h : Heap} {o : Obj} {vs : Array Value}, h.FunFrames B (X.env :: X.outer) → h.get? a = some o → o.data = .fields vs → a ∉ frs (X.env :: X.outer) := fun {h o vs} ff e dd hm => by
      obtain ⟨_, o', e', hnf⟩ := ff.mem hm
      rw [e] at e'; cases e'
      exact hnf _ dd
    have nfr := notFr fl3.2.2.1 he3 hd3
    have nL : a ≠ X.env.locals := fun z => nfr (List.mem_filterMap.mpr ⟨X.env, List.mem_cons_self, by rw [hf, z]⟩)
    have nI : sI.heap.get? a = none := by
      cases q : sI.heap.get? a with
      | none => rfl
      | some o =>
        have := nb a o q (by rw [hs]; exact nfr)
        rw [fl3.2.1] at this
        cases this
    have n0 : X.s_0.heap.get? a = none := by
      cases q : X.s_0.heap.get? a with
      | none => rfl
      | some o =>
        obtain ⟨o', q'⟩ := J.base.there a o q (by rw [hex]; intro z; cases z)
        rw [nI] at q'
        cases q'
    have nP : ∀ p ∈ X.pn ++ pins, p.1 ≠ a := fun p hp z => by
      obtain ⟨q1, _⟩ := J.pin p hp
      rw [z, nI] at q1
      cases q1
    have S3 := inv_suit J3 he3 hd3 hz3 na nL nP n0
    refine wpAny_handleBy_cons (codeAny_handlers_test ?_) (by intro q; cases q)
    have LT : PySem.W.Looks (model X.prog X.w) h3 (typeOf (.ref a)) cls := fun A Q E s k q => wpAny_typeOf_ref (k _ _ he3) (by rw [hz3.1]; exact q)
    have LM := PySem.W.exm_one (M := model X.prog X.w) (J3.kIn) LT hb1
    have test : ∀ {Q : Value → Shared → Prop} {E : Value → Shared → Prop}, Q c { s' with heap := h3 } → wpAny (model X.prog X.w) (X.A.mark (some (.ref a))) (eval (.Name x np) X.env) Q E { s' with heap := h3 } := fun {Q E} q => by
      obtain ⟨hg, hdbg, hm | ⟨hm, hv, hnn⟩⟩ := hc
      · exact ld_glob (X := suit X a (X.pn ++ pins)) S3 hg hm q hdbg
      · exact ld_blt (X := suit X a (X.pn ++ pins)) S3 hg hm hv q hnn hdbg
    refine test (LM.here ?_)
    cases b with
    | true =>
      refine codeAny_handlers_suite_as ?_
      refine HandSPX.lands_againZ fl3 fun h4 fl4 up4 => ?_
      have J4 : Inv X pins σ' H' { s' with heap := h4 } := J.landed nb fl4.1 ((up.trans up3).trans up4) os ag
      obtain ⟨oe4, vs4, he4, hz4, hd4⟩ := fl4.there
      have S4 := inv_suit J4 he4 hd4 hz4 na nL nP n0
      refine store_ok (X := suit X a (X.pn ++ pins)) (v := .ref a) S4 hN hi hloc rfl (fun s5 S5 => ?_) (.inr hln)
      refine wpAny_mono ((hsu a (X.pn ++ pins)).run [] s5 _ _ _ S5 (hyes rfl a na)) (fun f s6 hsp => ?_) (fun _ _ z => False.elim z)
      have end_ : ∀ {σ6 : L2.St} {H6 : Hp} {Q : Shared → Prop}, Inv (suit X a (X.pn ++ pins)) [] σ6 H6 s6 → (∀ s7, Inv X pins (σ6.set i none) H6 s7 → Q s7) →
          wpAny (model X.prog X.w) X.A (do bindName X.env n .none; unbindBehindTheSuite X.env n pos') (fun _ s7 => Q s7) X.xe s6 := fun {σ6 H6 Q} S6 hq => gone_ok (inv_unsuit S6 ok) hN hi hln hq
      cases f with
      | next =>
        obtain ⟨σ6, H6, S6, q6⟩ := hsp
        exact end_ S6 fun s7 J7 => ⟨_, _, J7, q6⟩
      | brk =>
        obtain ⟨σ6, H6, S6, q6⟩ := hsp
        exact end_ S6 fun s7 J7 => ⟨_, _, J7, q6⟩
      | cont =>
        obtain ⟨σ6, H6, S6, q6⟩ := hsp
        exact end_ S6 fun s7 J7 => ⟨_, _, J7, q6⟩
      | ret u =>
        obtain ⟨v6, σ6, H6, S6, r6, q6⟩ := hsp
        exact end_ S6 fun s7 J7 => ⟨_, _, _, J7, r6, q6⟩
    | false =>
      show wpAny _ X.A (handleBy (.ref a) X.env []) _ _ _
      refine wpAny_handleBy_nil ?_
      obtain ⟨k1, k2, k3, oe, vs, T, oT, ts', he, hz, hd, h1, hr⟩ := id fl3
      unfold PySem.passOn
      refine wpAny_bind (wpAny_field he hd h1 ?_)
      rw [if_neg (show ¬ ((Value.ref T == Value.none) = true) from by simp)]
      have fin : wpAny (model X.prog X.w) X.A (setFlight (.ref a) X.env.frame) (fun _ s4 => wpAny (model X.prog X.w) X.A (throw (.ref a) : Sem Flow) (SP X pins D) X.xe s4) X.xe { s' with heap := h3 } := by
        rw [hf]
        refine HandSPX.setFlight_upZ fl3 fun h4 hh4 up4 => wpAny_throw (tk _ _ ?_)
        exact ⟨a, B, sI, pins, σ', H', cls, d, rfl, J, nb, (up.trans up3).trans up4, .inr (.inr (by rw [hs]; exact hh4)), na, os, ag, hno rfl⟩
      first
        | exact wpAny_bind (wpAny_pure (wpAny_bind fin))
        | exact wpAny_bind fin
  · cases f with
    | next =>
      obtain ⟨σ', H', J', q⟩ := hsp
      exact wpAny_execs_nil ⟨σ', H', J'.ofTry ok, q⟩
    | brk =>
      obtain ⟨σ', H', J', q⟩ := hsp
      exact ⟨σ', H', J'.ofTry ok, q⟩
    | cont =>
      obtain ⟨σ', H', J', q⟩ := hsp
      exact ⟨σ', H', J'.ofTry ok, q⟩
    | ret u =>
      obtain ⟨v, σ', H', J', r, q⟩ := hsp
      exact ⟨v, σ', H', J'.ofTry ok, r, q⟩
end
/-! ### classes of exceptions: number 0 is the one over all -/
def isX (c k : Nat) : Bool := c == k || k == 0
def wipeR (i : Nat) : RS → RS
  | .nx s => .nx (s.set i .no)
  | .bk s => .bk (s.set i .no)
  | .ct s => .ct (s.set i .no)
  | .rt b d => .rt b d
  | .ex _ _ _ => .bad
  | .rm _ _ => .bad
  | .rn _ _ => .bad
  | .bad => .bad
def catchR (i k : Nat) (fsu : SS → RS) : RS → RS
  | .ex c vs s => if isX c k = true then (match setS s i (.sh (.exc c vs)) with
    | some s2 => wipeR i (fsu s2)
    | none => .bad) else .ex c vs s
  | r => r
def sTry (i k : Nat) (fb fsu : SS → RS) : SS → RS := fun s => catchR i k fsu (fb s)
theorem StR.wipe1 {C : CT} {F H : Hp} {s : SS} {σ : L2.St} {i : Nat} (S : StR C F H s σ) : StR C F H (s.set i .no) (σ.set i none) := by
  have ne : ∀ {j : Nat} {x : Sl}, x ≠ .no → (s.set i .no)[j]? = some x → i ≠ j ∧ s[j]? = some x := fun {j x} hx h => by
    by_cases hij : i = j
    · subst hij
      by_cases hl : i < s.length
      · rw [List.getElem?_set_self hl] at h; cases h; exact (hx rfl).elim
      · rw [List.getElem?_eq_none (by simpa using hl)] at h; cases h
    · rw [List.getElem?_set_ne hij] at h
      exact ⟨hij, h⟩
  have ne2 : ∀ {j : Nat} {d : D}, (s.set i .no)[j]? = some (.ow d) ∨ (s.set i .no)[j]? = some (.lk d) → i ≠ j ∧ (s[j]? = some (.ow d) ∨ s[j]? = some (.lk d)) := fun {j d} h => by
    rcases h with h | h
    · exact ⟨(ne (by intro z; cases z) h).1, .inl (ne (by intro z; cases z) h).2⟩
    · exact ⟨(ne (by intro z; cases z) h).1, .inr (ne (by intro z; cases z) h).2⟩
  refine ⟨S.ext, by rw [List.length_set, List.length_set]; exact S.len, fun j d q => ?_, fun j d q => ?_, fun j k d e a q1 q2 q3 q4 => ?_, S.nt.step (fun j k d q => ?_) (fun j k l q => ?_) (fun j e b q z => ?_) (Same.refl F) fun b o z1 z2 _ => ⟨z1, z2⟩⟩
  · obtain ⟨h1, h2⟩ := ne (by intro z; cases z) q
    rw [List.getElem?_set_ne h1]
    exact S.sh j d h2
  · obtain ⟨h1, h2⟩ := ne2 q
    rw [List.getElem?_set_ne h1]
    exact S.ow j d h2
  · obtain ⟨h1, h2⟩ := ne2 q1
    obtain ⟨h3, h4⟩ := ne2 q2
    rw [List.getElem?_set_ne h1] at q3
    rw [List.getElem?_set_ne h3] at q4
    exact S.dis j k d e a h2 h4 q3 q4
  · obtain ⟨h1, h2⟩ := ne (by intro z; cases z) q
    rw [List.getElem?_set_ne h1]
    exact ⟨h2, rfl⟩
  · obtain ⟨h1, h2⟩ := ne (by intro z; cases z) q
    rw [List.getElem?_set_ne h1]
    exact ⟨h2, rfl⟩
  · obtain ⟨h1, h2⟩ := ne2 q
    rw [List.getElem?_set_ne h1] at z
    exact .inl ⟨j, e, h2, z⟩
theorem s_try {X : Cx} {C : CT} {W : WX} {x n : Str} {D : Addr} {body suite : List Stmt} {b₀ : Stmt} {np pos pos' : Pos} {fb fsu : SS → RS} (v : Pl X C W) (i k : Nat) (hN : X.N.Nodup) (hc : Names X x (.ref D))
    (he : ∀ c A ns, C.G.xcl c = some (A, ns) → PySem.W.exmOne X.K (.ref A) (.ref D) = some (isX c k))
    (hb : ∀ (W' : WX) (pn : List (Addr × Obj)) (xe : Value → Shared → Prop), Pl (X.tr pn xe) C W' → PSs (X.tr pn xe) body (tS C W' fb))
    (hsu : ∀ (a : Addr) (pn : List (Addr × Obj)), PSs (suit X a pn) (b₀ :: suite) (tS C WNo fsu))
    (hs : X.stack = X.env :: X.outer := by rfl) (hf : X.env.frame = some X.env.locals := by rfl) (hex : X.ex = [] := by rfl) (hi : X.N[i]? = some n := by rfl) (hln : X.env.kindOf n = some .local := by rfl) :
    PS X (.Try body [.ExceptHandler (some (.Name x np)) (some n) (b₀ :: suite) pos'] [] [] pos) (tS C W (sTry i k fb fsu)) := by
  refine ps_imp (ps_try_exo (i := i) (tb := fun W' => tS C W' fb) hs hf hex hN hi hln hc v.tk (fun W' pn xe tk ps => hb W' pn xe ⟨⟨v.K, v.hu, tk, ps⟩, v.calm⟩) hsu) fun En σ H ⟨F, sd, S, h⟩ => ?_
  refine ⟨F, sd, S, ?_⟩
  unfold sTry at h
  cases q : fb sd with
  | nx s' => rw [q] at h; exact h
  | bk s' => rw [q] at h; exact h
  | ct s' => rw [q] at h; exact h
  | rt b d => rw [q] at h; cases b <;> exact h
  | rm d s' => rw [q] at h; exact h
  | rn j s' => rw [q] at h; exact h
  | bad => rw [q] at h; exact h.elim
  | ex c vs s' =>
    rw [q] at h
    intro cls dx F' H' σ' S' f' l' xr
    obtain ⟨A, ns, hx, rfl, hxd⟩ := xr
    refine ⟨isX c k, he c A ns hx, fun hyes a na => ?_, fun hno => ?_⟩
    · have h : PostS C W F sd σ En (if isX c k = true then (match setS s' i (.sh (.exc c vs)) with | some s2 => wipeR i (fsu s2) | none => .bad) else .ex c vs s') := h
      rw [if_pos hyes] at h
      cases q2 : setS s' i (.sh (.exc c vs)) with
      | none => rw [q2] at h; exact h.elim
      | some s2 =>
        rw [q2] at h
        dsimp only at h
        have e1 : Ext F' H' (upd F' a (exo a (.ref A) dx)) (upd H' a (exo a (.ref A) dx)) := Ext.new S'.fh na
        have fa : F' a = none := S'.fh.free na
        have rr : Rep C.G (upd F' a (exo a (.ref A) dx)) (.exc c vs) (.ref a) := by
          unfold Rep
          refine ⟨a, A, ns, dx, rfl, hx, upd_same, ?_⟩
          rcases hxd with ⟨h1, h2, h3⟩ | ⟨d, fs, h1, h2, h3, h4⟩
          · exact .inl ⟨h1, h2, h3⟩
          · exact .inr ⟨d, fs, h1, e1.ff _ _ h2, h3, RepL.mono e1.ff h4⟩
        have S2 := (S'.mono e1).setSh q2 rr
        have l2 : Lk sd σ s2 (σ'.set i (some (.ref a))) := l'.trans (lk_set q2)
        obtain ⟨es2, hil, hnl⟩ := setS_some q2
        have lw : ∀ {s3 : SS} {σ3 : L2.St}, Lk s2 (σ'.set i (some (.ref a))) s3 σ3 → Lk sd σ (s3.set i .no) (σ3.set i none) := fun {s3 σ3} l3 j x e k => by
          obtain ⟨⟨d1, g1, gl1⟩, g2⟩ := l' j x e k
          have hij : i ≠ j := fun z => by
            subst z
            have := hnl d1 g1
            rw [gl1.lk] at this
            cases this
          obtain ⟨⟨d2, g3, gl2⟩, g4⟩ := l3 j d1 (by rw [es2, List.getElem?_set_ne hij]; exact g1) gl1.lk
          rw [List.getElem?_set_ne hij, List.getElem?_set_ne hij]
          exact ⟨⟨d2, g3, gl1.trans gl2⟩, by rw [g4, List.getElem?_set_ne hij]; exact g2⟩
        refine ⟨_, s2, S2, ?_⟩
        cases q3 : fsu s2 with
        | nx s3 =>
          rw [q3] at h
          exact fun F3 H3 σ3 S3 f3 l3 => h F3 H3 _ S3.wipe1 (f'.trans (e1.ff.trans f3)) (lw l3)
        | bk s3 =>
          rw [q3] at h
          exact fun F3 H3 σ3 S3 f3 l3 => h F3 H3 _ S3.wipe1 (f'.trans (e1.ff.trans f3)) (lw l3)
        | ct s3 =>
          rw [q3] at h
          exact fun F3 H3 σ3 S3 f3 l3 => h F3 H3 _ S3.wipe1 (f'.trans (e1.ff.trans f3)) (lw l3)
        | rt b d =>
          rw [q3] at h
          cases b with
          | false => exact fun v F3 H3 x3 f3 => h v F3 H3 x3 (f'.trans (e1.ff.trans f3))
          | true => exact fun v F3 H3 x3 f3 => h v F3 H3 x3 (f'.trans (e1.ff.trans f3))
        | ex c2 vs2 s3 => rw [q3] at h; exact h.elim
        | rm d s3 => rw [q3] at h; exact h.elim
        | rn j s3 => rw [q3] at h; exact h.elim
        | bad => rw [q3] at h; exact h.elim
    · have h : PostS C W F sd σ En (if isX c k = true then (match setS s' i (.sh (.exc c vs)) with | some s2 => wipeR i (fsu s2) | none => .bad) else .ex c vs s') := h
      rw [if_neg (by rw [hno]; exact Bool.false_ne_true)] at h
      exact h _ _ _ _ _ S' f' l' ⟨A, ns, hx, rfl, hxd⟩
/-! ### isinstance of a kept exception -/
structure XCl (K : PySem.W.Frag) (D : Addr) : Prop where
  cl : PySem.W.isClsIn K D = true
  hg : PySem.W.findIn K (.ref D) "__getattribute__" = some (some (.builtin "BaseException.__getattribute__"))
  hk : PySem.W.findIn K (.ref D) "__getattr__" = some none
  hs : PySem.W.subIn K (.ref D) (.type "BaseException") = some true
  ha : PySem.W.findIn K (.ref D) "__class__" = some (some (.builtin "object.__class__"))
  hn : PySem.W.specialIn K (.builtin "object.__class__") "__get__" = some (some (.builtin "getset_descriptor.__get__"))
  ht : PySem.W.takesIn K (.builtin "object.__class__") = some true
  hm : PySem.W.mroIn K D (.type "object") = some true
section
variable {X : Cx} {C : CT} {W : WX}
/-- the thing that is asked about: an exception, or None -/
def Asked (K : PySem.W.Frag) (H : Hp) (x : V) (t : Value) : Prop := (x = .non ∧ t = .type "NoneType") ∨ ∃ a A dx, x = .ref a ∧ t = .ref A ∧ H a = some (exo a (.ref A) dx) ∧ XCl K A ∧ (dx = none ∨ ∃ d fs, dx = some d ∧ H d = some (.xd fs))
theorem asked_kit {pins : List (Addr × Obj)} {s : Shared} {σ : L2.St} {H : Hp} {x : V} {u t : Value} (I : Inv X pins σ H s) (rx : RelV x u) (h : Asked X.K H x t) : ∃ P : Heap → Prop, PySem.W.KitX X.K u t P ∧ P s.heap ∧ u ≠ .builtin "__main__.__loader__#opaque" := by
  rcases h with ⟨rfl, rfl⟩ | ⟨a, A, dx, rfl, rfl, ha, Z, hd⟩
  · cases (show u = Value.none from rx)
    exact ⟨_, PySem.W.kitx_none, True.intro, fun z => nomatch z⟩
  · cases (show u = Value.ref a from rx)
    obtain ⟨⟨oe, vs, h1, ⟨h2, h3⟩, h4⟩, _, _⟩ := (show ObjOk X.prog X.w H s.heap a (exo a (.ref A) dx) from I.hok a _ ha)
    have hcl : (PySem.W.clsIn X.K A).isSome = true := Z.cl
    rcases hd with rfl | ⟨d, fs, rfl, hd⟩
    · refine ⟨_, PySem.W.kitx_exc (ox := oe) (od := none) hcl Z.hg Z.hk Z.hs Z.ha Z.hn Z.ht Z.hm, ?_, fun z => nomatch z⟩
      refine ⟨h1, h2, ?_, ?_⟩
      · unfold PySem.W.notCls; rw [h4]
      · rw [h3]; trivial
    · obtain ⟨mA, ⟨od, _, _, h5, _⟩, _⟩ := (show ObjOk X.prog X.w H s.heap d (.xd fs) from I.hok d _ hd)
      refine ⟨_, PySem.W.kitx_exc (ox := oe) (od := some od) hcl Z.hg Z.hk Z.hs Z.ha Z.hn Z.ht Z.hm, ?_, fun z => nomatch z⟩
      refine ⟨h1, h2, ?_, ?_⟩
      · unfold PySem.W.notCls; rw [h4]
      · rw [h3]; exact h5
def rIsX (K : PySem.W.Frag) : List V → Hp → VK → Prop := fun xs H Q => ∃ (x c : V) (t u : Value) (b : Bool), xs = [x, c] ∧ ClsV c u ∧ Asked K H x t ∧ PySem.W.kitOne K t u = some b ∧ Q (.bl b) H
def rIsXT (K : PySem.W.Frag) : List V → Hp → VK → Prop := fun xs H Q => ∃ (x : V) (tp : Addr) (cs : List V) (t : Value) (us : List Value) (b : Bool), xs = [x, .ref tp] ∧ H tp = some (.tup cs) ∧ Paired ClsV cs us ∧ Asked K H x t ∧ PySem.W.kitAny K t us = some b ∧ Q (.bl b) H
theorem call_isX : CallR X (.builtin "isinstance") (rIsX X.K) := by
  intro pins s σ H xs us Q I r h
  obtain ⟨x, c, t, u, b, rfl, k, ty, e, q⟩ := h
  obtain ⟨u1, u2, rfl, r1, r2⟩ := vals2 r
  have e2 := k.eq r2
  subst e2
  obtain ⟨P, Z, p, hx⟩ := asked_kit I r1 ty
  exact PySem.W.kia_one Z I.kIn p e hx fun tk => ⟨.bl b, H, I.tok tk, rfl, q⟩
theorem call_isXT : CallR X (.builtin "isinstance") (rIsXT X.K) := by
  intro pins s σ H xs us Q I r h
  obtain ⟨x, tp, cs, t, ws, b, rfl, hT, k, ty, e, q⟩ := h
  obtain ⟨u1, u2, rfl, r1, r2⟩ := vals2 r
  cases (show u2 = Value.ref tp from r2)
  obtain ⟨P, Z, p, hx⟩ := asked_kit I r1 ty
  obtain ⟨_, its, rv, o, h1, h2, n, h3⟩ := (show ObjOk X.prog X.w H s.heap tp (.tup cs) from I.hok tp _ hT)
  have e3 := ClsV.all k rv
  subst e3
  obtain ⟨oc, od, dt, sl⟩ := o
  simp only at h2 h3
  subst h2 h3
  exact PySem.W.kia_tup Z I.kIn p h1 e hx fun tk => ⟨.bl b, H, I.tok tk, rfl, q⟩
def isxD (k : Nat) : D → R D
  | .exc c _ => .ok (.bl (isX c k))
  | .non => .ok (.bl false)
  | _ => .bad
def isvD : D → R D
  | .exc _ _ => .ok (.bl true)
  | .non => .ok (.bl false)
  | _ => .bad
def isxsD (ks : List Nat) : D → R D
  | .exc c _ => .ok (.bl (ks.any (isX c)))
  | .non => .ok (.bl false)
  | _ => .bad
/-- what is known of the class that x names, number k, as one that is asked for -/
structure AskC (K : PySem.W.Frag) (mg : Str → Option Value) (G : GE) (x : Str) (k : Nat) : Prop where
  ex : ∃ D, mg x = some (.ref D) ∧ PySem.W.kitOne K (.type "NoneType") (.ref D) = some false ∧ ∀ c A ns, G.xcl c = some (A, ns) → PySem.W.kitOne K (.ref A) (.ref D) = some (isX c k)
/-- .. of ValueError -/
structure AskV (K : PySem.W.Frag) (mg : Str → Option Value) (G : GE) : Prop where
  nm : mg "ValueError" = none
  no : PySem.W.kitOne K (.type "NoneType") (.type "ValueError") = some false
  yes : ∀ c A ns, G.xcl c = some (A, ns) → PySem.W.kitOne K (.ref A) (.type "ValueError") = some true
/-- .. as one that is named in an except clause -/
structure CatC (K : PySem.W.Frag) (mg : Str → Option Value) (G : GE) (x : Str) (k : Nat) : Prop where
  ex : ∃ D, mg x = some (.ref D) ∧ ∀ c A ns, G.xcl c = some (A, ns) → PySem.W.exmOne K (.ref A) (.ref D) = some (isX c k)
/-- .. as one that is raised -/
structure RsC (K : PySem.W.Frag) (mg : Str → Option Value) (G : GE) (x : Str) (c : Nat) : Prop where
  ex : ∃ D, mg x = some (.ref D) ∧ PySem.W.excIn K D [.type "ValueError", .type "Exception", .type "BaseException", .type "object"] "ValueError.__new__" = true ∧ PySem.W.keepIn K (.ref D) = true ∧ PySem.W.subIn K (.ref D) (.type "BaseException") = some true ∧
    PySem.W.typeIn K (.ref D) = some (.type "type") ∧ G.xcl c = some (D, [])
section
variable {X : Cx} {C : CT} {W : WX}
theorem asked_of {F H : Hp} {v : V} {c : Nat} {ds : List D} (S : Same F H) (XB : ∀ c A ns, C.G.xcl c = some (A, ns) → XCl X.K A) (b : Bor C.G F H (.exc c ds) v) : ∃ A ns, C.G.xcl c = some (A, ns) ∧ Asked X.K H v (.ref A) := by
  rcases b with b | ⟨_, _, _, b⟩
  · unfold Rep at b
    obtain ⟨a, A, ns, dx, rfl, h1, h2, h3⟩ := b
    refine ⟨A, ns, h1, .inr ⟨a, A, dx, rfl, rfl, S _ _ h2, XB c A ns h1, ?_⟩⟩
    rcases h3 with ⟨_, h, _⟩ | ⟨d, fs, e1, e2, _⟩
    · exact .inl h
    · exact .inr ⟨d, fs, e1, S _ _ e2⟩
  · exact b.elim
variable {a : Expr} {es : List Expr} {fa : SS → R D} {pos p p2 : Pos} {y : Str} {k : Nat}
theorem s_isx (v : Pq X C W) (XB : ∀ c A ns, C.G.xcl c = some (A, ns) → XCl X.K A) (T : AskC X.K X.mg C.G y k) (hg : Gl X "isinstance") (hm : X.mg "isinstance" = none) (hgT : Gl X y) (ha : PE X a (tB C W fa)) (hdb : (y == ("__debug__" : Str)) = false := by decide)
    (he : starEach [a, .Name y p2] X.env = (false, eval a X.env) :: starEach [.Name y p2] X.env := by rfl) (he2 : starEach [.Name y p2] X.env = (false, eval (.Name y p2) X.env) :: starEach [] X.env := by rfl)
    (hpl : (backTo pos (starEach [.Name y p2] X.env)).any (·.1) = false := by rfl) : PE X (.Call (.Name "isinstance" p) [a, .Name y p2] [] pos) (tD C W (eUn (isxD k) fa)) := by
  obtain ⟨D, hD, hno, hyes⟩ := T.ex
  refine pe_imp (pe_callB call_isX hg hm (by decide +kernel) (pa_cons ha (pa_cons (pe_glob (v := .ref D) hgT hD rfl hdb) pa_nil he2) he) (by decide) (by decide) he hpl) fun σ H Q ⟨F, sd, S, h⟩ => ?_
  refine ⟨F, sd, S, PostE.bind h fun d u F1 H1 e1 b1 h1 => ?_⟩
  unfold isxD at h1
  split at h1
  · obtain ⟨A, ns, hx, q⟩ := asked_of e1.fh XB b1
    exact ⟨u, .ref D, _, .ref D, _, rfl, .own D, q, hyes _ A ns hx, h1 _ F1 H1 (Ext.refl e1.fh) (rep_bl.mpr rfl)⟩
  · exact ⟨u, .ref D, _, .ref D, _, rfl, .own D, .inl ⟨bor_non b1, rfl⟩, hno, h1 _ F1 H1 (Ext.refl e1.fh) (rep_bl.mpr rfl)⟩
  · exact h1.elim
theorem s_isv (v : Pq X C W) (XB : ∀ c A ns, C.G.xcl c = some (A, ns) → XCl X.K A) (T : AskV X.K X.mg C.G) (hg : Gl X "isinstance") (hm : X.mg "isinstance" = none) (hgT : Gl X "ValueError") (ha : PE X a (tB C W fa))
    (he : starEach [a, .Name "ValueError" p2] X.env = (false, eval a X.env) :: starEach [.Name "ValueError" p2] X.env := by rfl) (he2 : starEach [.Name "ValueError" p2] X.env = (false, eval (.Name "ValueError" p2) X.env) :: starEach [] X.env := by rfl)
    (hpl : (backTo pos (starEach [.Name "ValueError" p2] X.env)).any (·.1) = false := by rfl) : PE X (.Call (.Name "isinstance" p) [a, .Name "ValueError" p2] [] pos) (tD C W (eUn isvD fa)) := by
  refine pe_imp (pe_callB call_isX hg hm (by decide +kernel) (pa_cons ha (pa_cons (pe_bltn (v := .ty "ValueError") hgT T.nm (by decide +kernel) rfl (by decide) (by decide)) pa_nil he2) he) (by decide) (by decide) he hpl) fun σ H Q ⟨F, sd, S, h⟩ => ?_
  refine ⟨F, sd, S, PostE.bind h fun d u F1 H1 e1 b1 h1 => ?_⟩
  unfold isvD at h1
  split at h1
  · obtain ⟨A, ns, hx, q⟩ := asked_of e1.fh XB b1
    exact ⟨u, .ty "ValueError", _, _, _, rfl, .ty _, q, T.yes _ A ns hx, h1 _ F1 H1 (Ext.refl e1.fh) (rep_bl.mpr rfl)⟩
  · exact ⟨u, .ty "ValueError", _, _, _, rfl, .ty _, .inl ⟨bor_non b1, rfl⟩, T.no, h1 _ F1 H1 (Ext.refl e1.fh) (rep_bl.mpr rfl)⟩
  · exact h1.elim
/-- a tuple of classes -/
structure ClsL (X : Cx) (C : CT) (es : List Expr) (ks : List Nat) : Prop where
  ex : ∃ Ds : List Addr, PA X es (fun _ H Q => Q (Ds.map V.ref) H) ∧ PySem.W.kitAny X.K (.type "NoneType") (Ds.map Value.ref) = some false ∧ Ds.length = ks.length ∧ ∀ c A ns, C.G.xcl c = some (A, ns) → PySem.W.kitAny X.K (.ref A) (Ds.map Value.ref) = some (ks.any (isX c))
theorem cl_nil : ClsL X C [] [] := ⟨[], pa_nil, rfl, rfl, fun _ _ _ _ => rfl⟩
theorem cl_cons {ks : List Nat} (T : AskC X.K X.mg C.G y k) (hgT : Gl X y) (r : ClsL X C es ks) (hdb : (y == ("__debug__" : Str)) = false := by decide)
    (he : starEach (.Name y p2 :: es) X.env = (false, eval (.Name y p2) X.env) :: starEach es X.env := by rfl) : ClsL X C (.Name y p2 :: es) (k :: ks) := by
  obtain ⟨D, hD, hno, hyes⟩ := T.ex
  obtain ⟨Ds, h1, h2, h3, h4⟩ := r.ex
  refine ⟨D :: Ds, pa_cons (pe_glob (v := .ref D) hgT hD rfl hdb) h1 he, ?_, by simp [h3], fun c A ns hx => ?_⟩
  · show PySem.W.kitAny X.K (.type "NoneType") (.ref D :: Ds.map Value.ref) = _
    unfold PySem.W.kitAny
    rw [hno]
    exact h2
  · show PySem.W.kitAny X.K (.ref A) (.ref D :: Ds.map Value.ref) = _
    unfold PySem.W.kitAny
    rw [hyes c A ns hx, List.any_cons]
    cases isX c k with
    | true => rfl
    | false => exact h4 c A ns hx
theorem s_isxs {ks : List Nat} {tk : Nat} {tpos : Pos} (v : Pq X C W) (XB : ∀ c A ns, C.G.xcl c = some (A, ns) → XCl X.K A) (T : ClsL X C es ks) (hg : Gl X "isinstance") (hm : X.mg "isinstance" = none) (ha : PE X a (tB C W fa)) (hk : ks.length ≤ 100 := by decide)
    (he : starEach [a, .Tuple es tk tpos] X.env = (false, eval a X.env) :: starEach [.Tuple es tk tpos] X.env := by rfl) (he2 : starEach [.Tuple es tk tpos] X.env = (false, eval (.Tuple es tk tpos) X.env) :: starEach [] X.env := by rfl)
    (hpl : (backTo pos (starEach [.Tuple es tk tpos] X.env)).any (·.1) = false := by rfl) : PE X (.Call (.Name "isinstance" p) [a, .Tuple es tk tpos] [] pos) (tD C W (eUn (isxsD ks) fa)) := by
  obtain ⟨Ds, h1, h2, h3, h4⟩ := T.ex
  have pr : ∀ l : List Addr, Paired ClsV (l.map V.ref) (l.map Value.ref) := fun l => by
    induction l with
    | nil => exact .nil
    | cons a l ih => exact .cons (.own a) ih
  refine pe_imp (pe_callB call_isXT hg hm (by decide +kernel) (pa_cons ha (pa_cons (pe_tup h1) pa_nil he2) he) (by decide) (by decide) he hpl) fun σ H Q ⟨F, sd, S, h⟩ => ?_
  refine ⟨F, sd, S, PostE.bind h fun d u F1 H1 e1 b1 h1 => ?_⟩
  show (Ds.map V.ref).length ≤ sizeLine ∧ ∀ p, H1 p = none → _
  refine ⟨by rw [List.length_map, h3, sizeLine_eq]; omega, fun tp htp => ?_⟩
  have e2 := Ext.new (o := .tup (Ds.map V.ref)) e1.fh htp
  have b2 := b1.mono e2
  unfold isxsD at h1
  split at h1
  · obtain ⟨A, ns, hx, q⟩ := asked_of e2.fh XB b2
    exact ⟨u, tp, _, _, _, _, rfl, upd_same, pr Ds, q, h4 _ A ns hx, h1 _ _ _ e2 (rep_bl.mpr rfl)⟩
  · exact ⟨u, tp, _, _, _, _, rfl, upd_same, pr Ds, .inl ⟨bor_non b2, rfl⟩, h2, h1 _ _ _ e2 (rep_bl.mpr rfl)⟩
  · exact h1.elim
end
/-! ### where the classes stand -/
def xclOf (K : PySem.W.Frag) (tbl : List (Option (Str × List Str))) (c : Nat) : Option (Addr × List Str) := match tbl[c]? with
  | some (some (n, ns)) => (match PySem.W.nsIn K mainGlobals n with
    | some (some (.ref a)) => some (a, ns)
    | _ => none)
  | _ => none
theorem xcl_get {K : PySem.W.Frag} {tbl : List (Option (Str × List Str))} {c : Nat} {n : Str} {ns : List Str} {g : Addr} (h : tbl[c]? = some (some (n, ns))) (e : PySem.W.nsIn K mainGlobals n = some (some (.ref g))) : xclOf K tbl c = some (g, ns) := by
  unfold xclOf
  rw [h]
  dsimp only
  rw [e]
def xAll (K : PySem.W.Frag) (P : Nat → Addr → Prop) : Nat → List (Option (Str × List Str)) → Prop
  | _, [] => True
  | i, none :: r => xAll K P (i + 1) r
  | i, some (n, _) :: r => (∃ g, PySem.W.nsIn K mainGlobals n = some (some (.ref g)) ∧ P i g) ∧ xAll K P (i + 1) r
theorem xAll_get {K : PySem.W.Frag} {P : Nat → Addr → Prop} : ∀ {tbl : List (Option (Str × List Str))} {i c : Nat} {n : Str} {ns : List Str}, xAll K P i tbl → tbl[c]? = some (some (n, ns)) → ∃ g, PySem.W.nsIn K mainGlobals n = some (some (.ref g)) ∧ P (i + c) g
  | [], i, c, n, ns, _, h => by simp at h
  | none :: r, i, c, n, ns, x, h => by
    cases c with
    | zero => simp at h
    | succ c =>
      have := xAll_get (i := i + 1) (c := c) x (by simpa using h)
      rwa [show i + 1 + c = i + (c + 1) by omega] at this
  | some (m, ms) :: r, i, c, n, ns, x, h => by
    cases c with
    | zero =>
      simp at h
      obtain ⟨rfl, rfl⟩ := h
      exact x.1
    | succ c =>
      have := xAll_get (i := i + 1) (c := c) x.2 (by simpa using h)
      rwa [show i + 1 + c = i + (c + 1) by omega] at this
theorem xcl_all {K : PySem.W.Frag} {tbl : List (Option (Str × List Str))} {P : Nat → Addr → Prop} (x : xAll K P 0 tbl) : ∀ c A ns, xclOf K tbl c = some (A, ns) → P c A := fun c A ns h => by
  unfold xclOf at h
  split at h
  · rename_i n ms hn
    obtain ⟨g, e, p⟩ := xAll_get x hn
    rw [e] at h
    cases h
    rwa [Nat.zero_add] at p
  · cases h
end
end
end Z
namespace Z
noncomputable section
open PySem PySem.Spec PySem.P PyProof.Rows L2
section
variable {X : Cx} {C : CT} {W : WX} {a b c e : Expr} {fa fb fc fe fi f : SS → R D} {pos pos' p p2 apos : Pos} {x y : Str} {o : Expr}
/-! ### x[k] = e, x an own list -/
def putL (s : SS) (i : Nat) (xs : List D) (d k : D) : RS := match k with
  | .int n => (match ixN xs.length n with
    | some j => .nx (s.set i (.ow (.lst (xs.set j d))))
    | none => .bad)
  | _ => .bad
def sSetI (i : Nat) (fi fe : SS → R D) : SS → RS := fun s => match owL s i with
  | some xs => sE fe (fun d s => sE fi (fun k s => putL s i xs d k) s) s
  | none => .bad
theorem RepL.setI {G : GE} {F : Hp} : ∀ {ds : List D} {vs : List V} {j : Nat} {d : D} {v : V}, RepL G F ds vs → Rep G F d v → RepL G F (ds.set j d) (vs.set j v)
  | [], vs, j, d, v, r, h => by unfold RepL at r; subst r; exact RepL.nil
  | e :: ds, vs, j, d, v, r, h => by
    unfold RepL at r
    obtain ⟨u, t, rfl, h1, h2⟩ := r
    cases j with
    | zero => exact RepL.cons h h2
    | succ j => exact RepL.cons h1 (RepL.setI h2 h)
theorem s_seti (i : Nat) (hi : PE X b (tB C W fi)) (he : PE X e (tD C W fe)) (hN : X.N[i]? = some x := by rfl) (hv : Vis X.env.scope x := by first | exact Or.inl rfl | exact Or.inr (Or.inl rfl) | exact Or.inr (Or.inr rfl)) (hd : (x == ("__debug__" : Str)) = false := by decide)
    (hcd : (x == ("__classdict__" : Str)) = false := by decide)
    (ha : ∀ v, assign (.Subscript (.Name x p) b pos) X.env v = (do
      let ov ← holding [v] (eval (.Name x p) X.env)
      let iv ← holding [v, ov] (eval b X.env)
      standAt pos
      holding [v, ov, iv] (setItem ov iv v)
      release [v, ov, iv] []) := by intro _; rfl)
    (hs : swapsWithSole [.Subscript (.Name x p) b pos] e pos'.line X.env = pure false := by rfl) (hw : swappedStores [.Subscript (.Name x p) b pos] e X.env = pure none := by rfl)
    (h1 : (assignEach [.Subscript (.Name x p) b pos] X.env).map (·.2) = [assign (.Subscript (.Name x p) b pos) X.env] := by rfl) :
    PS X (.Assign [.Subscript (.Name x p) b pos] e pos') (tS C W (sSetI i fi fe)) := by
  refine ps_imp (ps_asg he (pg_sub (pe_var (i := i) hN hv hd hcd) hi set_list ha) hs hw h1) fun En σ H ⟨F, sd, S, h⟩ => ?_
  unfold sSetI at h
  split at h
  · rename_i xs hx
    have ho := owL_some hx
    refine ⟨F, sd, S, postS_E S h fun d v F1 H1 e1 p1 h1 => ?_⟩
    have S1 := S.mono e1
    obtain ⟨l, q2, q3, q4, vs, q5, q6⟩ := S1.ow i _ (.inl ho)
    refine ⟨_, q2, F1, sd, S1, postS_E S1 (PostS.mono e1.ff Lk.refl h1) fun k u F2 H2 e2 b2 h2 => ?_⟩
    have S2 := S1.mono e2
    obtain ⟨l2, r2, r3, r4, vs2, r5, r6⟩ := S2.ow i _ (.inl ho)
    rw [q2] at r2
    cases r2
    unfold putL at h2
    split at h2
    · rename_i n
      split at h2
      · rename_i j hj
        refine ⟨l, vs2, n, j, rfl, bor_int b2, r5, by rw [r6.length]; exact hj, ?_⟩
        refine h2 F2 _ σ (S2.upOw ho q2 ⟨_, upd_same, RepL.setI r6 (Rep.mono e2.ff p1)⟩) e2.ff (lk_ow ho)
      · exact h2.elim
    · exact h2.elim
  · exact h.elim
/-! ### x[k] = e, x an own dict -/
def owD (s : SS) (i : Nat) : Option (List Key × List D) := match s[i]? with
  | some (.ow (.dic ks vs)) => some (ks, vs)
  | _ => none
theorem owD_some {s : SS} {i : Nat} {ks : List Key} {vs : List D} (h : owD s i = some (ks, vs)) : s[i]? = some (.ow (.dic ks vs)) := by
  unfold owD at h
  split at h
  · rename_i e
    cases h
    exact e
  · cases h
def putDS (s : SS) (i : Nat) (ks : List Key) (vs : List D) (d k : D) : RS := match keyD k with
  | some j => if ks.length + 1 ≤ SZ then .nx (s.set i (.ow (.dic (putKs ks j) (putV ks vs j d)))) else .bad
  | none => .bad
def sPutD (i : Nat) (fi fe : SS → R D) : SS → RS := fun s => match owD s i with
  | some (ks, vs) => sE fe (fun d s => sE fi (fun k s => putDS s i ks vs d k) s) s
  | none => .bad
theorem put_keys {kvs : List (Key × V)} {k : Key} {v : V} : (putK kvs k v).map (·.1) = putKs (kvs.map (·.1)) k := by
  have e : has (kvs.map (·.1)) k = kvs.any fun kv => decide (kv.1 = k) := by
    unfold has
    rw [List.any_map]
    rfl
  unfold putK putKs
  rw [e]
  split
  · rw [List.map_map]
    refine List.map_congr_left fun kv _ => ?_
    show (if kv.1 = k then (kv.1, v) else kv).1 = kv.1
    split <;> rfl
  · simp
theorem put_nd {ks : List Key} {k : Key} (h : ks.Nodup) : (putKs ks k).Nodup := by
  unfold putKs
  split
  · exact h
  · rename_i q
    refine List.nodup_append.mpr ⟨h, by simp, fun a ha b hb => ?_⟩
    simp at hb
    subst hb
    intro z
    subst z
    exact q (List.any_eq_true.mpr ⟨_, ha, by simp⟩)
theorem put_same {kvs : List (Key × V)} {k : Key} {v : V} (h : k ∉ kvs.map (·.1)) : kvs.map (fun kv => if kv.1 = k then (kv.1, v) else kv) = kvs := by
  conv => rhs; rw [← List.map_id kvs]
  refine List.map_congr_left fun kv hkv => ?_
  rw [if_neg]
  · rfl
  · intro z
    exact h (by rw [← z]; exact List.mem_map_of_mem hkv)
theorem put_rep {G : GE} {F : Hp} {k : Key} {d : D} {v : V} (h : Rep G F d v) : ∀ {kvs : List (Key × V)} {ds : List D}, (kvs.map (·.1)).Nodup → RepL G F ds (kvs.map (·.2)) → RepL G F (putV (kvs.map (·.1)) ds k d) ((putK kvs k v).map (·.2))
  | [], ds, nd, r => by
    unfold RepL at r
    have : ds = [] := by
      cases ds with
      | nil => rfl
      | cons a l => obtain ⟨_, _, e, _⟩ := r; simp at e
    subst this
    exact RepL.cons h RepL.nil
  | p :: kvs, [], nd, r => by
    have := r.length
    simp at this
  | p :: kvs, e :: ds, nd, r => by
    simp only [List.map_cons] at r nd ⊢
    unfold RepL at r
    obtain ⟨u, t, eq, h1, h2⟩ := r
    injection eq with e1 e2
    subst e1 e2
    have nd2 := (List.nodup_cons.mp nd).2
    have ni := (List.nodup_cons.mp nd).1
    have ih := put_rep (k := k) h nd2 h2
    unfold putV
    by_cases hk : p.1 = k
    · rw [if_pos hk]
      unfold putK
      rw [List.any_cons, decide_eq_true hk, Bool.true_or, if_pos rfl, List.map_cons, if_pos hk, List.map_cons]
      rw [put_same (by rw [← hk]; exact ni)]
      exact RepL.cons h h2
    · rw [if_neg hk]
      have : putK (p :: kvs) k v = p :: putK kvs k v := by
        unfold putK
        rw [List.any_cons, decide_eq_false hk, Bool.false_or]
        split
        · rw [List.map_cons, if_neg hk]
        · rfl
      rw [this, List.map_cons]
      exact RepL.cons h1 ih
theorem s_putd (v : Pq X C W) (i : Nat) (hi : PE X b (tB C W fi)) (he : PE X e (tD C W fe)) (hN : X.N[i]? = some x := by rfl) (hv : Vis X.env.scope x := by first | exact Or.inl rfl | exact Or.inr (Or.inl rfl) | exact Or.inr (Or.inr rfl)) (hd : (x == ("__debug__" : Str)) = false := by decide)
    (hcd : (x == ("__classdict__" : Str)) = false := by decide) (hs : swapsWith e (some (.Subscript (.Name x p) b pos)) pos'.line X.env = pure false := by rfl) :
    PS X (.Assign [.Subscript (.Name x p) b pos] e pos') (tS C W (sPutD i fi fe)) := by
  refine ps_imp (ps_dput (by have := v.hu; omega) (pe_var (i := i) hN hv hd hcd) hi he hs) fun En σ H ⟨F, sd, S, h⟩ => ?_
  unfold sPutD at h
  split at h
  · rename_i ks ds hx
    have ho := owD_some hx
    refine ⟨F, sd, S, postS_E S h fun d v F1 H1 e1 p1 h1 => ?_⟩
    have S1 := S.mono e1
    obtain ⟨l, q2, q3, q4, kvs, q5, q6, q7, q8⟩ := S1.ow i _ (.inl ho)
    refine ⟨_, q2, F1, sd, S1, postS_E S1 (PostS.mono e1.ff Lk.refl h1) fun k u F2 H2 e2 b2 h2 => ?_⟩
    have S2 := S1.mono e2
    obtain ⟨l2, r2, r3, r4, kvs2, r5, r6, r7, r8⟩ := S2.ow i _ (.inl ho)
    rw [q2] at r2
    cases r2
    unfold putDS at h2
    split at h2
    · rename_i j hj
      split at h2
      · rename_i hz
        have hz : ks.length + 1 ≤ 16777216 := (sz_is ▸ hz)
        have hkl : kvs2.length < sizeLine := by
          rw [sizeLine_eq, ← List.length_map (f := (·.1)), r6]
          omega
        refine ⟨l, _, rfl, by rw [keyD_rep hj b2]; exact DPut.k r5 hkl, ?_⟩
        subst r6
        exact h2 F2 _ σ (S2.upOw ho q2 ⟨_, upd_same, put_keys, put_nd r7, put_rep (Rep.mono e2.ff p1) r7 r8⟩) e2.ff (lk_ow ho)
      · exact h2.elim
    · exact h2.elim
  · exact h.elim
end
/-! plain side -/
section
variable {s : SS} {fi fe : SS → R D}
def rSetI (s : SS) (i : Nat) (o : Option (List D)) (r ri : R D) : RS := match o with
  | some xs => rE s r fun d s => rE s ri fun k s => putL s i xs d k
  | none => .bad
@[simp] theorem sSetI_s (i : Nat) : sSetI i fi fe s = rSetI s i (getOw s[i]?) (fe s) (fi s) := by
  unfold sSetI
  rw [owL_s]
  cases getOw s[i]? with
  | none => rfl
  | some xs =>
    unfold rSetI
    dsimp only
    rw [sE_s]
    cases fe s <;> rfl
@[simp] theorem rSetI_ok (i : Nat) (xs : List D) (d k : D) : rSetI s i (some xs) (.ok d) (.ok k) = putL s i xs d k := rfl
theorem putL_i (i : Nat) (xs : List D) (d : D) (n : Int) (h : 0 ≤ n) (h2 : n < xs.length) : putL s i xs d (.int n) = .nx (s.set i (.ow (.lst (xs.set n.toNat d)))) := by
  unfold putL ixN
  simp [h, h2]
def getOd : Option Sl → Option (List Key × List D)
  | some (.ow (.dic ks vs)) => some (ks, vs)
  | _ => none
@[simp] theorem getOd_d (ks : List Key) (vs : List D) : getOd (some (.ow (.dic ks vs))) = some (ks, vs) := rfl
theorem owD_s (i : Nat) : owD s i = getOd s[i]? := by
  unfold owD
  generalize s[i]? = o
  cases o with
  | none => rfl
  | some x => cases x with
    | ow d => cases d <;> rfl
    | _ => rfl
def rPutD (s : SS) (i : Nat) (o : Option (List Key × List D)) (r ri : R D) : RS := match o with
  | some (ks, vs) => rE s r fun d s => rE s ri fun k s => putDS s i ks vs d k
  | none => .bad
@[simp] theorem sPutD_s (i : Nat) : sPutD i fi fe s = rPutD s i (getOd s[i]?) (fe s) (fi s) := by
  unfold sPutD
  rw [owD_s]
  cases getOd s[i]? with
  | none => rfl
  | some xs =>
    unfold rPutD
    dsimp only
    rw [sE_s]
    cases fe s <;> rfl
@[simp] theorem rPutD_ok (i : Nat) (ks : List Key) (vs : List D) (d k : D) : rPutD s i (some (ks, vs)) (.ok d) (.ok k) = putDS s i ks vs d k := rfl
end
end
end Z
namespace Z
open PySem PySem.Spec PySem.P PyProof.Rows L2
/-! ### words in order -/
theorem lex_iff {a b : List Nat} : a < b ↔ (∃ z, z ≠ [] ∧ b = a ++ z) ∨ (∃ p c d x y, a = p ++ c :: x ∧ b = p ++ d :: y ∧ c < d) := by
  induction a generalizing b with
  | nil =>
    cases b with
    | nil => simp
    | cons d b => simp
  | cons c a ih =>
    cases b with
    | nil => simp
    | cons d b =>
      rw [List.cons_lt_cons_iff]
      constructor
      · rintro (h | ⟨rfl, h⟩)
        · exact .inr ⟨[], c, d, a, b, rfl, rfl, h⟩
        · rcases ih.mp h with ⟨z, hz, rfl⟩ | ⟨p, e, f, x, y, rfl, rfl, hef⟩
          · exact .inl ⟨z, hz, rfl⟩
          · exact .inr ⟨c :: p, e, f, x, y, rfl, rfl, hef⟩
      · rintro (⟨z, hz, h⟩ | ⟨p, e, f, x, y, h1, h2, hef⟩)
        · injection h with h1 h2
          exact .inr ⟨h1.symm, ih.mpr (.inl ⟨z, hz, h2⟩)⟩
        · cases p with
          | nil =>
            injection h1 with h1 h1'
            injection h2 with h2 h2'
            subst h1 h2
            exact .inl hef
          | cons g p =>
            injection h1 with h1 h1'
            injection h2 with h2 h2'
            subst h1 h2
            exact .inr ⟨rfl, ih.mpr (.inr ⟨p, e, f, x, y, h1', h2', hef⟩)⟩
theorem lex_pre {a b : List Nat} (p : List Nat) : p ++ a < p ++ b ↔ a < b := by
  induction p with
  | nil => rfl
  | cons c p ih =>
    rw [List.cons_append, List.cons_append, List.cons_lt_cons_iff]
    constructor
    · rintro (h | ⟨-, h⟩)
      · exact absurd h (Nat.lt_irrefl _)
      · exact ih.mp h
    · exact fun h => .inr ⟨rfl, ih.mpr h⟩
theorem lex_tri (a b : List Nat) : a < b ∨ a = b ∨ b < a := by
  by_cases h1 : a < b
  · exact .inl h1
  · by_cases h2 : b < a
    · exact .inr (.inr h2)
    · exact .inr (.inl (List.le_antisymm (List.not_lt.mp h2) (List.not_lt.mp h1)))
/-- less, and not longer on the right: so a sign differs -/
theorem lex_app {a b : List Nat} (h : a < b) (hl : b.length ≤ a.length) (x y : List Nat) : a ++ x < b ++ y := by
  rcases lex_iff.mp h with ⟨z, hz, rfl⟩ | ⟨p, c, d, u, v, rfl, rfl, hcd⟩
  · have := List.length_pos_iff.mpr hz
    rw [List.length_append] at hl
    omega
  · exact lex_iff.mpr (.inr ⟨p, c, d, u ++ x, v ++ y, by simp, by simp, hcd⟩)
theorem lex_same {a b x y : List Nat} (hl : a.length = b.length) (h : a ++ x < b ++ y) : a < b ∨ (a = b ∧ x < y) := by
  by_cases e : a = b
  · subst e
    exact .inr ⟨rfl, (lex_pre a).mp h⟩
  · rcases lex_tri a b with h1 | h1 | h1
    · exact .inl h1
    · exact absurd h1 e
    · exact absurd h (List.lt_asymm (lex_app h1 (by omega) y x))
theorem lex_nlt {a b : List Nat} (h : ¬ a < b) (e : a ≠ b) : b < a := by
  rcases lex_tri a b with h1 | h1 | h1
  · exact absurd h1 h
  · exact absurd h1 e
  · exact h1
/-! ### primes -/
/-- less than each other turn of itself -/
def Pr (w : List Nat) : Prop := w ≠ [] ∧ ∀ k, 0 < k → k < w.length → w < rot w k
theorem rot_split (x v : List Nat) : rot (x ++ v) x.length = v ++ x := by simp [rot]
/-- less than each ending -/
theorem pr_suf {x v : List Nat} (h : Pr (x ++ v)) (hx : x ≠ []) (hv : v ≠ []) : x ++ v < v := by
  have px := List.length_pos_iff.mpr hx
  have pv := List.length_pos_iff.mpr hv
  have h1 := h.2 x.length px (by simp; omega)
  rw [rot_split] at h1
  by_cases hlt : x ++ v < v
  · exact hlt
  · exfalso
    have hne : x ++ v ≠ v := fun e => by
      have := congrArg List.length e
      rw [List.length_append] at this
      omega
    have h2 := lex_nlt hlt hne
    rcases lex_iff.mp h2 with ⟨y, hy, e⟩ | ⟨p, c, d, u, t, e1, e2, hcd⟩
    · have hyl : y.length = x.length := by
        have := congrArg List.length e
        rw [List.length_append, List.length_append] at this
        omega
      rw [e] at h1
      have h3 : y < x := (lex_pre v).mp h1
      have h4 := h.2 v.length pv (by simp; omega)
      rw [e, rot_split, ← e] at h4
      rcases lex_same hyl.symm h4 with h5 | ⟨_, h5⟩
      · exact List.lt_asymm h3 h5
      · exact List.lt_irrefl _ h5
    · have h3 : v ++ x < x ++ v := by
        rw [e2]
        conv => lhs; rw [e1]
        exact lex_iff.mpr (.inr ⟨p, c, d, u ++ x, t, by simp, rfl, hcd⟩)
      exact List.lt_asymm h1 h3
theorem pr_of_suf {w : List Nat} (hw : w ≠ []) (h : ∀ x v, w = x ++ v → x ≠ [] → v ≠ [] → w < v) : Pr w := by
  refine ⟨hw, fun k h0 hk => ?_⟩
  have e : w = w.take k ++ w.drop k := (List.take_append_drop k w).symm
  have h1 := h (w.take k) (w.drop k) e (by intro z; have := congrArg List.length z; rw [List.length_take, List.length_nil] at this; omega) (by intro z; have := congrArg List.length z; rw [List.length_drop, List.length_nil] at this; omega)
  have := lex_app h1 (by simp) [] (w.take k)
  simpa [rot] using this
/-- two primes, the lesser first: a prime -/
theorem pr_app {u v : List Nat} (hu : Pr u) (hv : Pr v) (h : u < v) : Pr (u ++ v) := by
  have huv : u ++ v < v := by
    rcases lex_iff.mp h with ⟨z, hz, e⟩ | ⟨p, c, d, x, y, e1, e2, hcd⟩
    · have h1 : v < z := by
        rw [e] at hv ⊢
        exact pr_suf hv hu.1 hz
      conv => rhs; rw [e]
      exact (lex_pre u).mpr h1
    · rw [e2]
      conv => lhs; lhs; rw [e1]
      exact lex_iff.mpr (.inr ⟨p, c, d, x ++ (p ++ d :: y), y, by simp, rfl, hcd⟩)
  refine pr_of_suf (by simp [hu.1]) fun x s e hx hs => ?_
  rcases List.append_eq_append_iff.mp e with ⟨m, e1, e2⟩ | ⟨m, e1, e2⟩
  · by_cases hm : m = []
    · subst hm
      simp at e2
      subst e2
      exact huv
    · rw [e2] at hv
      have h3 := pr_suf hv hm hs
      rw [← e2] at h3
      exact List.lt_trans huv h3
  · by_cases hm : m = []
    · subst hm
      simp at e1 e2
      subst e2
      exact huv
    · rw [e1] at hu
      have h3 := pr_suf hu hx hm
      rw [← e1] at h3
      rw [e2]
      exact lex_app h3 (by rw [e1]; simp) _ _
theorem pr_one (c : Nat) : Pr [c] := ⟨by simp, fun k h0 hk => by simp at hk; omega⟩
end Z
namespace Z
noncomputable section
open PySem PySem.Spec PySem.P PyProof.Rows L2
theorem repS_get (t : List Nat) (m i : Nat) (h : i < m * t.length) : (repS t m)[i]? = t[i % t.length]? := by
  unfold repS
  induction m generalizing i with
  | zero => omega
  | succ m ih =>
    rw [List.replicate_succ, List.flatten_cons]
    by_cases hi : i < t.length
    · rw [List.getElem?_append_left hi, Nat.mod_eq_of_lt hi]
    · rw [List.getElem?_append_right (by omega), ih _ (by rw [Nat.succ_mul] at h; omega)]
      congr 1
      conv => rhs; rw [show i = (i - t.length) + t.length by omega, Nat.add_mod_right]
theorem repS_len (t : List Nat) (m : Nat) : (repS t m).length = m * t.length := by simp [repS]
theorem least_nat {P : Nat → Bool} : ∀ (n : Nat), P n = true → ∃ m, m ≤ n ∧ P m = true ∧ ∀ t, t < m → P t = false
  | 0, h => ⟨0, Nat.le_refl _, h, fun t ht => absurd ht (Nat.not_lt_zero _)⟩
  | n + 1, h => by
    by_cases q : ∃ k, k ≤ n ∧ P k = true
    · obtain ⟨k, hk, hp⟩ := q
      have ⟨m, h1, h2, h3⟩ := least_nat (P := P) k hp
      exact ⟨m, by omega, h2, h3⟩
    · refine ⟨n + 1, Nat.le_refl _, h, fun t ht => ?_⟩
      cases e : P t with
      | false => rfl
      | true => exact absurd ⟨t, by omega, e⟩ q
termination_by n => n
def rtOk (w : List Nat) (s : Nat) : Bool := decide (0 < s) && (decide (w.length % s = 0) && (repS (w.take s) (w.length / s) == w))
theorem rtOk_full {w : List Nat} (hw : w ≠ []) : rtOk w w.length = true := by
  have := List.length_pos_iff.mpr hw
  simp [rtOk, this, Nat.div_self this, repS]
theorem rt_ex {w : List Nat} (hw : w ≠ []) : ∃ s, s ≤ w.length ∧ rtOk w s = true ∧ ∀ t, t < s → rtOk w t = false := least_nat _ (rtOk_full hw)
def rlen (w : List Nat) : Nat := if h : w ≠ [] then Classical.choose (rt_ex h) else 0
theorem rlen_spec {w : List Nat} (hw : w ≠ []) : rlen w ≤ w.length ∧ rtOk w (rlen w) = true ∧ ∀ t, t < rlen w → rtOk w t = false := by
  unfold rlen
  rw [dif_pos hw]
  exact Classical.choose_spec (rt_ex hw)
def rootW (w : List Nat) : List Nat := w.take (rlen w)
theorem rtOk_iff {w : List Nat} {s : Nat} : rtOk w s = true ↔ 0 < s ∧ w.length % s = 0 ∧ ∀ i, i < w.length → w[i]? = w[i % s]? := by
  unfold rtOk
  rw [Bool.and_eq_true, Bool.and_eq_true, decide_eq_true_eq, decide_eq_true_eq, beq_iff_eq]
  constructor
  · rintro ⟨h1, h2, h3⟩
    refine ⟨h1, h2, fun i hi => ?_⟩
    have hs : s ≤ w.length := Nat.le_of_dvd (by omega) (Nat.dvd_of_mod_eq_zero h2)
    have hl : (w.take s).length = s := by simp; omega
    have hm : w.length / s * s = w.length := Nat.div_mul_cancel (Nat.dvd_of_mod_eq_zero h2)
    conv => lhs; rw [← h3]
    rw [repS_get _ _ _ (by rw [hl, hm]; exact hi), hl, List.getElem?_take, if_pos (Nat.mod_lt _ h1)]
  · rintro ⟨h1, h2, h3⟩
    refine ⟨h1, h2, ?_⟩
    by_cases h0 : w.length = 0
    · have : w = [] := List.length_eq_zero_iff.mp h0
      subst this
      simp [repS]
    · have hs : s ≤ w.length := Nat.le_of_dvd (by omega) (Nat.dvd_of_mod_eq_zero h2)
      have hl : (w.take s).length = s := by simp; omega
      have hm : w.length / s * s = w.length := Nat.div_mul_cancel (Nat.dvd_of_mod_eq_zero h2)
      apply List.ext_getElem?
      intro i
      by_cases hi : i < w.length
      · rw [repS_get _ _ _ (by rw [hl, hm]; exact hi), hl, List.getElem?_take, if_pos (Nat.mod_lt _ h1), h3 i hi]
      · rw [List.getElem?_eq_none (by rw [repS_len, hl, hm]; omega), List.getElem?_eq_none (by omega)]
theorem rlen_pos {w : List Nat} (hw : w ≠ []) : 0 < rlen w := (rtOk_iff.mp (rlen_spec hw).2.1).1
theorem rlen_dvd {w : List Nat} (hw : w ≠ []) : w.length % rlen w = 0 := (rtOk_iff.mp (rlen_spec hw).2.1).2.1
theorem root_len {w : List Nat} (hw : w ≠ []) : (rootW w).length = rlen w := by
  have := (rlen_spec hw).1
  simp [rootW]
  omega
theorem root_rep {w : List Nat} (hw : w ≠ []) : repS (rootW w) (w.length / rlen w) = w := by
  have h := (rlen_spec hw).2.1
  unfold rtOk at h
  rw [Bool.and_eq_true, Bool.and_eq_true, decide_eq_true_eq, decide_eq_true_eq, beq_iff_eq] at h
  exact h.2.2
theorem rot_of_rt {w : List Nat} {s : Nat} (h : rtOk w s = true) (hs : s < w.length) : rot w s = w := by
  obtain ⟨h1, h2, h3⟩ := rtOk_iff.mp h
  apply List.ext_getElem?
  intro i
  by_cases hi : i < w.length
  · rw [rot_get w s i (by omega) hi, h3 _ (Nat.mod_lt _ (by omega)), h3 i hi, Nat.mod_mod_of_dvd _ (Nat.dvd_of_mod_eq_zero h2), Nat.add_mod_right]
  · rw [List.getElem?_eq_none (by rw [rot_len]; omega), List.getElem?_eq_none (by omega)]
theorem rot_mul {w : List Nat} {k : Nat} (h : rot w k = w) (hk : k ≤ w.length) (hw : 0 < w.length) : ∀ j, j * k ≤ w.length → rot w (j * k) = w
  | 0, _ => by simp [rot_zero]
  | j + 1, hj => by
    rw [Nat.succ_mul] at hj ⊢
    have ih := rot_mul h hk hw j (by omega)
    have h1 := rot_rot w (j * k) k (by omega) hk hw
    rw [ih, h] at h1
    by_cases e : j * k + k = w.length
    · rw [e, rot_full]
    · rw [Nat.mod_eq_of_lt (by omega)] at h1
      exact h1.symm
/-- a turn of itself: it has a shorter root -/
theorem rt_of_rot {w : List Nat} {k : Nat} (h : rot w k = w) (h0 : 0 < k) (hk : k < w.length) : rlen w ≤ k := by
  have hw0 : 0 < w.length := by omega
  have hw : w ≠ [] := List.length_pos_iff.mp hw0
  obtain ⟨m, m1, m2, m3⟩ := least_nat (P := fun j => decide (0 < j) && (rot w j == w)) k (by simp [h0, h])
  simp only [Bool.and_eq_true, decide_eq_true_eq, beq_iff_eq] at m2
  obtain ⟨m2, m4⟩ := m2
  have hd : w.length % m = 0 := by
    by_cases e : w.length % m = 0
    · exact e
    · exfalso
      have hr := Nat.mod_lt w.length m2
      have hq : w.length / m * m ≤ w.length := Nat.div_mul_le_self _ _
      have hq2 : w.length / m * m + w.length % m = w.length := by rw [Nat.mul_comm]; exact Nat.div_add_mod _ _
      have h1 := rot_mul m4 (by omega) hw0 _ hq
      have h2 := rot_rot w (w.length / m * m) (w.length % m) hq (by omega) hw0
      rw [hq2, Nat.mod_self, rot_zero, h1] at h2
      have h3 := m3 _ hr
      simp [h2] at h3
      omega
  have hok : rtOk w m = true := rtOk_iff.mpr ⟨m2, hd, fun i hi => by
    have hj : i / m * m ≤ w.length := Nat.le_trans (Nat.div_mul_le_self _ _) (by omega)
    have h1 := rot_mul m4 (by omega) hw0 _ hj
    have him := Nat.mod_lt i m2
    have hie : i % m + i / m * m = i := by rw [Nat.mul_comm, Nat.add_comm]; exact Nat.div_add_mod _ _
    have h2 := rot_get w (i / m * m) (i % m) hj (by omega)
    rw [h1, hie, Nat.mod_eq_of_lt hi] at h2
    exact h2.symm⟩
  apply Nat.le_of_not_lt
  intro hlt
  have := (rlen_spec hw).2.2 m (by omega)
  rw [hok] at this
  cases this
theorem pr_iff {w : List Nat} (hw : w ≠ []) : Pr w ↔ lrot w = w ∧ rootW w = w := by
  have hp := List.length_pos_iff.mpr hw
  constructor
  · intro h
    refine ⟨(lrot_uniq hw (self_rots hw) fun x hx => ?_).symm, ?_⟩
    · obtain ⟨k, hk, rfl⟩ := mem_rots.mp hx
      by_cases h0 : k = 0
      · subst h0
        rw [rot_zero]
        exact List.lt_irrefl _
      · exact List.lt_asymm (h.2 k (by omega) hk)
    · have h1 := rlen_spec hw
      by_cases e : rlen w < w.length
      · have h2 := rot_of_rt h1.2.1 e
        have h3 := h.2 (rlen w) (rlen_pos hw) e
        rw [h2] at h3
        exact absurd h3 (List.lt_irrefl _)
      · unfold rootW
        rw [List.take_of_length_le (by omega)]
  · rintro ⟨h1, h2⟩
    refine ⟨hw, fun k h0 hk => ?_⟩
    have h3 := (lrot_spec hw).2 _ (mem_rots.mpr ⟨k, hk, rfl⟩)
    rw [h1] at h3
    refine lex_nlt h3 fun e => ?_
    have h4 := rt_of_rot e h0 hk
    have h5 := root_len hw
    rw [h2] at h5
    omega
theorem root_ne {w : List Nat} (hw : w ≠ []) : rootW w ≠ [] := by
  intro z
  have := root_len hw
  rw [z] at this
  have := rlen_pos hw
  simp at *
  omega
/-- the root of a least turn is a prime -/
theorem root_prime {v : List Nat} (hv : v ≠ []) (hl : lrot v = v) : Pr (rootW v) := by
  have hp := List.length_pos_iff.mpr hv
  obtain ⟨r1, r2, r3⟩ := rlen_spec hv
  obtain ⟨p1, p2, p3⟩ := rtOk_iff.mp r2
  have hul := root_len hv
  have hune := root_ne hv
  have hget : ∀ i, i < v.length → v[i]? = (rootW v)[i % rlen v]? := fun i hi => by
    unfold rootW
    rw [List.getElem?_take, if_pos (Nat.mod_lt _ p1)]
    exact p3 i hi
  refine ⟨hune, fun k h0 hk => ?_⟩
  rw [hul] at hk
  have hle := (lrot_spec hv).2 _ (mem_rots.mpr ⟨k, by omega, rfl⟩)
  rw [hl] at hle
  have e1 : v = rootW v ++ v.drop (rlen v) := by unfold rootW; exact (List.take_append_drop _ _).symm
  have e2 : rot v k = rot (rootW v) k ++ (rot v k).drop (rlen v) := by
    conv => lhs; rw [← List.take_append_drop (rlen v) (rot v k)]
    congr 1
    apply List.ext_getElem?
    intro i
    by_cases hi : i < rlen v
    · rw [List.getElem?_take, if_pos hi, rot_get v k i (by omega) (by omega), rot_get _ k i (by omega) (by omega), hul, hget _ (Nat.mod_lt _ hp), Nat.mod_mod_of_dvd _ (Nat.dvd_of_mod_eq_zero p2)]
    · rw [List.getElem?_eq_none (by simp; omega), List.getElem?_eq_none (by rw [rot_len]; omega)]
  have h1 : ¬ rot (rootW v) k < rootW v := fun z => by
    apply hle
    rw [e2]
    conv => rhs; rw [e1]
    exact lex_app z (by rw [rot_len]; omega) _ _
  refine lex_nlt h1 fun e => ?_
  have h2 := rt_of_rot e h0 (by omega)
  have h3 := rlen_pos hune
  obtain ⟨s1, s2, s3⟩ := rtOk_iff.mp (rlen_spec hune).2.1
  have hd : v.length % rlen (rootW v) = 0 := by
    apply Nat.mod_eq_zero_of_dvd
    rw [hul] at s2
    exact Nat.dvd_trans (Nat.dvd_of_mod_eq_zero s2) (Nat.dvd_of_mod_eq_zero p2)
  have hok : rtOk v (rlen (rootW v)) = true := rtOk_iff.mpr ⟨h3, hd, fun i hi => by
    have hdd : rlen (rootW v) ∣ rlen v := by rw [hul] at s2; exact Nat.dvd_of_mod_eq_zero s2
    have hm : i % rlen (rootW v) < v.length := Nat.lt_of_lt_of_le (Nat.mod_lt _ h3) (by omega)
    rw [hget i hi, hget _ hm, s3 _ (by rw [hul]; exact Nat.mod_lt _ p1), Nat.mod_mod_of_dvd _ hdd]
    congr 1
    rw [Nat.mod_eq_of_lt (a := i % rlen (rootW v)) (Nat.lt_of_lt_of_le (Nat.mod_lt _ h3) (by omega))]⟩
  have := r3 (rlen (rootW v)) (by omega)
  rw [hok] at this
  cases this
def prB (w : List Nat) : Bool := lrot w == w && rootW w == w
theorem prB_iff {w : List Nat} (hw : w ≠ []) : prB w = true ↔ Pr w := by
  unfold prB
  rw [Bool.and_eq_true, beq_iff_eq, beq_iff_eq]
  exact (pr_iff hw).symm
theorem joinL_flat (xs : List (List Nat)) : TL.joinL [] xs = xs.flatten := by
  induction xs with
  | nil => rfl
  | cons a r ih => cases r with
    | nil => simp [TL.joinL]
    | cons b r => simp only [TL.joinL, List.nil_append, ih, List.flatten_cons]
theorem flat_len (xs : List (List Nat)) : (xs.map (·.length)).sum = xs.flatten.length := by
  rw [List.length_flatten]
theorem joinM_flat (xs : List (List Nat)) (h : xs.flatten.length ≤ 16777216) : joinM (.str []) [.lst (xs.map .str)] = .ok (.str xs.flatten) := by
  unfold joinM joinD
  dsimp only
  rw [strsD_map]
  dsimp only
  rw [flat_len, joinL_flat, if_pos (le_sz (by simpa using h))]
/-- primes, none greater than the one ahead -/
def Parts (ps : List (List Nat)) : Prop := (∀ p ∈ ps, Pr p) ∧ ∀ (i : Nat) (a b : List Nat), ps[i]? = some a → ps[i + 1]? = some b → ¬ a < b
theorem Parts.tail {p : List Nat} {ps : List (List Nat)} (h : Parts (p :: ps)) : Parts ps :=
  ⟨fun q hq => h.1 q (List.mem_cons_of_mem _ hq), fun i a b h1 h2 => h.2 (i + 1) a b (by simpa using h1) (by simpa using h2)⟩
theorem Parts.le {p : List Nat} : ∀ {ps : List (List Nat)}, Parts (p :: ps) → ∀ q ∈ ps, ¬ p < q
  | [], _, q, hq => by cases hq
  | r :: ps, h, q, hq => by
    have h1 := h.2 0 p r rfl rfl
    rcases List.mem_cons.mp hq with rfl | hq
    · exact h1
    · have h2 := Parts.le h.tail q hq
      intro z
      rcases lex_tri r q with h3 | h3 | h3
      · exact h2 h3
      · subst h3; exact h1 z
      · exact h1 (List.lt_trans z h3)
theorem pre_le {a b : List Nat} : ¬ a ++ b < a := fun h => by
  rcases lex_iff.mp h with ⟨z, hz, e⟩ | ⟨p, c, d, x, y, e1, e2, hcd⟩
  · have := congrArg List.length e
    have hp := List.length_pos_iff.mpr hz
    simp only [List.length_append] at this
    omega
  · rw [e2] at e1
    simp at e1
    omega
/-- the first one is the longest prime at the begin -/
theorem parts_first {p : List Nat} {ps : List (List Nat)} (h : Parts (p :: ps)) {u : List Nat} (hu : Pr u) {y : List Nat} (e : p ++ ps.flatten = u ++ y) : u.length ≤ p.length := by
  apply Nat.le_of_not_lt
  intro hlt
  -- u = p ++ m, m a begin of the rest
  rcases List.append_eq_append_iff.mp e with ⟨m, e1, e2⟩ | ⟨m, e1, e2⟩
  · -- u = p ++ m
    have hm : m ≠ [] := by
      intro z
      subst z
      simp at e1
      subst e1
      omega
    have hpp := h.1 p List.mem_cons_self
    -- the last piece of u
    have key : ∀ (qs : List (List Nat)), (∀ q ∈ qs, ¬ p < q ∧ q ≠ []) → ∀ (m : List Nat), m ≠ [] → qs.flatten = m ++ y → ∃ x r, m = r ++ x ∧ x ≠ [] ∧ ∃ q ∈ qs, ∃ t, q = x ++ t := by
      intro qs
      induction qs with
      | nil =>
        intro _ m hm e
        simp at e
        exact absurd e.1 hm
      | cons q qs ih =>
        intro hq m hm e
        rw [List.flatten_cons] at e
        rcases List.append_eq_append_iff.mp e with ⟨m', e1, e2⟩ | ⟨m', e1, e2⟩
        · by_cases hm' : m' = []
          · subst hm'
            simp at e1
            exact ⟨m, [], by simp, hm, q, List.mem_cons_self, [], by simp [e1]⟩
          · obtain ⟨x, r, h1, h2, q', h3, t, h4⟩ := ih (fun q hq' => hq q (List.mem_cons_of_mem _ hq')) m' hm' e2
            exact ⟨x, q ++ r, by rw [e1, h1, List.append_assoc], h2, q', List.mem_cons_of_mem _ h3, t, h4⟩
        · exact ⟨m, [], by simp, hm, q, List.mem_cons_self, m', e1⟩
    obtain ⟨x, r, h1, h2, q, h3, t, h4⟩ := key ps (fun q hq => ⟨h.le q hq, (h.1 q (List.mem_cons_of_mem _ hq)).1⟩) m hm e2
    have e3 : u = (p ++ r) ++ x := by rw [e1, h1, List.append_assoc]
    have h5 : u < x := by
      rw [e3] at hu ⊢
      exact pr_suf hu (by simp [hpp.1]) h2
    have h6 : ¬ q < x := by rw [h4]; exact pre_le
    have h7 := h.le q h3
    have h8 : ¬ u < p := by rw [e1]; exact pre_le
    -- x ≤ q ≤ p ≤ u < x
    have g1 : u < q := by
      rcases lex_tri u q with z | z | z
      · exact z
      · subst z; exact absurd h5 h6
      · exact absurd (List.lt_trans z h5) h6
    have g2 : u < p := by
      rcases lex_tri u p with z | z | z
      · exact z
      · subst z; exact absurd g1 h7
      · exact absurd (List.lt_trans z g1) h7
    exact h8 g2
  · have := congrArg List.length e1
    simp at this
    omega
/-- one parting only -/
theorem parts_uniq : ∀ {ps qs : List (List Nat)}, Parts ps → Parts qs → ps.flatten = qs.flatten → ps = qs
  | [], [], _, _, _ => rfl
  | [], q :: qs, _, h, e => by
    have := (h.1 q List.mem_cons_self).1
    simp at e
    exact absurd e.1 this
  | p :: ps, [], h, _, e => by
    have := (h.1 p List.mem_cons_self).1
    simp at e
    exact absurd e.1 this
  | p :: ps, q :: qs, h1, h2, e => by
    rw [List.flatten_cons, List.flatten_cons] at e
    have l1 := parts_first h1 (h2.1 q List.mem_cons_self) e
    have l2 := parts_first h2 (h1.1 p List.mem_cons_self) e.symm
    have hl : p.length = q.length := by omega
    obtain ⟨e1, e2⟩ := List.append_inj e hl
    rw [e1, parts_uniq h1.tail h2.tail e2]
end
end Z
namespace ZT
open PySem PySem.Spec PyProof.Rows L2
/-! ### sets of texts -/
def tkey (e : Int × Value) : Str := match e.2 with | .str k _ => k | _ => Str.empty
def GoodT (w : World) (e : Int × Value) : Prop := ∃ k tk, e.2 = Value.str k tk ∧ e.1 = hashStr w k

/-- the set of ints at a: S its members, n their number; its table rises and can be walked -/
def SetRT (w : World) (h : Heap) (a : Addr) (S : Str → Bool) (n : Nat) : Prop :=
  ∃ o es ep t, h.get? a = some o ∧ o.ExactSet ∧ o.data = .set es ep t ∧ (∀ e ∈ es.toList, GoodT w e) ∧ (es.toList.map tkey).Nodup ∧ (∀ k, S k = true ↔ k ∈ es.toList.map tkey) ∧
    es.size ≤ scanBound ∧ t.fits es.size = true ∧ es.size = n ∧ Ris t.place.toList ∧ (w.params.followText "set-order" = true ∨ t.led = true)

section
variable {P : Program} {w : World} {h h' : Heap} {a : Addr} {S : Str → Bool} {n : Nat}

theorem SetRT.at (R : SetRT w h a S n) (k : ∀ o, h.get? a = some o → h'.get? a = some o) : SetRT w h' a S n := by
  obtain ⟨o, es, ep, t, ho, r⟩ := R
  exact ⟨o, es, ep, t, k o ho, r⟩
theorem SetRT.lt (R : SetRT w h a S n) : a < h.objs.size := by
  obtain ⟨o, es, ep, t, ho, r⟩ := R
  exact Heap.lt_size ho
theorem SetRT.congr {S' : Str → Bool} (R : SetRT w h a S n) (e : ∀ k, S' k = S k) : SetRT w h a S' n := by
  have q : S' = S := funext e
  rw [q]; exact R
theorem goodt_elems {l : List (Int × Value)} (g : ∀ e ∈ l, GoodT w e) : ElemsOf (PySem.strKind P w) l := fun e he => by
  obtain ⟨k, tk, h1, h2⟩ := g e he
  exact ⟨⟨k, by rw [h1]; exact strKind_is P w k tk, h2⟩, by rw [h1] <;> rfl⟩
theorem goodt_is {e : Int × Value} (g : GoodT w e) (k : Str) : (PySem.strKind P w).is k e.2 = true ↔ tkey e = k := by
  obtain ⟨k0, tk, h1, _⟩ := g
  unfold tkey
  rw [h1]
  show ((k0 == k) = true) ↔ k0 = k
  exact beq_iff_eq
theorem goodt_mem {l : List (Int × Value)} (g : ∀ e ∈ l, GoodT w e) (k : Str) : k ∈ l.map tkey ↔ ∃ e ∈ l, (PySem.strKind P w).is k e.2 = true := by
  rw [List.mem_map]
  constructor
  · rintro ⟨e, he, q⟩
    exact ⟨e, he, (goodt_is (g e he) k).2 q⟩
  · rintro ⟨e, he, q⟩
    exact ⟨e, he, (goodt_is (g e he) k).1 q⟩
theorem SetRT.setOf (R : SetRT w h a S n) (hlt : n < scanBound) : h.SetOf (PySem.strKind P w) a S n := by
  obtain ⟨o, es, ep, t, ho, hx, hd, g, nd, hm, hb, hf, hn, _⟩ := R
  exact ⟨o, es, ep, t, ho, hx, hd, goodt_elems g, fun k => (hm k).trans (goodt_mem g k), by rw [hn]; exact hlt, hf, hn⟩
end

section
variable {P : Program} {w : World} {A : Around} {E : Value → Shared → Prop} {s : Shared} {a : Addr} {S : Str → Bool} {n : Nat}

/-! ### add -/
theorem store_atT {h : Heap} {a : Addr} {o : Obj} {es es' : Array (Int × Value)} {ep : Nat} {t t' : SetTable} (ho : h.get? a = some o) (hd : o.data = .set es ep t) :
    (h.update a (Obj.putSet es' t')).get? a = some { o with data := .set es' (ep + 1) t' } := by
  have q := Heap.get?_update_self (Obj.putSet es' t') ho (by rw [putSet_of es' t' hd]; rfl)
  rw [putSet_of es' t' hd] at q
  exact q

theorem scan_line {n : Nat} (h : n ≤ scanBound) : n ≤ sizeLine := by
  rw [sizeLine_eq]
  have : scanBound = 4096 := rfl
  omega
theorem setRT_add_tail {g : Bool → Sem Unit} (hg : ∀ (b : Bool) (s₁ : Shared) (Q' : Unit → Shared → Prop), Q' () s₁ → wpAny (model P w) A (g b) Q' E s₁)
    {o : Obj} {es : Array (Int × Value)} {ep : Nat} {t : SetTable} (ho : s.heap.get? a = some o) (hex : o.ExactSet) (hd : o.data = .set es ep t)
    {es1 : Array (Int × Value)} {t2 : SetTable} {S' : Str → Bool} (g1 : ∀ e ∈ es1.toList, GoodT w e) (nd1 : (es1.toList.map tkey).Nodup) (m1 : ∀ k, S' k = true ↔ k ∈ es1.toList.map tkey)
    (hb1 : es1.size ≤ scanBound) (hf2 : t2.fits es1.size = true) (hr : Ris t2.place.toList) (hl : w.params.followText "set-order" = true ∨ t2.led = true) {wasDummy : Bool} {R : Option Bool → Shared → Prop}
    (hR : ∀ h', Heap.SameBut a s.heap h' → SetRT w h' a S' es1.size → R (some true) { s with heap := h' }) :
    wpAny (model P w) A (do
        storeSet a es1 t2
        if (!wasDummy && t2.tooFull) = true then do
            g (relayAll t2 es1 (SetTable.grown es1.size)).2.2
            storeSet a (relayAll t2 es1 (SetTable.grown es1.size)).1 (relayAll t2 es1 (SetTable.grown es1.size)).2.1
            pure (some true)
          else pure (some true)) R E s := by
  refine wpAny_bind (wpAny_storeSet_of ho hd ?_ (scan_line hb1))
  have ho1 := store_atT (es' := es1) (t' := t2) ho hd
  have sb1 := Heap.SameBut.update s.heap a (Obj.putSet es1 t2)
  split
  · have pm := relayAll_perm t2 es1 (SetTable.grown es1.size)
    have hf3 := relayAll_fits t2 es1 (SetTable.grown es1.size)
    have hr3 := relayAll_ris t2 es1 (SetTable.grown es1.size)
    have hl3 := relayAll_led t2 es1 (SetTable.grown es1.size)
    generalize relayAll t2 es1 (SetTable.grown es1.size) = Z at pm hf3 hr3 hl3 ⊢
    obtain ⟨es2, t3, gave⟩ := Z
    dsimp only at pm hf3 hr3 hl3 ⊢
    have hsz : es2.size = es1.size := by rw [← Array.length_toList, pm.length_eq, Array.length_toList]
    have hb2 : es2.size ≤ scanBound := by rw [hsz]; exact hb1
    refine wpAny_bind (hg _ _ _ ?_)
    refine wpAny_bind (wpAny_storeSet_of ho1 rfl ?_ (scan_line hb2))
    have ho2 := store_atT (es' := es2) (t' := t3) ho1 rfl
    refine wpAny_pure (hR _ (sb1.trans (Heap.SameBut.update _ a _)) ?_)
    exact ⟨_, es2, _, t3, ho2, hex, rfl, fun e he => g1 e (pm.mem_iff.mp he), (pm.map tkey).nodup_iff.mpr nd1, fun k => (m1 k).trans (pm.map tkey).mem_iff.symm, hb2, hf3, hsz, hr3,
      hl.imp id fun z => by rw [hl3]; exact z⟩
  · exact wpAny_pure (hR _ sb1 ⟨_, es1, _, t2, ho1, hex, rfl, g1, nd1, m1, hb1, hf2, rfl, hr, hl⟩)

theorem setRT_add_hashed {k : Str} {tk : Tok} {Q : Bool → Shared → Prop} (R : SetRT w s.heap a S n) (room : n < scanBound)
    (hQ : ∀ h', Heap.SameBut a s.heap h' → SetRT w h' a (fun j => S j || decide (j = k)) (if S k = true then n else n + 1) → Q (!S k) { s with heap := h' }) :
    wpAny (model P w) A (setAddHashed a (Value.str k tk) ((PySem.strKind P w).hash k)) Q E s := by
  obtain ⟨o, es, ep, t, ho, hex, hd, g, nd, hm, hb, hf, hn, hr, hl⟩ := R
  have hkey : (PySem.strKind P w).is k (Value.str k tk) = true := strKind_is P w k tk
  have hsc : (Value.str k tk).scannable = true := rfl
  have hel : ElemsOf (PySem.strKind P w) es.toList := goodt_elems g
  unfold setAddHashed setAddHashedIn
  refine wpAny_holding (wpAny_bind (wpAny_setState_of ho hd hf ?_))
  dsimp only
  rw [byScan_of hsc (by rw [hn]; exact room) hel]
  simp only [↓reduceIte]
  unfold setAddByScan
  refine wpAny_bind ?_
  refine wpAny_bind (wpAny_rule ?_)
  refine wpAny_bind (wpAny_setScan_of hkey ho hd hf hel ?_)
  cases hfi : List.findIdx? (fun e => (PySem.strKind P w).is k e.2) es.toList with
  | some j =>
    dsimp only
    obtain ⟨hj, pj, _⟩ := List.findIdx?_eq_some_iff_getElem.mp hfi
    have hSk : S k = true := (hm k).2 ((goodt_mem (P := P) (w := w) g k).2 ⟨es.toList[j], List.getElem_mem hj, pj⟩)
    refine wpAny_pure (wpAny_pure ?_)
    have q := hQ s.heap (Heap.SameBut.refl a s.heap) ⟨o, es, ep, t, ho, hex, hd, g, nd, fun i => by
      rw [Bool.or_eq_true, decide_eq_true_eq, ← hm i]
      exact ⟨fun z => z.elim id (fun e => e ▸ hSk), .inl⟩, hb, hf, by rw [if_pos hSk]; exact hn, hr, hl⟩
    rw [hSk] at q
    exact q
  | none =>
    dsimp only
    have hnk : k ∉ es.toList.map tkey := fun z => by
      obtain ⟨e, he, q⟩ := (goodt_mem (P := P) (w := w) g k).1 z
      have c := List.findIdx?_eq_none_iff.mp hfi e he
      rw [q] at c
      cases c
    have hSk : S k = false := by
      cases q : S k with
      | false => rfl
      | true => exact absurd ((hm k).1 q) hnk
    have hgw : ∀ (b : Bool) {s₁ : Shared} {Q' : Unit → Shared → Prop}, Q' () s₁ → wpAny (model P w) A (match b with | true => rule "set.scan.the-table-gave-way" | false => pure ()) Q' E s₁ :=
      fun b s₁ Q' q => by cases b <;> first | exact wpAny_pure q | exact wpAny_rule q
    have pm := layNew_perm t es ((PySem.strKind P w).hash k) (Value.str k tk)
    have hf1 := layNew_fits t es ((PySem.strKind P w).hash k) (Value.str k tk)
    have hr1 := layNew_ris t es ((PySem.strKind P w).hash k) (Value.str k tk) hr
    have hl1 := layNew_led t es ((PySem.strKind P w).hash k) (Value.str k tk)
    generalize layNew t es ((PySem.strKind P w).hash k) (Value.str k tk) = Z at pm hf1 hr1 hl1 ⊢
    obtain ⟨es1, t1, wasDummy, gave⟩ := Z
    dsimp only at pm hf1 hr1 hl1 ⊢
    rw [Array.toList_push] at pm
    have pc : es1.toList.Perm (((PySem.strKind P w).hash k, Value.str k tk) :: es.toList) := pm.trans (List.perm_append_singleton _ _)
    have pk : (es1.toList.map tkey).Perm (k :: es.toList.map tkey) := pc.map tkey
    have g1 : ∀ e ∈ es1.toList, GoodT w e := fun e he => by
      rcases List.mem_cons.mp (pc.mem_iff.mp he) with z | z
      · rw [z]; exact ⟨k, tk, rfl, rfl⟩
      · exact g e z
    have nd1 : (es1.toList.map tkey).Nodup := pk.nodup_iff.mpr (List.nodup_cons.mpr ⟨hnk, nd⟩)
    have m1 : ∀ i, (S i || decide (i = k)) = true ↔ i ∈ es1.toList.map tkey := fun i => by
      rw [Bool.or_eq_true, decide_eq_true_eq, hm i, pk.mem_iff, List.mem_cons]
      exact Or.comm
    have hsz : es1.size = n + 1 := by rw [← Array.length_toList, pc.length_eq, List.length_cons, Array.length_toList, hn]
    have hb1 : es1.size ≤ scanBound := by rw [hsz]; exact room
    have hled : w.params.followText "set-order" = true ∨ t1.led = true := hl.imp id fun z => by rw [hl1]; exact z
    have fin : ∀ h', Heap.SameBut a s.heap h' → SetRT w h' a (fun j => S j || decide (j = k)) es1.size → Q true { s with heap := h' } := fun h' sb r => by
      have q := hQ h' sb
      rw [hSk] at q
      rw [hsz] at r
      exact q r
    refine wpAny_bind (hgw _ ?_)
    split
    · refine wpAny_bind ?_
      rw [hashByValue_scannable 8 hsc]
      refine wpAny_pure ?_
      refine setRT_add_tail ?_ ho hex hd g1 nd1 m1 hb1 ?_ ?_ ?_ ?_
      · intro b s₁ Q' q; cases b <;> first | exact wpAny_pure q | exact wpAny_rule q
      · first | (split <;> first | exact hf1 | exact SetTable.fits_plain_off hf1) | exact hf1
      · first | (split <;> exact hr1) | exact hr1
      · first | (split <;> exact hled) | exact hled
      · intro h' sb r; dsimp only; exact wpAny_pure (fin h' sb r)
    · refine wpAny_bind (wpAny_pure ?_)
      simp only [↓reduceIte]
      refine setRT_add_tail ?_ ho hex hd g1 nd1 m1 hb1 hf1 hr1 hled ?_
      · intro b s₁ Q' q; cases b <;> first | exact wpAny_pure q | exact wpAny_rule q
      · intro h' sb r; dsimp only; exact wpAny_pure (fin h' sb r)

end
theorem setRT_new_at {w : World} {h : Heap} {a : Addr} {ns : List Str} (ho : h.get? a = some { cls := .type "set", dict := none, data := .set #[] 0 (.fresh 0 0 (!w.params.followText "set-order")) }) : SetRT w h a (fun j => decide (j ∈ ns.take 0)) 0 :=
  ⟨_, #[], 0, _, ho, ⟨rfl, rfl, rfl⟩, rfl, (fun e he => by simp at he), (by simp), (fun k => by simp), (by decide), (by rfl), rfl, List.Pairwise.nil, by
    show _ ∨ (!w.params.followText "set-order") = true
    cases w.params.followText "set-order"
    · exact .inr rfl
    · exact .inl rfl⟩
section
variable {P : Program} {w : World} {A : Around} {E : Value → Shared → Prop} {s : Shared}
theorem set_update_strs {I : Addr} {fp wr : List Addr} {G : Array GenState → Array GenState → Prop} {n : Nat} {Pv : Nat → Value → Prop} {St : Nat → Shared → Prop} {R : Result → Shared → Prop}
    (W : WalksS P w A.in1 I fp wr G n Pv St) (S : Addr) (hSf : S ∉ fp) (ns : List Str) (hn : n = ns.length) (hb : ns.length ≤ scanBound) (hval : ∀ i v, Pv i v → ∃ k t, ns[i]? = some k ∧ v = .str k t) :
    ∀ (k i : Nat) (s : Shared), n - i = k → i ≤ n → St i s → (∃ c, c ≤ i ∧ SetRT w s.heap S (fun j => decide (j ∈ ns.take i)) c) →
      (∀ s' c, Moved (S :: wr) G s s' → c ≤ n → SetRT w s'.heap S (fun j => decide (j ∈ ns)) c → R (.ok (.ret .none)) s') →
      codeAny (model P w) A (.builtin "set.update.loop" ⟨[.ref S, .ref I], []⟩) R s := by
  have hSw : S ∉ wr := fun h => hSf (W.sub _ h)
  have hsub : ∀ b ∈ wr, b ∈ S :: wr := fun b hb => List.mem_cons_of_mem _ hb
  intro k
  induction k with
  | zero =>
    intro i s hk' hi hst ⟨c, hc, hS⟩ hR
    have hin : i = n := by omega
    subst hin
    refine codeAny_builtin F.entry_set_update_loop ?_
    rw [Around.under_plainId F.plain_set_update_loop _]
    show wpAny _ A.in1 (pyNext (.ref I) >>= _) _ _ s
    refine wpAny_bind (W.done s _ _ hst fun s' hm => ?_)
    show wpAny _ A.in1 (ret Value.none) _ _ s'
    have e : ns.take i = ns := List.take_of_length_le (by omega)
    rw [e] at hS
    exact wpAny_pure (hR s' c (hm.mono hsub) hc (hS.at fun o e => hm.heap S o hSw e))
  | succ k ih =>
    intro i s hk' hi hst ⟨c, hc, hS⟩ hR
    have hlt : i < n := by omega
    refine codeAny_builtin F.entry_set_update_loop ?_
    rw [Around.under_plainId F.plain_set_update_loop _]
    show wpAny _ A.in1 (pyNext (.ref I) >>= _) _ _ s
    refine wpAny_bind (W.item i s _ _ hlt hst fun v s' hP hst' hm => ?_)
    obtain ⟨z, t, hz, rfl⟩ := hval i v hP
    have hS' : SetRT w s'.heap S (fun j => decide (j ∈ ns.take i)) c := hS.at fun o e => hm.heap S o hSw e
    show wpAny _ A.in1 (holding [Value.str z t] (setAdd S (.str z t)) >>= _) _ _ s'
    refine wpAny_bind (wpAny_holding ?_)
    unfold setAdd
    refine wpAny_holding ?_
    refine wpAny_bind ((PySem.strKind P w).pyHash (k := z) (strKind_is _ _ _ _) ?_)
    refine setRT_add_hashed (s := { s' with toks := s'.toks + 1 }) hS' (by omega) fun h' hsb hS2 => ?_
    have hS3 : SetRT w h' S (fun j => decide (j ∈ ns.take (i + 1))) (if decide (z ∈ ns.take i) = true then c else c + 1) := hS2.congr fun j => by
      rw [List.take_add_one, hz]
      simp [List.mem_append]
    have hc3 : (if decide (z ∈ ns.take i) = true then c else c + 1) ≤ i + 1 := by
      split <;> omega
    refine wpAny_pure ⟨plainId_quiet F.plain_set_update_loop _, ih (i + 1) _ (by omega) hlt (W.frame _ s' _ _ hst' (Nat.le_succ _) fun b hb o e => ?_) ⟨_, hc3, hS3⟩ fun s'' c2 hm'' hc'' hS'' => ?_⟩
    · rw [hsb.2 b (fun h : b = S => hSf (by rw [← h]; exact hb))]; exact e
    · refine hR s'' c2 (Moved.trans W.gtrans ((hm.mono hsub).then_heap (Nat.le_succ _) fun b o hb e => ?_) hm'') hc'' hS''
      rw [hsb.2 b (fun h : b = S => hb (by rw [h]; exact List.mem_cons_self))]; exact e

theorem code_set_led1 (a : Value) {Q₁ : Value → Shared → Prop}
    (h : Q₁ (.ref s.heap.objs.size) { s with heap := s.heap.push { cls := .type "set", dict := none, data := .set #[] 0 (.fresh 0 0 (!w.params.followText "set-order")) } }) :
    codeAny (model P w) A (.call (.builtin "set.__new__") ⟨[.type "set", a], []⟩) (wants Q₁ E) s := by
  refine codeAny_of_tree ?_
  show wpAny _ A.in1 (do checkBuiltinCall "set.__new__" ⟨[.type "set", a], []⟩; again (.builtin "set.__new__" ⟨[.type "set", a], []⟩)) _ _ s
  refine wpAny_bind (wpAny_of_eq (F.newCall_set_1 a) (wpAny_pure ⟨plainId_quiet F.plain_set_new _, codeAny_builtin F.entry_set_new ?_⟩))
  rw [Around.under_plainId F.plain_set_new _]
  unfold Builtin.«set.__new__» Builtin.Frozenset.newClass
  have hsub := sub_set_self
  obtain ⟨hp, g, d, tk, os⟩ := s
  dsimp only
  wp_walk
  refine wpAny_askSetting (wpAny_pure ?_)
  dsimp only
  simp only [newObj]
  refine wpAny_bind (wpAny_alloc (wpAny_pure ?_))
  exact wpAny_pure h

theorem call_set_listT {l : Addr} {items : Array Value} (ns : List Str) {Q : Value → Shared → Prop} (hh : A.handled = none) (hl : s.heap.IsList l items) (hit : StrsAre items.toList ns) (hb : ns.length ≤ scanBound)
    (h : ∀ (h' : Heap) (tk c : Nat), SetRT w h' s.heap.objs.size (fun j => decide (j ∈ ns)) c → c ≤ ns.length → (∀ b o, s.heap.get? b = some o → h'.get? b = some o) → Q (.ref s.heap.objs.size) { s with heap := h', toks := tk }) :
    wpAny (model P w) A (call (.type "set") [.ref l]) Q E s := by
  have hisz : items.size = ns.length := by
    have q := StrsAre.len_eq hit
    rw [Array.length_toList] at q
    exact q
  obtain ⟨c, tl, hmro⟩ := F.called_set.mro
  have hmade := F.called_set.made
  have hsub := F.called_set.sub
  refine wpAny_call (codeAny_of_tree ?_)
  show wpAny _ _ (callAny (.type "set") _) _ _ _
  refine wpAny_pure ⟨Code.quiet_builtin _ (by decide +kernel), codeAny_builtin F.entry_type_call ?_⟩
  rw [Around.under_plain (weight_type_call_type "set" [.ref l] []) rfl]
  have h1 := F.called_set.notType
  have h2 := F.called_set.canCreate
  have hct := F.typeCall_set_1 (.ref l)
  repeat (any_goals (first | assumption | wp_step))

  refine codeAny_mono (code_set_led1 (.ref l) (E := E) (Q₁ := fun obj s₁ => obj = .ref s.heap.objs.size ∧ s₁ = { s with heap := s.heap.push { cls := .type "set", dict := none, data := .set #[] 0 (.fresh 0 0 (!w.params.followText "set-order")) } }) ⟨rfl, rfl⟩) fun r s₁ hr => ?_
  cases r with
  | error e => exact hr
  | ok fl =>
    cases fl with
    | ret obj =>
      obtain ⟨rfl, rfl⟩ := hr
      have hS : (s.heap.push { cls := .type "set", dict := none, data := .set #[] 0 (.fresh 0 0 (!w.params.followText "set-order")) }).get? s.heap.objs.size = some { cls := .type "set", dict := none, data := .set #[] 0 (.fresh 0 0 (!w.params.followText "set-order")) } := Heap.get?_push_size _ rfl
      have hT : Shared.TypeIs { s with heap := s.heap.push { cls := .type "set", dict := none, data := .set #[] 0 (.fresh 0 0 (!w.params.followText "set-order")) } } (.ref s.heap.objs.size) "set" := ⟨_, hS, rfl⟩
      have hli := F.called_set.init.lookup
      have hbi := F.called_set.init.bind (.ref s.heap.objs.size)
      repeat (any_goals (first | assumption | wp_step))

      refine codeAny_mono (codeAny_call_builtin (R := wants (fun r s₂ => r = .none ∧ ∃ h' tk c, s₂ = { s with heap := h', toks := tk } ∧ SetRT w h' s.heap.objs.size (fun j => decide (j ∈ ns)) c ∧ c ≤ ns.length ∧
          (∀ b o, s.heap.get? b = some o → h'.get? b = some o)) E) F.called_set.init.plain F.entry_set_init (check_set_init_1 hT ?_)) fun r₂ s₂ hr₂ => ?_
      · obtain ⟨ol, hol, hcl, nl, hdl⟩ := hl
        obtain ⟨ocls, odict, odata, oslots⟩ := ol
        simp only at hcl hdl
        subst hcl; subst hdl
        have hol' : (s.heap.push { cls := .type "set", dict := none, data := .set #[] 0 (.fresh 0 0 (!w.params.followText "set-order")) }).get? l = some { cls := .type "list", dict := odict, data := .seq items nl, slots := oslots } := Heap.get?_push_of_some _ hol
        have hsls := F.sub_list_set
        have hslf := F.sub_list_frozenset
        have hne : (Value.type "list" == Value.type "dict") = false := by decide
        have hl1 : (s.heap.push { cls := .type "set", dict := none, data := .set #[] 0 (.fresh 0 0 (!w.params.followText "set-order")) }).IsList l items := ⟨_, hol', rfl, nl, rfl⟩
        unfold Builtin.«set.__init__» noKeywords Builtin.Frozenset.updateFrom
        generalize hPI : pyIter = PI
        wp_walk
        subst hPI

        refine wpAny_pyIter_list hl1 ?_
        refine wpAny_bind (wpAny_runValue ?_)
        have hlS : l < s.heap.objs.size := Heap.lt_size hol
        have hh3 : A.in1.in1.in1.handled = none := by simp [hh]
        have hz1 : (s.heap.push { cls := .type "set", dict := none, data := .set #[] 0 (.fresh 0 0 (!w.params.followText "set-order")) }).objs.size = s.heap.objs.size + 1 := Heap.size_push ..
        have hneI : l ≠ (s.heap.push { cls := .type "set", dict := none, data := .set #[] 0 (.fresh 0 0 (!w.params.followText "set-order")) }).objs.size := by
          rw [Heap.size_push]; exact Nat.ne_of_lt (Nat.lt_succ_of_lt hlS)
        have hSf : s.heap.objs.size ∉ [(s.heap.push { cls := .type "set", dict := none, data := .set #[] 0 (.fresh 0 0 (!w.params.followText "set-order")) }).objs.size, l] := by
          rw [Heap.size_push]; simp only [List.mem_cons, List.mem_singleton, List.not_mem_nil, or_false, not_or]
          exact ⟨Nat.ne_of_lt (Nat.lt_succ_self _), Nat.ne_of_gt hlS⟩
        have hval : ∀ (i : Nat) (v : Value), items[i]? = some v → ∃ k t, ns[i]? = some k ∧ v = .str k t := fun i v hv => by
          have hi : i < ns.length := by rw [← hisz]; exact (Array.getElem?_eq_some_iff.mp hv).1
          obtain ⟨t, e⟩ := SS.strs_at hit i v (by rw [Array.getElem?_toList]; exact hv)
          refine ⟨ns[i], t, List.getElem?_eq_getElem hi, ?_⟩
          rw [e, List.getD_eq_getElem?_getD, List.getElem?_eq_getElem hi] <;> rfl
        refine set_update_strs ((Walks.list hh3 _ l hneI items).toS) s.heap.objs.size
          hSf ns hisz hb hval (items.size - 0) 0 _ (by omega) (Nat.zero_le _)
          ⟨⟨_, Heap.get?_push_size _ rfl, rfl, rfl⟩, (hl1.push _)⟩ ?hS0 ?hR
        case hS0 =>
          have hget : ((s.heap.push { cls := .type "set", dict := none, data := .set #[] 0 (.fresh 0 0 (!w.params.followText "set-order")) }).push { cls := .type "list_iterator", data := .fields #[.ref l, .int 0 0] }).get? s.heap.objs.size
              = some { cls := .type "set", dict := none, data := .set #[] 0 (.fresh 0 0 (!w.params.followText "set-order")) } := Heap.get?_push_of_some _ hS
          exact ⟨0, Nat.le_refl 0, setRT_new_at hget⟩
        case hR =>
          intro s' c' hm hc' hS'
          obtain ⟨h', g2, d', tk', os'⟩ := s'
          have eg : g2 = s.gens := hm.gens
          have ed : d' = s.drawn := hm.drawn
          have eo : os' = s.os := hm.os
          subst eg; subst ed; subst eo
          show wpAny _ _ _ _ _ _
          refine wpAny_pure ?_
          show wpAny _ _ (ret Value.none) _ _ _
          rw [hisz] at hc'
          refine wpAny_pure ⟨rfl, h', tk', c', rfl, hS', hc', fun b o e => ?_⟩
          have hb0 : b < s.heap.objs.size := Heap.lt_size e
          have hb1 : b ≠ s.heap.objs.size := Nat.ne_of_lt hb0
          have hb2 : b ≠ (s.heap.push { cls := .type "set", dict := none, data := .set #[] 0 (.fresh 0 0 (!w.params.followText "set-order")) }).objs.size := by
            rw [Heap.size_push]; exact Nat.ne_of_lt (Nat.lt_succ_of_lt hb0)
          exact hm.heap b o (by simp only [List.mem_cons, List.mem_singleton, List.not_mem_nil, or_false, not_or]; exact ⟨hb1, hb2⟩) (Heap.get?_push_of_some _ (Heap.get?_push_of_some _ e))

      · cases r₂ with
        | error e => exact hr₂
        | ok fl₂ =>
          cases fl₂ with
          | ret r =>
            obtain ⟨rfl, h', tk, c', rfl, hS', hc', hk'⟩ := hr₂
            repeat (any_goals (first | assumption | wp_step))
            exact h _ _ _ hS' hc' hk'
          | _ => exact hr₂.elim
    | _ => exact hr.elim

end
end ZT
namespace ZT
open PySem PySem.Spec PyProof.Rows L2 SrtO Srt
section
variable {P : Program} {w : World} {A : Around} {E : Value → Shared → Prop} {s : Shared}
theorem strsAre_map : ∀ (vs : List Value), (∀ v ∈ vs, ∃ k tk, v = Value.str k tk) → StrsAre vs (vs.map ZS.svS) := fun vs h => ZS.strs_ss h
theorem sorted_setT {a : Addr} {S : Str → Bool} {n : Nat} {Q : Value → Shared → Prop} (R : SetRT w s.heap a S n) (hnlt : n < scanBound) (hh : A.handled = none)
    (hQ : ∀ s' p (out : Array Value) (c : Nat) (ns : List Str), (∀ b o, s.heap.get? b = some o → s'.heap.get? b = some o) → s'.gens = s.gens → s'.os = s.os → s.heap.objs.size ≤ p →
      s'.heap.get? p = some (seqObj "list" out c) → StrsAre out.toList ns → ns.Pairwise (fun x y => ¬ y.cps.toList < x.cps.toList) → ns.Nodup → (∀ k, k ∈ ns ↔ S k = true) → ns.length = n → Q (.ref p) s') :
    wpAny (model P w) A (call (.builtin "sorted") [.ref a]) Q E s := by
  obtain ⟨o, es, ep, t, ho, hex, hd, g, nd, hm, hb, hf, hn, hr, hl⟩ := R
  refine Calls.call_function_entry kind_sorted plain_sorted entry_sorted (args_sorted1 _) ?_
  unfold Builtin.«sorted»
  refine wpAny_bind (m := checkCount "sorted" 1 1 _) (wpAny_pure ?_)
  refine wpAny_bind (collect_set (A := A.in1) hh ⟨o, ho, hex.1, hd⟩ hf (by rw [hn]; exact hnlt) hr hl fun s1 vs k1 hz g1 o1 pm => ?_)
  have hvl : vs.length = n := by rw [pm.length_eq, List.length_map, Array.length_toList]; exact hn
  have hvz : vs.length ≤ sizeLine := by
    rw [hvl, ← hn, sizeLine_eq]
    have : scanBound = 4096 := rfl
    omega
  have hI : StrsAre vs (vs.map ZS.svS) := ZS.strs_ss fun v hv => by
    obtain ⟨e, he, q⟩ := List.mem_map.mp (pm.mem_iff.mp hv)
    obtain ⟨k, tk, h1, _⟩ := g e he
    exact ⟨k, tk, by rw [← q]; exact h1⟩
  have pk : (vs.map ZS.svS).Perm (es.toList.map tkey) := by
    have q := pm.map ZS.svS
    rw [List.map_map] at q
    refine q.trans (List.Perm.of_eq (List.map_congr_left fun e he => ?_))
    obtain ⟨k, tk, h1, _⟩ := g e he
    show ZS.svS e.2 = tkey e
    unfold tkey
    rw [h1]
    rfl
  refine wpAny_bind (wpAny_newList ?_ hvz)
  have hoL : (s1.heap.push (seqObj "list" vs.toArray 0)).get? s1.heap.objs.size = some (seqObj "list" vs.toArray 0) := Heap.get?_push_size _ rfl
  refine wpAny_bind (wpAny_holding (wpAny_call_entry slot_list_sort ⟨_, hoL, rfl⟩ entry_list_sort (list_sort_ord ZS.swo_str hoL hvz (fun h2 => ZS.strs_sortable hI h2) fun out hs hbb => ⟨_, rfl, ?_⟩) (args_list_sort _)))
  obtain ⟨q1, q2, q3⟩ := ZS.strs_out hI hs hbb
  obtain ⟨c, hc⟩ := sortedHeap_at (vs := vs) (out := out.toArray) hoL
  have pn := q2.trans pk
  refine wpAny_pure ⟨_, rfl, hQ _ s1.heap.objs.size out.toArray c (out.map ZS.svS) (fun b u e => ?_) g1 o1 hz hc (by simpa using q1) q3 (pn.nodup_iff.mpr nd) (fun k => by rw [pn.mem_iff, ← hm k]) ?_⟩
  · have q := k1 b u e
    have hlt := Heap.lt_size q
    show (sortedHeap (s1.heap.push (seqObj "list" vs.toArray 0)) s1.heap.objs.size vs out.toArray).get? b = some u
    rw [sortedHeap_old (Nat.ne_of_lt hlt) (by rw [size_push']; exact Nat.lt_succ_of_lt hlt)]
    exact Heap.get?_push_of_some _ q
  · rw [pn.length_eq, List.length_map, Array.length_toList]; exact hn
end
end ZT
namespace Z
noncomputable section
open PySem PySem.Spec PySem.P PyProof.Rows L2
/-- each once -/
def dedT : List (List Nat) → List (List Nat)
  | [] => []
  | x :: r => if x ∈ r then dedT r else x :: dedT r
theorem dedT_mem {x : List Nat} : ∀ {r : List (List Nat)}, x ∈ dedT r ↔ x ∈ r
  | [] => Iff.rfl
  | y :: r => by
    unfold dedT
    split
    · rw [dedT_mem (r := r), List.mem_cons]
      exact ⟨.inr, fun h => h.elim (fun e => by subst e; assumption) id⟩
    · rw [List.mem_cons, List.mem_cons, dedT_mem (r := r)]
theorem dedT_nodup : ∀ (r : List (List Nat)), (dedT r).Nodup
  | [] => List.nodup_nil
  | y :: r => by
    unfold dedT
    split
    · exact dedT_nodup r
    · rename_i h
      exact List.nodup_cons.mpr ⟨fun z => h (dedT_mem.mp z), dedT_nodup r⟩
theorem dedT_le : ∀ (r : List (List Nat)), (dedT r).length ≤ r.length
  | [] => Nat.le_refl _
  | y :: r => by
    unfold dedT
    have := dedT_le r
    split
    · simp; omega
    · simp; omega
def setD (m : Nat) (g : List (List Nat) → D) : D → R D
  | .lst xs => match strsD xs with
    | some ys => if ys.length < m then .ok (g (dedT ys)) else .bad
    | none => .bad
  | _ => .bad
def lenSetD : D → R D := setD 4097 fun ys => .int (ys.length : Nat)
def sortSetD : D → R D := setD 4000 fun ys => .lst ((sortT ys).map .str)
theorem lenSetD_m (ys : List (List Nat)) (h : ys.length < 4097) : lenSetD (.lst (ys.map .str)) = .ok (.int ((dedT ys).length : Nat)) := by
  unfold lenSetD setD
  dsimp only
  rw [strsD_map]
  exact if_pos h
theorem sortSetD_m (ys : List (List Nat)) (h : ys.length < 4000) : sortSetD (.lst (ys.map .str)) = .ok (.lst ((sortT (dedT ys)).map .str)) := by
  unfold sortSetD setD
  dsimp only
  rw [strsD_map]
  exact if_pos h
theorem toS_inj {x y : List Nat} (h : toS x = toS y) : x = y := by
  have := congrArg (fun z : Str => z.cps.toList) h
  simpa [toS] using this
theorem toS_cps (z : Str) : toS z.cps.toList = z := by
  show (⟨z.cps.toList.toArray⟩ : Str) = z
  rw [Array.toArray_toList]
/-- a list of texts with the same members, each once -/
theorem ded_perm {ns : List Str} {ys : List (List Nat)} (nd : ns.Nodup) (hm : ∀ k, k ∈ ns ↔ decide (k ∈ ys.map toS) = true) : (ns.map fun z => z.cps.toList).Perm (dedT ys) := by
  refine (List.perm_ext_iff_of_nodup ?_ (dedT_nodup ys)).mpr fun x => ?_
  · refine List.pairwise_map.mpr (nd.imp fun {a b} h e => h ?_)
    rw [← toS_cps a, ← toS_cps b, e]
  · rw [dedT_mem, List.mem_map]
    constructor
    · rintro ⟨z, hz, rfl⟩
      have := (hm z).mp hz
      simp only [decide_eq_true_eq, List.mem_map] at this
      obtain ⟨y, hy, rfl⟩ := this
      exact hy
    · intro h
      exact ⟨toS x, (hm _).mpr (by simpa using ⟨x, h, rfl⟩), rfl⟩
/-- as many turns as the root has letters -/
theorem ded_rots {w : List Nat} (hw : w ≠ []) : (dedT (rots w)).length = rlen w := by
  obtain ⟨r1, r2, r3⟩ := rlen_spec hw
  obtain ⟨p1, p2, p3⟩ := rtOk_iff.mp r2
  have hp := List.length_pos_iff.mpr hw
  have hper : ∀ k, k < w.length → rot w k = rot w (k % rlen w) := fun k hk => by
    have hkm : k % rlen w < rlen w := Nat.mod_lt _ p1
    apply List.ext_getElem?
    intro i
    by_cases hi : i < w.length
    · rw [rot_get w k i (by omega) hi, rot_get w _ i (by omega) hi, p3 _ (Nat.mod_lt _ hp), p3 ((i + k % rlen w) % w.length) (Nat.mod_lt _ hp),
        Nat.mod_mod_of_dvd _ (Nat.dvd_of_mod_eq_zero p2), Nat.mod_mod_of_dvd _ (Nat.dvd_of_mod_eq_zero p2), Nat.add_mod_mod]
    · rw [List.getElem?_eq_none (by rw [rot_len]; omega), List.getElem?_eq_none (by rw [rot_len]; omega)]
  have hinj : ∀ i j, i < j → j < rlen w → rot w i ≠ rot w j := fun i j hij hj e => by
    have e1 : rot (rot w i) (w.length - i) = rot (rot w j) (w.length - i) := by rw [e]
    rw [rot_rot w i _ (by omega) (by omega) hp, rot_rot w j _ (by omega) (by omega) hp] at e1
    rw [show i + (w.length - i) = w.length by omega, Nat.mod_self, rot_zero, show j + (w.length - i) = (j - i) + w.length by omega, Nat.add_mod_right, Nat.mod_eq_of_lt (by omega)] at e1
    have := rt_of_rot e1.symm (by omega) (by omega)
    omega
  have hnd : ((List.range (rlen w)).map (rot w)).Nodup := by
    refine List.pairwise_map.mpr ?_
    refine List.pairwise_iff_getElem.mpr fun i j hi hj hij => ?_
    simp only [List.getElem_range]
    exact hinj i j hij (by simpa using hj)
  have hperm : (dedT (rots w)).Perm ((List.range (rlen w)).map (rot w)) := by
    refine (List.perm_ext_iff_of_nodup (dedT_nodup _) hnd).mpr fun x => ?_
    rw [dedT_mem, mem_rots, List.mem_map]
    constructor
    · rintro ⟨k, hk, rfl⟩
      exact ⟨k % rlen w, by simpa using Nat.mod_lt _ p1, (hper k hk).symm⟩
    · rintro ⟨k, hk, rfl⟩
      exact ⟨k, by simp at hk; omega, rfl⟩
  have := hperm.length_eq
  simpa using this
section
variable {X : Cx} {C : CT} {W : WX} {a : Expr} {fa : SS → R D} {pos q p2 p : Pos}
theorem s_lenSet (v : Pl X C W) (hg : Gl X "len") (hm : X.mg "len" = none) (hg2 : Gl X "set") (hm2 : X.mg "set" = none) (ha : PE X a (tB C W fa))
    (na : starEach [a] X.env = (false, eval a X.env) :: starEach [] X.env := by rfl) : PE X (.Call (.Name "len" p) [.Call (.Name "set" p2) [a] [] q] [] pos) (tD C W (eUn lenSetD fa)) := by
  refine ⟨fun pins s σ H Q I h => ?_⟩
  obtain ⟨F, sd, S, h⟩ := h
  refine Call_ (ld_blt I hg hm boot_len ?_)
  refine PyProof.Rows.callWith_builtin1 (PyProof.Rows.args_cons ?_ rfl) rfl rfl
  refine Call_ (ld_blt I hg2 hm2 boot_set ?_)
  refine PyProof.Rows.callWith_type1 (PyProof.Rows.args_cons (thn (ha.run pins s σ H (fun u H1 => ∃ F1 d, Ext F H F1 H1 ∧ Bor C.G F1 H1 d u ∧ PostE C W F1 H1 σ (pD C) Q (lenSetD d)) I ⟨F, sd, S, PostE.bind h fun d u F1 H1 e1 b1 h1 => ⟨F1, d, e1, b1, h1⟩⟩) fun u s1 ⟨x, H1, I1, r1, q1⟩ => PyProof.Rows.args_nil ?_) na) na rfl
  obtain ⟨F1, d, e1, b1, h1⟩ := q1
  unfold lenSetD setD at h1
  split at h1
  · split at h1
    · rename_i ys hys
      split at h1
      · rename_i hz
        obtain ⟨l, us, rfl, qq, rr⟩ := bor_lst e1.fh b1
        obtain rfl : u = Value.ref l := r1
        obtain ⟨eu, hok⟩ := strs_rep hys rr
        rw [← v.K, eu] at qq
        obtain ⟨its, rv, p', hz2⟩ := I1.list qq
        have hS := rv.strs
        refine ZT.call_set_listT (ys.map toS) (I1.ok.hd v.calm) p'.isList (by simpa using hS) (by rw [List.length_map]; show ys.length ≤ 4096; omega) fun h' tk c R hc hk => ?_
        refine PyProof.Rows.args_nil ?_
        obtain ⟨o, es, ep, t, ho, hex, hd, g, nd, hm', hb, hf, hn, hr, hl⟩ := R
        have I2 : Inv X pins σ H1 { s1 with heap := h', toks := tk } := I1.kept hk
        have hlen : es.size = (dedT ys).length := by
          have pp := ded_perm (ns := es.toList.map ZT.tkey) (ys := ys) nd fun k => (hm' k).symm
          have := pp.length_eq
          simpa using this
        refine call_len_set ho hex hd hf (by have : es.size ≤ 4096 := hb; omega) ?_
        refine ⟨.int (dedT ys).length, H1, I2.tok _, ⟨_, by rw [hlen]⟩, h1 _ F1 H1 (Ext.refl e1.fh) (rep_int.mpr rfl)⟩
      · exact h1.elim
    · exact h1.elim
  · exact h1.elim
theorem s_sortSet (v : Pl X C W) (hg : Gl X "sorted") (hm : X.mg "sorted" = none) (hg2 : Gl X "set") (hm2 : X.mg "set" = none) (ha : PE X a (tB C W fa))
    (na : starEach [a] X.env = (false, eval a X.env) :: starEach [] X.env := by rfl) : PE X (.Call (.Name "sorted" p) [.Call (.Name "set" p2) [a] [] q] [] pos) (tF C W (eUn sortSetD fa)) := by
  refine ⟨fun pins s σ H Q I h => ?_⟩
  obtain ⟨F, sd, S, h⟩ := h
  refine Call_ (ld_blt I hg hm (by decide +kernel : bootBuiltins "sorted" = some (.builtin "sorted")) ?_)
  refine PyProof.Rows.callWith_builtin1 (PyProof.Rows.args_cons ?_ rfl) rfl rfl
  refine Call_ (ld_blt I hg2 hm2 boot_set ?_)
  refine PyProof.Rows.callWith_type1 (PyProof.Rows.args_cons (thn (ha.run pins s σ H (fun u H1 => ∃ F1 d, Ext F H F1 H1 ∧ Bor C.G F1 H1 d u ∧ PostE C W F1 H1 σ (pF C H) Q (sortSetD d)) I ⟨F, sd, S, PostE.bind h fun d u F1 H1 e1 b1 h1 => ⟨F1, d, e1, b1, h1⟩⟩) fun u s1 ⟨x, H1, I1, r1, q1⟩ => PyProof.Rows.args_nil ?_) na) na rfl
  obtain ⟨F1, d, e1, b1, h1⟩ := q1
  unfold sortSetD setD at h1
  split at h1
  · split at h1
    · rename_i ys hys
      split at h1
      · rename_i hz
        obtain ⟨l, us, rfl, qq, rr⟩ := bor_lst e1.fh b1
        obtain rfl : u = Value.ref l := r1
        obtain ⟨eu, hok⟩ := strs_rep hys rr
        rw [← v.K, eu] at qq
        obtain ⟨its, rv, p', hz2⟩ := I1.list qq
        have hS := rv.strs
        refine ZT.call_set_listT (ys.map toS) (I1.ok.hd v.calm) p'.isList (by simpa using hS) (by rw [List.length_map]; show ys.length ≤ 4096; omega) fun h' tk c R hc hk => ?_
        refine PyProof.Rows.args_nil ?_
        have I2 : Inv X pins σ H1 { s1 with heap := h', toks := tk } := I1.kept hk
        refine ZT.sorted_setT (s := { s1 with heap := h', toks := tk }) R (by have q := hc; rw [List.length_map] at q; show c < 4096; omega) (I1.ok.hd v.calm) fun s' pp out cc ns k1 g1 o1 hpp hget hst hpw hnd hmem hlen => ?_
        have hperm := ded_perm (ys := ys) hnd hmem
        have e2 : ns.map (fun z => z.cps.toList) = sortT (dedT ys) := sortT_uniq hperm (List.pairwise_map.mpr hpw)
        have e3 : ns = (sortT (dedT ys)).map toS := by
          rw [← e2, List.map_map]
          conv => lhs; rw [← List.map_id ns]
          exact List.map_congr_left fun z _ => (toS_cps z).symm
        have k2 : ∀ b o, s1.heap.get? b = some o → s'.heap.get? b = some o := fun b o e => k1 b o (hk b o e)
        have hsz : s1.heap.objs.size ≤ pp := Nat.le_trans (Nat.le_of_lt R.lt) hpp
        have hfr : H1 pp = none := I1.hok.fresh hsz
        have hzz : ((sortT (dedT ys)).map toS).length ≤ 4096 := by
          rw [List.length_map, (sortT_perm _).length_eq]
          have := dedT_le ys
          omega
        have J : Inv X pins σ (upd H1 pp (.lst (((sortT (dedT ys)).map toS).map V.str))) { s1 with heap := s'.heap, gens := s'.gens, drawn := s'.drawn, toks := s'.toks } :=
          I1.call (ch := []) (Un.laid k2 hsz hfr) (I1.hok.laid k2 hsz ⟨by rw [List.length_map, sizeLine_eq]; omega, out.toList, cc, by rw [← e3]; exact vals_of_strs hst, by rw [Array.toArray_toList]; exact hget⟩) (by rw [g1]; exact I1.bare) (fun _ z => nomatch z)
        have es : s' = { s1 with heap := s'.heap, gens := s'.gens, drawn := s'.drawn, toks := s'.toks } := by
          cases s'
          cases s1
          cases o1
          rfl
        rw [es]
        exact ⟨.ref pp, _, J, rfl, h1 _ F1 _ (Ext.newOwn e1.fh hfr) ⟨_, rfl, e1.hh.free hfr, e1.fh.free hfr, _, upd_same, repL_strs _ fun x hx => hok x (dedT_mem.mp ((sortT_perm _).mem_iff.mp hx))⟩⟩
      · exact h1.elim
    · exact h1.elim
  · exact h1.elim
end
end
end Z
namespace Z
noncomputable section
open PySem PySem.Spec PySem.P PyProof.Rows L2
/-! ### for x in xs, xs an own list: it is locked meanwhile -/
def unlS (i : Nat) (s : SS) : Option SS := match s[i]? with
  | some (.lk d) => some (s.set i (.ow d))
  | _ => none
def unlR (i : Nat) : RS → RS
  | .nx s => (match unlS i s with | some s' => .nx s' | none => .bad)
  | .bk _ => .bad
  | .ct _ => .bad
  | .rt b d => .rt b d
  | .ex c vs s => (match unlS i s with | some s' => .ex c vs s' | none => .bad)
  | .rm d s => (match unlS i s with | some s' => .rm d s' | none => .bad)
  | .rn j s => (match unlS i s with | some s' => .rn j s' | none => .bad)
  | .bad => .bad
def sForO (i : Nat) (ft : FG) (f : SS → RS) : SS → RS := fun s => match owL s i with
  | some ds => unlR i (forL (turn ft f) ds (s.set i (.lk (.lst ds))))
  | none => .bad
/-- a slot's word changed, not what it holds -/
theorem StR.relk {C : CT} {F H : Hp} {s : SS} {σ : L2.St} {i : Nat} {d : D} {x : Sl} (S : StR C F H s σ) (h : s[i]? = some (.ow d) ∨ s[i]? = some (.lk d)) (hx : x = .ow d ∨ x = .lk d) : StR C F H (s.set i x) σ := by
  have hi : i < s.length := by
    rcases h with h | h <;> exact (List.getElem?_eq_some_iff.mp h).1
  have key : ∀ {j : Nat} {e : D}, (s.set i x)[j]? = some (.ow e) ∨ (s.set i x)[j]? = some (.lk e) → s[j]? = some (.ow e) ∨ s[j]? = some (.lk e) := fun {j e} q => by
    by_cases hij : i = j
    · subst hij
      rw [List.getElem?_set_self hi] at q
      rcases hx with rfl | rfl
      · rcases q with q | q <;> cases q
        exact h
      · rcases q with q | q <;> cases q
        exact h
    · rw [List.getElem?_set_ne hij] at q
      exact q
  refine ⟨S.ext, by rw [List.length_set]; exact S.len, fun j e q => ?_, fun j e q => S.ow j e (key q), fun j k e e' a q1 q2 q3 q4 => S.dis j k e e' a (key q1) (key q2) q3 q4,
    S.nt.step (fun j k e q => by
      by_cases hij : i = j
      · subst hij
        rw [List.getElem?_set_self hi] at q
        rcases hx with rfl | rfl <;> cases q
      · rw [List.getElem?_set_ne hij] at q
        exact ⟨q, rfl⟩) (fun j k l q => by
      by_cases hij : i = j
      · subst hij
        rw [List.getElem?_set_self hi] at q
        rcases hx with rfl | rfl <;> cases q
      · rw [List.getElem?_set_ne hij] at q
        exact ⟨q, rfl⟩) (fun j e b q z => .inl ⟨j, e, key q, z⟩) (Same.refl F) fun b o z1 z2 _ => ⟨z1, z2⟩⟩
  by_cases hij : i = j
  · subst hij
    rw [List.getElem?_set_self hi] at q
    rcases hx with rfl | rfl <;> cases q
  · rw [List.getElem?_set_ne hij] at q
    exact S.sh j e q
theorem lk_un {C : CT} {sd : SS} {σ : L2.St} {i : Nat} {d : D} {s' s2 : SS} {σ' : L2.St} (hnd : ∀ c vs, d ≠ .obj c vs) (ho : sd[i]? = some (.ow d)) (l : Lk (sd.set i (.lk d)) σ s' σ') (hu : unlS i s' = some s2) : s2 = s'.set i (.ow d) ∧ s'[i]? = some (.lk d) ∧ Lk sd σ s2 σ' := by
  have hi := (List.getElem?_eq_some_iff.mp ho).1
  have h1 := (l.same (List.getElem?_set_self hi) hnd).1
  unfold unlS at hu
  rw [h1] at hu
  cases hu
  refine ⟨rfl, h1, fun j x q k => ?_⟩
  have hij : i ≠ j := fun z => by subst z; rw [ho] at q; cases q; cases k
  obtain ⟨g1, g2⟩ := l j x (by rw [List.getElem?_set_ne hij]; exact q) k
  obtain ⟨d1, g1, gl⟩ := g1
  exact ⟨⟨d1, by rw [List.getElem?_set_ne hij]; exact g1, gl⟩, g2⟩
theorem postS_unl {C : CT} {W : WX} {F : Hp} {sd : SS} {σ : L2.St} {En : Ends} {i : Nat} {d : D} {r : RS} (hnd : ∀ c vs, d ≠ .obj c vs) (ho : sd[i]? = some (.ow d)) (h : PostS C W F sd σ En (unlR i r)) : PostS C W F (sd.set i (.lk d)) σ En r := by
  cases r with
  | nx s =>
    intro F' H' σ' S f l
    have h : PostS C W F sd σ En (match unlS i s with | some s' => .nx s' | none => .bad) := h
    cases q : unlS i s with
    | none => rw [q] at h; exact h.elim
    | some s2 =>
      rw [q] at h
      obtain ⟨rfl, h1, h2⟩ := lk_un (C := C) hnd ho l q
      exact h F' H' σ' (S.relk (.inr h1) (.inl rfl)) f h2
  | bk s => exact h.elim
  | ct s => exact h.elim
  | rt b e => cases b <;> exact h
  | ex c vs s =>
    intro cls dx F' H' σ' S f l xr
    have h : PostS C W F sd σ En (match unlS i s with | some s' => .ex c vs s' | none => .bad) := h
    cases q : unlS i s with
    | none => rw [q] at h; exact h.elim
    | some s2 =>
      rw [q] at h
      obtain ⟨rfl, h1, h2⟩ := lk_un (C := C) hnd ho l q
      exact h cls dx F' H' σ' (S.relk (.inr h1) (.inl rfl)) f h2 xr
  | rm e s =>
    intro v F' H' σ' S f l r
    have h : PostS C W F sd σ En (match unlS i s with | some s' => .rm e s' | none => .bad) := h
    cases q : unlS i s with
    | none => rw [q] at h; exact h.elim
    | some s2 =>
      rw [q] at h
      obtain ⟨rfl, h1, h2⟩ := lk_un (C := C) hnd ho l q
      exact h v F' H' σ' (S.relk (.inr h1) (.inl rfl)) f h2 r
  | rn e s =>
    intro v F' H' σ' S f l r
    have h : PostS C W F sd σ En (match unlS i s with | some s' => .rn e s' | none => .bad) := h
    cases q : unlS i s with
    | none => rw [q] at h; exact h.elim
    | some s2 =>
      rw [q] at h
      obtain ⟨rfl, h1, h2⟩ := lk_un (C := C) hnd ho l q
      exact h v F' H' σ' (S.relk (.inr h1) (.inl rfl)) f h2 r
  | bad => exact h.elim
section
variable {X : Cx} {C : CT} {W : WX} {tg : Expr} {p pos : Pos} {x : Str} {ft : FG} {vs : List Nat} {f : SS → RS} {body : List Stmt}
theorem s_forO (v : Pl X C W) (i : Nat) (hg : PG X tg (tG C ft vs)) (hb : PSs X body (tS C W f)) (hN : X.N[i]? = some x := by rfl) (hv : Vis X.env.scope x := by first | exact Or.inl rfl | exact Or.inr (Or.inl rfl) | exact Or.inr (Or.inr rfl))
    (hd : (x == ("__debug__" : Str)) = false := by decide) (hcd : (x == ("__classdict__" : Str)) = false := by decide) (hs : ∀ w, foldedSetIterable (.Name x p) X.env w = pure w := by intro _; rfl) :
    PS X (.For tg (.Name x p) body [] pos) (tS C W (sForO i ft f)) := by
  refine ps_imp (ps_for v.pass v.calm (pi_list (pe_var (i := i) hN hv hd hcd)) hg hb hs) fun En σ H ⟨F, sd, S, h⟩ => ?_
  unfold sForO at h
  split at h
  · rename_i ds hx
    have ho := owL_some hx
    have hi := (List.getElem?_eq_some_iff.mp ho).1
    have h := postS_unl (fun _ _ z => by cases z) ho h
    have S0 := S.relk (x := .lk (.lst ds)) (.inl ho) (.inr rfl)
    generalize hsd : sd.set i (.lk (.lst ds)) = sl at h S0
    have hl0 : sl[i]? = some (.lk (.lst ds)) := by rw [← hsd]; exact List.getElem?_set_self hi
    obtain ⟨a, q1, q2, q3, vs0, q4, q5⟩ := S.ow i _ (.inl ho)
    refine ⟨_, q1, a, rfl, ⟨vs0, SqL.of q4⟩, ?_⟩
    have at' : ∀ {F' H' : Hp} {s' : SS} {σ' : L2.St}, StR C F' H' s' σ' → Lk sl σ s' σ' → ∃ us, SqL X.K H' a us ∧ RepL C.G F' ds us := fun {F' H' s' σ'} S' l' => by
      obtain ⟨g1, g2⟩ := l'.same hl0 (fun _ _ z => by cases z)
      obtain ⟨b, r1, r2, r3, us, r4, r5⟩ := S'.ow i _ (.inr g1)
      rw [g2, q1] at r1
      cases r1
      exact ⟨us, SqL.of r4, r5⟩
    refine ⟨fun k m σ' H' => m = ds.length - k ∧ k ≤ ds.length ∧ ∃ F' s', StR C F' H' s' σ' ∧ Same F F' ∧ Lk sl σ s' σ' ∧ PostS C W F' s' σ' En (forL (turn ft f) (ds.drop k) s'),
      ⟨ds.length, by omega, Nat.zero_le _, F, sl, S0, Same.refl F, Lk.refl, h⟩, ?_⟩
    rintro k m σ' H' ⟨rfl, hk, F', s', S', f1, l1, h1⟩
    obtain ⟨us, u1, u2⟩ := at' S' l1
    by_cases hlt : k < ds.length
    · have hku : k < us.length := by rw [u2.length]; exact hlt
      refine .inr ⟨⟨us, us[k], u1, by simp [hku]⟩, fun σ2 H2 => ∃ F2 s2, StR C F2 H2 s2 σ2 ∧ Same F F2 ∧ Lk sl σ s2 σ2 ∧ PostS C W F2 s2 σ2 En (forL (turn ft f) (ds.drop (k + 1)) s2), fun σ2 H2 n2 => ⟨ds.length - (k + 1), by omega, rfl, hlt, n2⟩, fun y H'' hy => ?_⟩
      obtain ⟨rfl, hy⟩ := hy
      obtain ⟨d, hd', r⟩ := u2.get' (hy us u1)
      have hdr : ds.drop k = d :: ds.drop (k + 1) := by
        obtain ⟨hi', e⟩ := List.getElem?_eq_some_iff.mp hd'
        rw [List.drop_eq_getElem_cons hi', e]
      rw [hdr] at h1
      unfold forL turn at h1
      cases q : ft d s' with
      | none => rw [q] at h1; exact h1.elim
      | some s2 =>
        rw [q] at h1
        refine ⟨F', s', d, s2, S', r, q, fun σ2 S2 l2 _ => ⟨F', s2, S2, ?_⟩⟩
        have h1 : PostS C W F' s' σ' En (match f s2 with
          | .nx s' => forL (turn ft f) (ds.drop (k + 1)) s'
          | .ct s' => forL (turn ft f) (ds.drop (k + 1)) s'
          | .bk s' => .nx s'
          | .rt b d => .rt b d
          | .ex c vs s' => .ex c vs s'
          | .rm d s' => .rm d s'
          | .rn j s' => .rn j s'
          | .bad => .bad) := h1
        cases kk : f s2 with
        | nx s3 =>
          rw [kk] at h1
          exact fun F3 H3 σ3 S3 f3 l3 => ⟨F3, s3, S3, f1.trans f3, l1.trans (l2.trans l3), PostS.mono f3 (l2.trans l3) h1⟩
        | ct s3 =>
          rw [kk] at h1
          exact fun F3 H3 σ3 S3 f3 l3 => ⟨F3, s3, S3, f1.trans f3, l1.trans (l2.trans l3), PostS.mono f3 (l2.trans l3) h1⟩
        | bk s3 =>
          rw [kk] at h1
          exact fun F3 H3 σ3 S3 f3 l3 => h1 F3 H3 σ3 S3 f3 (l2.trans l3)
        | rt b d =>
          rw [kk] at h1
          cases b with
          | false => exact fun v F3 H3 e3 f3 r3 => h1 v F3 H3 e3 f3 r3
          | true => exact fun v F3 H3 e3 f3 r3 => h1 v F3 H3 e3 f3 r3
        | ex c vs s3 =>
          rw [kk] at h1
          exact fun cls dx F3 H3 σ3 S3 f3 l3 r3 => h1 cls dx F3 H3 σ3 S3 f3 (l2.trans l3) r3
        | rm d s3 =>
          rw [kk] at h1
          exact fun v F3 H3 σ3 S3 f3 l3 r3 => h1 v F3 H3 σ3 S3 f3 (l2.trans l3) r3
        | rn j s3 =>
          rw [kk] at h1
          exact fun v F3 H3 σ3 S3 f3 l3 r3 => h1 v F3 H3 σ3 S3 f3 (l2.trans l3) r3
        | bad => rw [kk] at h1; exact h1.elim
    · have e : k = ds.length := by omega
      subst e
      rw [List.drop_length] at h1
      exact .inl ⟨⟨us, u1, by rw [u2.length]; exact Nat.le_refl _⟩, h1 F' H' σ' S' (Same.refl _) Lk.refl⟩
  · exact h.elim
end
/-! plain -/
def rForO (s : SS) (i : Nat) (ft : FG) (f : SS → RS) : Option (List D) → RS
  | some ds => unlR i (forL (turn ft f) ds (s.set i (.lk (.lst ds))))
  | none => .bad
@[simp] theorem sForO_s (s : SS) (i : Nat) (ft : FG) (f : SS → RS) : sForO i ft f s = rForO s i ft f (getOw s[i]?) := by
  unfold sForO
  rw [owL_s]
  cases getOw s[i]? <;> rfl
@[simp] theorem rForO_s (s : SS) (i : Nat) (ft : FG) (f : SS → RS) (ds : List D) : rForO s i ft f (some ds) = unlR i (forL (turn ft f) ds (s.set i (.lk (.lst ds)))) := rfl
def unlG (s : SS) (i : Nat) : Option Sl → Option SS
  | some (.lk d) => some (s.set i (.ow d))
  | _ => none
@[simp] theorem unlS_s (s : SS) (i : Nat) : unlS i s = unlG s i s[i]? := by
  unfold unlS
  generalize s[i]? = o
  cases o with
  | none => rfl
  | some x => cases x <;> rfl
@[simp] theorem unlG_lk (s : SS) (i : Nat) (d : D) : unlG s i (some (.lk d)) = some (s.set i (.ow d)) := rfl
@[simp] theorem unlR_nx (s : SS) (i : Nat) : unlR i (.nx s) = match unlS i s with | some s' => .nx s' | none => .bad := rfl
@[simp] theorem unlR_rt (i : Nat) (b : Bool) (d : D) : unlR i (.rt b d) = .rt b d := rfl
@[simp] theorem sAsg_s (ft : FG) (fe : SS → R D) (s : SS) : sAsg ft fe s = rE s (fe s) fun d s => optS (ft d s) := rfl
@[simp] theorem gT_t (gs : List FG) (ds : List D) (s : SS) : gT gs (.tup ds) s = seqG gs ds s := rfl
@[simp] theorem seqG_nil (s : SS) : seqG [] [] s = some s := rfl
@[simp] theorem seqG_cons (g : FG) (gs : List FG) (d : D) (ds : List D) (s : SS) : seqG (g :: gs) (d :: ds) s = (g d s).bind (seqG gs ds) := rfl
end
end Z
namespace Z
noncomputable section
open PySem PySem.Spec PySem.P PyProof.Rows L2
/-! ### least words, their beginnings -/
/-- not greater than any turn of itself -/
def Nk (w : List Nat) : Prop := ∀ k, k < w.length → ¬ rot w k < w
theorem nk_iff {w : List Nat} (hw : w ≠ []) : Nk w ↔ lrot w = w := by
  constructor
  · intro h
    refine (lrot_uniq hw (self_rots hw) fun x hx => ?_).symm
    obtain ⟨k, hk, rfl⟩ := mem_rots.mp hx
    exact h k hk
  · intro h k hk
    have := (lrot_spec hw).2 _ (mem_rots.mpr ⟨k, hk, rfl⟩)
    rwa [h] at this
/-- letters below a top -/
def Below (top : Nat) (w : List Nat) : Prop := ∀ x ∈ w, x ≤ top
theorem Below.app {t : Nat} {a b : List Nat} : Below t (a ++ b) ↔ Below t a ∧ Below t b := by
  unfold Below
  constructor
  · exact fun h => ⟨fun x hx => h x (List.mem_append_left _ hx), fun x hx => h x (List.mem_append_right _ hx)⟩
  · rintro ⟨h1, h2⟩ x hx
    rcases List.mem_append.mp hx with h | h
    · exact h1 x h
    · exact h2 x h
/-- nothing is greater than all tops -/
theorem top_max {top : Nat} : ∀ (w : List Nat), Below top w → ¬ List.replicate w.length top < w
  | [], _ => by simp
  | a :: w, h => by
    have ha := h a List.mem_cons_self
    have hw : Below top w := fun x hx => h x (List.mem_cons_of_mem _ hx)
    rw [List.length_cons, List.replicate_succ, List.cons_lt_cons_iff]
    rintro (h1 | ⟨_, h1⟩)
    · omega
    · exact top_max w hw h1
theorem top_eq {top : Nat} {w : List Nat} (h : Below top w) (h2 : ¬ w < List.replicate w.length top) : w = List.replicate w.length top := by
  rcases lex_tri w (List.replicate w.length top) with h3 | h3 | h3
  · exact absurd h3 h2
  · exact h3
  · exact absurd h3 (top_max w h)
/-- in a least word each piece is not less than the begin of its length -/
theorem nk_pieces {w : List Nat} (h : Nk w) {k l : Nat} (hk : k + l ≤ w.length) : ¬ (w.drop k).take l < w.take l := by
  intro hlt
  by_cases hkl : k < w.length
  · apply h k hkl
    have e1 : rot w k = (w.drop k).take l ++ ((w.drop k).drop l ++ w.take k) := by
      unfold rot
      rw [← List.append_assoc, List.take_append_drop]
    have e2 : w = w.take l ++ w.drop l := (List.take_append_drop _ _).symm
    rw [e1]
    conv => rhs; rw [e2]
    exact lex_app hlt (by simp; omega) _ _
  · have : l = 0 := by omega
    subst this
    simp at hlt
theorem nk_rep (top n : Nat) : Nk (List.replicate n top) := fun k hk => by
  have : rot (List.replicate n top) k = List.replicate n top := by
    apply List.eq_replicate_iff.mpr
    refine ⟨by rw [rot_len]; simp, fun b hb => ?_⟩
    unfold rot at hb
    rcases List.mem_append.mp hb with h | h
    · exact List.eq_of_mem_replicate (List.mem_of_mem_drop h)
    · exact List.eq_of_mem_replicate (List.mem_of_mem_take h)
  rw [this]
  exact List.lt_irrefl _
/-- a least word whose first letter is the top one -/
theorem nk_top {top : Nat} {a : Nat} {w : List Nat} (h : Nk (a :: w)) (hb : Below top (a :: w)) (ha : a = top) : a :: w = List.replicate (w.length + 1) top := by
  apply List.eq_replicate_iff.mpr
  refine ⟨by simp, fun b hbm => ?_⟩
  obtain ⟨i, hi, rfl⟩ := List.mem_iff_getElem.mp hbm
  have h1 := nk_pieces h (k := i) (l := 1) (by omega)
  have h2 := hb _ hbm
  rw [List.drop_eq_getElem_cons hi] at h1
  simp only [List.take_succ_cons, List.take_zero, List.cons_lt_cons_iff, List.lt_irrefl, and_false, or_false] at h1
  omega
/-- a beginning that repeats and ends in tops -/
theorem per_top {top k : Nat} {t : List Nat} (h0 : 0 < k) (hk : k ≤ t.length) (hp : t.drop k = t.take (t.length - k)) (he : t.drop (t.length - k) = List.replicate k top) : t[0]? = some top := by
  have step : ∀ i, i + k < t.length → t[i + k]? = t[i]? := fun i hi => by
    have := congrArg (fun z => z[i]?) hp
    simp only [List.getElem?_drop, List.getElem?_take] at this
    rw [if_pos (by omega)] at this
    rw [Nat.add_comm]
    exact this
  have walk : ∀ j, j * k < t.length → t[j * k]? = t[0]? := fun j => by
    induction j with
    | zero => intro _; simp
    | succ j ih =>
      intro hj
      rw [Nat.succ_mul] at hj ⊢
      rw [step _ hj, ih (by omega)]
  have hq : (t.length - 1) / k * k ≤ t.length - 1 := Nat.div_mul_le_self _ _
  have hq2 := Nat.lt_div_mul_add h0 (a := t.length - 1)
  rw [← walk ((t.length - 1) / k) (by omega)]
  have := congrArg (fun z => z[(t.length - 1) / k * k - (t.length - k)]?) he
  simp only [List.getElem?_drop, List.getElem?_replicate] at this
  rw [if_pos (by omega), show t.length - k + ((t.length - 1) / k * k - (t.length - k)) = (t.length - 1) / k * k by omega] at this
  exact this
/-- THE FACT of beginnings -/
theorem nk_fill {top : Nat} {t s : List Nat} (hb : Below top (t ++ s)) (h : Nk (t ++ s)) : Nk (t ++ List.replicate s.length top) := by
  have hbt := (Below.app.mp hb).1
  have hbs := (Below.app.mp hb).2
  cases t with
  | nil => exact nk_rep _ _
  | cons a t' =>
    by_cases ha : a = top
    · have h1 := nk_top (w := t' ++ s) h hb ha
      have h2 : a :: t' = List.replicate (t'.length + 1) top := by
        apply List.eq_replicate_iff.mpr
        refine ⟨by simp, fun b hbm => ?_⟩
        have : b ∈ a :: (t' ++ s) := by
          rcases List.mem_cons.mp hbm with rfl | hb'
          · exact List.mem_cons_self
          · exact List.mem_cons_of_mem _ (List.mem_append_left _ hb')
        rw [h1] at this
        exact List.eq_of_mem_replicate this
      rw [h2, List.replicate_append_replicate]
      exact nk_rep _ _
    · have hat : a < top := by
        have := hbt a List.mem_cons_self
        omega
      generalize ht : a :: t' = t at h hb hbt
      have ht0 : t[0]? = some a := by rw [← ht]; rfl
      have htl : 0 < t.length := by rw [← ht]; simp
      generalize hT : List.replicate s.length top = T
      have hTl : T.length = s.length := by rw [← hT]; simp
      intro k hk hlt
      have hlt0 := hlt
      have hk00 := hk
      by_cases h0 : k = 0
      · subst h0
        rw [rot_zero] at hlt
        exact List.lt_irrefl _ hlt
      · rw [List.length_append, hTl] at hk
        by_cases hkt : k < t.length
        · -- a turn that begins within t
          have e1 : rot (t ++ T) k = t.drop k ++ (T ++ t.take k) := by
            unfold rot
            rw [List.drop_append_of_le_length (by omega), List.take_append_of_le_length (by omega), List.append_assoc]
          have e2 : t ++ T = t.take (t.length - k) ++ (t.drop (t.length - k) ++ T) := by
            rw [← List.append_assoc, List.take_append_drop]
          have hl : (t.drop k).length = (t.take (t.length - k)).length := by simp
          rw [e1, e2] at hlt
          have hpc := nk_pieces h (k := k) (l := t.length - k) (by rw [List.length_append]; omega)
          rw [List.drop_append_of_le_length (by omega), List.take_append_of_le_length (by simp), List.take_append_of_le_length (by omega), List.take_of_length_le (by simp)] at hpc
          rcases lex_same hl hlt with h1 | ⟨heq, h1⟩
          · exact hpc h1
          · -- it repeats
            have hr := h k (by rw [List.length_append]; omega)
            have e3 : rot (t ++ s) k = t.drop k ++ (s ++ t.take k) := by
              unfold rot
              rw [List.drop_append_of_le_length (by omega), List.take_append_of_le_length (by omega), List.append_assoc]
            have e4 : t ++ s = t.take (t.length - k) ++ (t.drop (t.length - k) ++ s) := by
              rw [← List.append_assoc, List.take_append_drop]
            rw [e3] at hr
            conv at hr => rhs; rhs; rw [e4]
            rw [heq, lex_pre] at hr
            generalize hX : t.drop (t.length - k) = X at h1 hr
            have hXl : X.length = k := by rw [← hX]; simp; omega
            have hbX : Below top X := fun x hx => hbt x (by rw [← hX] at hx; exact List.mem_of_mem_drop hx)
            have hbXT : Below top (X ++ T) := Below.app.mpr ⟨hbX, fun x hx => by rw [← hT] at hx; exact Nat.le_of_eq (List.eq_of_mem_replicate hx)⟩
            -- T = the begin of X ++ T
            have e5 : X ++ T = (X ++ T).take T.length ++ (X ++ T).drop T.length := (List.take_append_drop _ _).symm
            have hbt5 : Below top ((X ++ T).take T.length) := fun x hx => hbXT x (List.mem_of_mem_take hx)
            have hl5 : ((X ++ T).take T.length).length = T.length := by simp
            have hTT : T = List.replicate ((X ++ T).take T.length).length top := by rw [hl5, hTl]; exact hT.symm
            rw [e5] at h1
            have hTx : T = (X ++ T).take T.length := by
              rcases lex_same hl5.symm h1 with h2 | ⟨h2, _⟩
              · have h3 := top_max _ hbt5
                rw [← hTT] at h3
                exact absurd h2 h3
              · exact h2
            by_cases hkm : T.length ≤ k
            · -- s is all tops
              have h6 : X.take T.length = T := by
                rw [List.take_append_of_le_length (by omega)] at hTx
                exact hTx.symm
              have h7 : ¬ s < List.replicate s.length top := by
                rw [hT]
                intro h8
                apply hr
                rw [← List.take_append_drop T.length X, List.append_assoc, h6]
                exact lex_app h8 (Nat.le_of_eq hTl) _ _
              have h9 := top_eq hbs h7
              rw [hT] at h9
              rw [h9] at h
              exact h k hk00 hlt0
            · have h6 : X = List.replicate k top := by
                have h7 : (X ++ T).take k = T.take k := by
                  conv => rhs; rw [hTx]
                  rw [List.take_take, Nat.min_eq_left (by omega)]
                rw [List.take_append_of_le_length (by omega), List.take_of_length_le (by omega)] at h7
                rw [h7, ← hT, List.take_replicate, Nat.min_eq_left (by omega)]
              have h7 := per_top (top := top) (Nat.pos_of_ne_zero h0) (by omega) heq (by rw [hX]; exact h6)
              rw [ht0] at h7
              have := Option.some.inj h7
              omega
        · -- a turn that begins with the top
          have e1 : rot (t ++ T) k = T.drop (k - t.length) ++ (t ++ T.take (k - t.length)) := by
            unfold rot
            rw [List.drop_append, List.take_append, List.drop_of_length_le (by omega), List.take_of_length_le (by omega : t.length ≤ k)]
            rfl
          have e2 : T.drop (k - t.length) = top :: List.replicate (s.length - (k - t.length) - 1) top := by
            rw [← hT, List.drop_replicate, ← List.replicate_succ]
            congr 1
            omega
          rw [e1, e2, ← ht] at hlt
          simp only [List.cons_append, List.cons_lt_cons_iff] at hlt
          omega
end
end Z
namespace Z
noncomputable section
open PySem PySem.Spec PySem.P PyProof.Rows L2
/-! ### the next letter of a beginning -/
def Beg (top n : Nat) (t : List Nat) : Prop := t.length ≤ n ∧ Nk (t ++ List.replicate (n - t.length) top)
def lperF (t : List Nat) : Nat → Nat → Nat
  | 0, k => k
  | f + 1, k => if t.drop k = t.take (t.length - k) then k else lperF t f (k + 1)
/-- the least shift at which a text agrees with itself -/
def lper (t : List Nat) : Nat := lperF t (t.length - 1) 1
theorem lperF_spec (t : List Nat) : ∀ (f k : Nat), k + f = t.length → (∀ j, 1 ≤ j → j < k → t.drop j ≠ t.take (t.length - j)) → k ≤ lperF t f k ∧ lperF t f k ≤ t.length ∧ t.drop (lperF t f k) = t.take (t.length - lperF t f k) ∧ ∀ j, 1 ≤ j → j < lperF t f k → t.drop j ≠ t.take (t.length - j)
  | 0, k, hk, hj => by
    have : k = t.length := by omega
    subst this
    simp only [lperF]
    refine ⟨Nat.le_refl _, Nat.le_refl _, by simp, hj⟩
  | f + 1, k, hk, hj => by
    simp only [lperF]
    split
    · rename_i h
      exact ⟨Nat.le_refl _, by omega, h, hj⟩
    · rename_i h
      have := lperF_spec t f (k + 1) (by omega) (fun j h1 h2 => by
        by_cases h3 : j = k
        · subst h3; exact h
        · exact hj j h1 (by omega))
      exact ⟨by omega, this.2⟩
theorem lper_spec {t : List Nat} (h : t ≠ []) : 1 ≤ lper t ∧ lper t ≤ t.length ∧ t.drop (lper t) = t.take (t.length - lper t) ∧ ∀ j, 1 ≤ j → j < lper t → t.drop j ≠ t.take (t.length - j) := by
  have := List.length_pos_iff.mpr h
  exact lperF_spec t (t.length - 1) 1 (by omega) (fun j h1 h2 => by omega)
def agn (t : List Nat) : Nat := t.getD (t.length - lper t) 0
theorem take_one {t : List Nat} {i : Nat} (h : i < t.length) : t.take (i + 1) = t.take i ++ [t.getD i 0] := by
  rw [List.take_succ, List.getElem?_eq_getElem h, List.getD_eq_getElem?_getD, List.getElem?_eq_getElem h]
  rfl
/-- the next letter is not less than the one at any shift -/
theorem next_ge {t s : List Nat} {e k : Nat} (h : Nk (t ++ e :: s)) (h1 : 1 ≤ k) (hk : k ≤ t.length) (hp : t.drop k = t.take (t.length - k)) : t.getD (t.length - k) 0 ≤ e := by
  have hpc := nk_pieces h (k := k) (l := t.length - k + 1) (by simp; omega)
  rw [List.drop_append_of_le_length hk, List.take_append_of_le_length (by omega : t.length - k + 1 ≤ t.length), take_one (t := t) (by omega)] at hpc
  rw [show (t.drop k ++ e :: s).take (t.length - k + 1) = t.drop k ++ [e] by
    rw [List.take_append, List.take_of_length_le (by simp), show t.length - k + 1 - (t.drop k).length = 1 by simp]
    rfl, hp, lex_pre, List.cons_lt_cons_iff] at hpc
  omega
/-- of two shifts, the lesser has the greater letter -/
theorem shift_le {t s : List Nat} {p k : Nat} (h : Nk (t ++ s)) (h1 : 1 ≤ p) (hpk : p ≤ k) (hk : k ≤ t.length) (hp : t.drop p = t.take (t.length - p)) (hq : t.drop k = t.take (t.length - k)) : t.getD (t.length - k) 0 ≤ t.getD (t.length - p) 0 := by
  by_cases he : k = p
  · rw [he]; exact Nat.le_refl _
  · have e1 : t = t.take (t.length - p) ++ t.getD (t.length - p) 0 :: t.drop (t.length - p + 1) := by
      have := List.take_append_drop (t.length - p + 1) t
      rw [take_one (by omega), List.append_assoc] at this
      exact this.symm
    generalize hc : t.getD (t.length - p) 0 = c at e1 ⊢
    have hN : Nk (t.take (t.length - p) ++ c :: (t.drop (t.length - p + 1) ++ s)) := by
      have : t.take (t.length - p) ++ c :: (t.drop (t.length - p + 1) ++ s) = t ++ s := by
        conv => rhs; rw [e1]
        simp only [List.append_assoc, List.cons_append]
      rw [this]; exact h
    have hl : (t.take (t.length - p)).length = t.length - p := by simp
    have := next_ge hN (k := k - p) (by omega) (by rw [hl]; omega) (by
      rw [hl, ← hp, List.drop_drop, show p + (k - p) = k by omega, hq, hp, List.take_take]
      congr 1; omega)
    rw [hl, show t.length - p - (k - p) = t.length - k by omega] at this
    have e2 : (t.take (t.length - p)).getD (t.length - k) 0 = t.getD (t.length - k) 0 := by
      rw [List.getD_eq_getElem?_getD, List.getD_eq_getElem?_getD, List.getElem?_take, if_pos (by omega)]
    rw [e2] at this
    exact this
theorem agn_ge {t s : List Nat} {k : Nat} (h : Nk (t ++ s)) (h1 : 1 ≤ k) (hk : k ≤ t.length) (hq : t.drop k = t.take (t.length - k)) : t.getD (t.length - k) 0 ≤ agn t := by
  have ht : t ≠ [] := by intro e; rw [e] at hk; simp at hk; omega
  have hs := lper_spec ht
  refine shift_le h hs.1 ?_ hk hs.2.2.1 hq
  apply Nat.le_of_not_lt
  intro hlt
  exact hs.2.2.2 k h1 hlt hq
/-- a letter above the one agn makes a beginning -/
theorem nk_up {t s : List Nat} {e top r : Nat} (h : Nk (t ++ s)) (ht : t ≠ []) (he : agn t < e) (het : e ≤ top) : Nk (t ++ e :: List.replicate r top) := by
  have htl := List.length_pos_iff.mpr ht
  have ha : t.getD 0 0 ≤ agn t := by
    have := agn_ge h (k := t.length) (by omega) (Nat.le_refl _) (by simp)
    simpa using this
  generalize hT : List.replicate r top = T
  have hTl : T.length = r := by rw [← hT]; simp
  intro k hk hlt
  rw [List.length_append, List.length_cons, hTl] at hk
  by_cases h0 : k = 0
  · subst h0
    rw [rot_zero] at hlt
    exact List.lt_irrefl _ hlt
  · by_cases hkt : k ≤ t.length
    · have e1 : rot (t ++ e :: T) k = t.drop k ++ (e :: T ++ t.take k) := by
        unfold rot
        rw [List.drop_append_of_le_length (by omega), List.take_append_of_le_length (by omega), List.append_assoc]
      have e2 : t ++ e :: T = t.take (t.length - k) ++ (t.drop (t.length - k) ++ e :: T) := by
        rw [← List.append_assoc, List.take_append_drop]
      have hl : (t.drop k).length = (t.take (t.length - k)).length := by simp
      rw [e1, e2] at hlt
      have hpc := nk_pieces h (k := k) (l := t.length - k) (by rw [List.length_append]; omega)
      rw [List.drop_append_of_le_length (by omega), List.take_append_of_le_length (by simp), List.take_append_of_le_length (by omega), List.take_of_length_le (by simp)] at hpc
      rcases lex_same hl hlt with h1 | ⟨heq, h1⟩
      · exact hpc h1
      · have hg := agn_ge h (by omega) hkt heq
        have hi : t.length - k < t.length := by omega
        rw [List.drop_eq_getElem_cons hi] at h1
        rw [List.getD_eq_getElem?_getD, List.getElem?_eq_getElem hi] at hg
        simp only [List.cons_append, List.cons_lt_cons_iff, Option.getD_some] at h1 hg
        omega
    · have e1 : rot (t ++ e :: T) k = T.drop (k - t.length - 1) ++ (t ++ e :: T.take (k - t.length - 1)) := by
        unfold rot
        rw [List.drop_append, List.take_append, List.drop_of_length_le (by omega), List.take_of_length_le (by omega : t.length ≤ k)]
        rw [show k - t.length = (k - t.length - 1) + 1 by omega]
        rfl
      have e2 : T.drop (k - t.length - 1) = top :: List.replicate (r - (k - t.length - 1) - 1) top := by
        rw [← hT, List.drop_replicate, ← List.replicate_succ]
        congr 1
        omega
      rw [e1, e2] at hlt
      cases t with
      | nil => exact ht rfl
      | cons a t' =>
        simp only [List.cons_append, List.cons_lt_cons_iff] at hlt
        simp at ha
        omega
/-- a word of letters lo..top, n long, least among its turns -/
def Good (lo top n : Nat) (w : List Nat) : Prop := w.length = n ∧ Nk w ∧ ∀ x ∈ w, lo ≤ x ∧ x ≤ top
theorem Good.below {lo top n : Nat} {w : List Nat} (h : Good lo top n w) : Below top w := fun x hx => (h.2.2 x hx).2
/-- the begin of a good word is a beginning -/
theorem Good.beg {lo top n : Nat} {t s : List Nat} (h : Good lo top n (t ++ s)) : Beg top n t := by
  have hl := h.1
  rw [List.length_append] at hl
  refine ⟨by omega, ?_⟩
  have := nk_fill h.below h.2.1
  rwa [show s.length = n - t.length by omega] at this
/-- a beginning has a good word -/
theorem Beg.good {lo top n : Nat} {t : List Nat} (h : Beg top n t) (ht : ∀ x ∈ t, lo ≤ x ∧ x ≤ top) (hlo : lo ≤ top) : Good lo top n (t ++ List.replicate (n - t.length) top) := by
  have := h.1
  refine ⟨by simp; omega, h.2, fun x hx => ?_⟩
  rcases List.mem_append.mp hx with h1 | h1
  · exact ht x h1
  · rw [List.eq_of_mem_replicate h1]
    exact ⟨hlo, Nat.le_refl _⟩
def firstL (lo : Nat) (t : List Nat) : Nat := if t = [] then lo else agn t
theorem agn_mem {t : List Nat} (h : t ≠ []) : agn t ∈ t := by
  have := lper_spec h
  have hl := List.length_pos_iff.mpr h
  unfold agn
  rw [List.getD_eq_getElem?_getD, List.getElem?_eq_getElem (by omega)]
  exact List.getElem_mem _
theorem firstL_ran {lo top : Nat} {t : List Nat} (ht : ∀ x ∈ t, lo ≤ x ∧ x ≤ top) (hlo : lo ≤ top) : lo ≤ firstL lo t ∧ firstL lo t ≤ top := by
  unfold firstL
  split
  · exact ⟨Nat.le_refl _, hlo⟩
  · rename_i h
    exact ht _ (agn_mem h)
theorem Beg.nil_one {top n : Nat} {c : Nat} (hn : 0 < n) (hc : c ≤ top) : Beg top n ([] ++ [c]) := by
  refine ⟨by simp; omega, ?_⟩
  by_cases h : c = top
  · subst h
    have : ([] ++ [c]) ++ List.replicate (n - ([] ++ [c]).length) c = List.replicate (n - 1 + 1) c := by
      simp [List.replicate_succ]
    rw [this]
    exact nk_rep _ _
  · intro k hk hlt
    simp only [List.nil_append, List.length_cons, List.length_nil] at hk hlt
    by_cases h0 : k = 0
    · subst h0
      rw [rot_zero] at hlt
      exact List.lt_irrefl _ hlt
    · obtain ⟨j, rfl⟩ : ∃ j, k = j + 1 := ⟨k - 1, by omega⟩
      simp only [List.singleton_append, List.length_cons, List.length_replicate] at hk
      unfold rot at hlt
      simp only [List.singleton_append, List.drop_succ_cons, List.drop_replicate] at hlt
      rw [show n - (0 + 1) - j = (n - 1 - j - 1) + 1 by omega, List.replicate_succ] at hlt
      simp only [List.cons_append, List.cons_lt_cons_iff] at hlt
      omega
/-- no good word goes on with a letter below the first one -/
theorem firstL_le {lo top n : Nat} {t s : List Nat} {e : Nat} (h : Good lo top n (t ++ e :: s)) : firstL lo t ≤ e := by
  unfold firstL
  split
  · rename_i ht
    exact (h.2.2 e (List.mem_append_right _ List.mem_cons_self)).1
  · rename_i ht
    have hs := lper_spec ht
    exact next_ge h.2.1 hs.1 hs.2.1 hs.2.2.1
/-- a letter above the first one makes a beginning -/
theorem Beg.up {lo top n : Nat} {t : List Nat} {e : Nat} (h : Beg top n t) (hn : t.length < n) (he : firstL lo t < e) (het : e ≤ top) : Beg top n (t ++ [e]) := by
  by_cases ht : t = []
  · subst ht
    exact Beg.nil_one (by simpa using hn) het
  · refine ⟨by simp; omega, ?_⟩
    unfold firstL at he
    rw [if_neg ht] at he
    have := nk_up (r := n - (t ++ [e]).length) h.2 ht he het
    simpa using this
/-- if the first letter fails, it is below the top -/
theorem Beg.low {lo top n : Nat} {t : List Nat} (h : Beg top n t) (ht : ∀ x ∈ t, lo ≤ x ∧ x ≤ top) (hlo : lo ≤ top) (hn : t.length < n) (hc : ¬ Beg top n (t ++ [firstL lo t])) : firstL lo t < top := by
  have hr := firstL_ran ht hlo
  apply Nat.lt_of_le_of_ne hr.2
  intro he
  apply hc
  rw [he]
  refine ⟨by simp; omega, ?_⟩
  have := h.2
  rw [show n - t.length = (n - (t ++ [top]).length) + 1 by simp; omega, List.replicate_succ] at this
  simpa using this
def begB (top n : Nat) (t : List Nat) : Bool := decide (t.length ≤ n) && (lrot (t ++ List.replicate (n - t.length) top) == t ++ List.replicate (n - t.length) top)
theorem begB_iff {top n : Nat} {t : List Nat} (hn : 0 < n) : begB top n t = true ↔ Beg top n t := by
  unfold begB Beg
  rw [Bool.and_eq_true, decide_eq_true_eq, beq_iff_eq]
  constructor
  · rintro ⟨h1, h2⟩
    exact ⟨h1, (nk_iff (by intro e; have := congrArg List.length e; rw [List.length_append, List.length_replicate, List.length_nil] at this; omega)).mpr h2⟩
  · rintro ⟨h1, h2⟩
    exact ⟨h1, (nk_iff (by intro e; have := congrArg List.length e; rw [List.length_append, List.length_replicate, List.length_nil] at this; omega)).mp h2⟩
theorem rep_one (n top : Nat) : (List.replicate n [top]).flatten = List.replicate n top := by
  induction n with
  | zero => rfl
  | succ n ih => rw [List.replicate_succ, List.flatten_cons, ih, List.replicate_succ]; rfl
theorem repS_one (c n : Nat) : repS [c] n = List.replicate n c := by
  unfold repS
  exact rep_one n c
theorem ixD_last (xs : List Nat) (c : Nat) (h0 : xs ≠ []) (hl : xs.length ≤ SZ) (hc : xs[xs.length - 1]? = some c) : ixD (.str xs) (.int (-1)) = .ok (.str [c]) := by
  have := List.length_pos_iff.mpr h0
  have e : atI xs (-1) = some c := by
    unfold atI ixN
    simp
    rw [if_pos (by omega), Option.bind_some, show ((-1 : Int) + (xs.length : Int)).toNat = xs.length - 1 by omega]
    exact hc
  unfold ixD
  simp [e, hl]
theorem abc_last {k : Nat} (h1 : 1 ≤ k) (h2 : k ≤ 6) : ixD (.str (abc k)) (.int (-1)) = .ok (.str [96 + k]) := by
  have hz : (abc k).length ≤ SZ := le_sz (by simp [abc]; omega)
  refine ixD_last _ _ ?_ hz ?_
  all_goals
    have : k = 1 ∨ k = 2 ∨ k = 3 ∨ k = 4 ∨ k = 5 ∨ k = 6 := by omega
    rcases this with rfl | rfl | rfl | rfl | rfl | rfl <;> simp [abc]
theorem abc_at {k c : Nat} (h1 : 1 ≤ k) (h2 : k ≤ 6) (hc : c < k) : ixD (.str (abc k)) (.int c) = .ok (.str [97 + c]) := by
  have hz : (abc k).length ≤ SZ := le_sz (by simp [abc]; omega)
  refine ixD_s _ _ (by omega) _ hz ?_
  have : k = 1 ∨ k = 2 ∨ k = 3 ∨ k = 4 ∨ k = 5 ∨ k = 6 := by omega
  have : c = 0 ∨ c = 1 ∨ c = 2 ∨ c = 3 ∨ c = 4 ∨ c = 5 := by omega
  rcases this with rfl | rfl | rfl | rfl | rfl | rfl <;> (rcases ‹k = 1 ∨ _› with rfl | rfl | rfl | rfl | rfl | rfl <;> first | omega | simp [abc])
theorem abc_ix {k c : Nat} (h1 : 1 ≤ k) (h2 : k ≤ 6) (hc : 97 ≤ c) (hk : c < 97 + k) : idxS (.str (abc k)) [.str [c]] = .ok (.int (c - 97 : Nat)) := by
  unfold idxS
  dsimp only
  rw [if_pos ((mem_abc (by omega) (by omega)).mpr ⟨hc, by omega⟩)]
  have : k = 1 ∨ k = 2 ∨ k = 3 ∨ k = 4 ∨ k = 5 ∨ k = 6 := by omega
  have : c = 97 ∨ c = 98 ∨ c = 99 ∨ c = 100 ∨ c = 101 ∨ c = 102 := by omega
  rcases this with rfl | rfl | rfl | rfl | rfl | rfl <;> (rcases ‹k = 1 ∨ _› with rfl | rfl | rfl | rfl | rfl | rfl <;> first | omega | simp [abc, List.findIdx_cons])
/-- what the loop keeps -/
structure Fil (lo top n : Nat) (t0 t : List Nat) : Prop where
  beg : Beg top n t
  let_ : ∀ x ∈ t, lo ≤ x ∧ x ≤ top
  pre : t0 <+: t
  low : ∀ w, Good lo top n w → t0 <+: w → ¬ w.take t.length < t
def nextW (lo top n : Nat) (t : List Nat) : Nat := if begB top n (t ++ [firstL lo t]) = true then firstL lo t else firstL lo t + 1
theorem Fil.step {lo top n : Nat} {t0 t : List Nat} (h : Fil lo top n t0 t) (hlo : lo ≤ top) (hn : t.length < n) : Fil lo top n t0 (t ++ [nextW lo top n t]) ∧ lo ≤ nextW lo top n t ∧ nextW lo top n t ≤ top ∧ (begB top n (t ++ [firstL lo t]) = false → firstL lo t < top) := by
  have hr := firstL_ran h.let_ hlo
  have hlow : begB top n (t ++ [firstL lo t]) = false → firstL lo t < top := fun hb => h.beg.low h.let_ hlo hn (fun hB => by
    rw [(begB_iff (by omega)).mpr hB] at hb
    cases hb)
  have hw : lo ≤ nextW lo top n t ∧ nextW lo top n t ≤ top := by
    unfold nextW
    split
    · exact hr
    · rename_i hb
      have := hlow (by simpa using hb)
      omega
  refine ⟨⟨?_, ?_, ?_, ?_⟩, hw.1, hw.2, hlow⟩
  · unfold nextW
    split
    · rename_i hb
      exact (begB_iff (by omega)).mp hb
    · rename_i hb
      have := hlow (by simpa using hb)
      exact h.beg.up hn (lo := lo) (by omega) (by omega)
  · intro x hx
    rcases List.mem_append.mp hx with h1 | h1
    · exact h.let_ x h1
    · rw [List.mem_singleton.mp h1]; exact hw
  · exact h.pre.trans (List.prefix_append _ _)
  · intro w hg hp hlt
    have hwl := hg.1
    have hi : t.length < w.length := by omega
    rw [List.length_append, List.length_singleton, take_one hi] at hlt
    rcases lex_same (by simp; omega) hlt with h1 | ⟨h1, h2⟩
    · exact h.low w hg hp h1
    · have e1 : w = t ++ w.getD t.length 0 :: w.drop (t.length + 1) := by
        have := List.take_append_drop (t.length + 1) w
        rw [take_one hi, h1, List.append_assoc] at this
        exact this.symm
      generalize w.getD t.length 0 = e at e1 h2
      simp only [List.cons_lt_cons_iff, List.lt_irrefl, and_false, or_false] at h2
      have hg' := hg
      rw [e1] at hg'
      have hfe := firstL_le hg'
      unfold nextW at h2
      split at h2
      · omega
      · rename_i hb
        have : e = firstL lo t := by omega
        apply hb
        apply (begB_iff (by omega)).mpr
        rw [← this]
        refine Good.beg (lo := lo) (s := w.drop (t.length + 1)) ?_
        rw [List.append_assoc]
        exact hg'
theorem Fil.start {lo top n : Nat} {t : List Nat} (h : Beg top n t) (hl : ∀ x ∈ t, lo ≤ x ∧ x ≤ top) : Fil lo top n t t := ⟨h, hl, List.prefix_refl _, fun w _ hp hlt => by
  rw [← List.prefix_iff_eq_take.mp hp] at hlt
  exact List.lt_irrefl _ hlt⟩
theorem Fil.done {lo top n : Nat} {t0 t : List Nat} (h : Fil lo top n t0 t) (hn : n ≤ t.length) : Good lo top n t ∧ t0 <+: t ∧ ∀ w, Good lo top n w → t0 <+: w → ¬ w < t := by
  have h1 := h.beg.1
  have h2 := h.beg.2
  rw [show n - t.length = 0 by omega, List.replicate_zero, List.append_nil] at h2
  refine ⟨⟨by omega, h2, h.let_⟩, h.pre, fun w hg hp hlt => h.low w hg hp ?_⟩
  rw [List.take_of_length_le (by have := hg.1; omega)]
  exact hlt
end
end Z
namespace Z
noncomputable section
open PySem PySem.Spec PySem.P PyProof.Rows L2
/-! ### all words, in rising order -/
def allW (k : Nat) : Nat → List (List Nat)
  | 0 => [[]]
  | n + 1 => (allW k n).flatMap fun w => (abc k).map fun c => w ++ [c]
theorem abc_len {k : Nat} (h : k ≤ 6) : (abc k).length = k := by
  simp [abc]
  omega
theorem abc_sorted (k : Nat) : (abc k).Pairwise (· < ·) := by
  unfold abc
  exact List.Pairwise.sublist (List.take_sublist _ _) (by decide)
theorem mem_allW {k : Nat} (h1 : 1 ≤ k) (h2 : k ≤ 6) : ∀ {n : Nat} {w : List Nat}, w ∈ allW k n ↔ w.length = n ∧ ∀ x ∈ w, 97 ≤ x ∧ x ≤ 96 + k
  | 0, w => by
    simp only [allW, List.mem_singleton]
    constructor
    · rintro rfl; simp
    · rintro ⟨h, _⟩; exact List.length_eq_zero_iff.mp h
  | n + 1, w => by
    simp only [allW, List.mem_flatMap, List.mem_map]
    constructor
    · rintro ⟨v, hv, c, hc, rfl⟩
      have hv' := (mem_allW h1 h2).mp hv
      have hc' := (mem_abc (k := k) (by omega) (by omega)).mp hc
      refine ⟨by simp [hv'.1], fun x hx => ?_⟩
      rcases List.mem_append.mp hx with h | h
      · exact hv'.2 x h
      · rw [List.mem_singleton.mp h]; omega
    · rintro ⟨hl, hw⟩
      have hi : n < w.length := by omega
      refine ⟨w.take n, (mem_allW h1 h2).mpr ⟨by simp; omega, fun x hx => hw x (List.mem_of_mem_take hx)⟩, w.getD n 0, (mem_abc (k := k) (by omega) (by omega)).mpr ?_, ?_⟩
      · have := hw _ (List.getElem_mem hi)
        rw [List.getD_eq_getElem?_getD, List.getElem?_eq_getElem hi, Option.getD_some]
        omega
      · rw [← take_one hi, List.take_of_length_le (by omega)]
theorem allW_len {k : Nat} (h2 : k ≤ 6) : ∀ n : Nat, (allW k n).length = k ^ n
  | 0 => rfl
  | n + 1 => by
    have := allW_len h2 n
    simp only [allW, List.length_flatMap, List.length_map, abc_len h2]
    rw [List.map_const', List.sum_replicate_nat, this, Nat.pow_succ]
theorem allW_sorted {k : Nat} (h1 : 1 ≤ k) (h2 : k ≤ 6) : ∀ n : Nat, (allW k n).Pairwise (· < ·)
  | 0 => by simp [allW]
  | n + 1 => by
    have ih := allW_sorted h1 h2 n
    simp only [allW]
    rw [List.pairwise_flatMap]
    refine ⟨fun w _ => ?_, ?_⟩
    · rw [List.pairwise_map]
      refine (abc_sorted k).imp fun {a b} hab => ?_
      rw [lex_pre, List.cons_lt_cons_iff]
      exact Or.inl hab
    · refine List.Pairwise.imp_of_mem ?_ ih
      intro a b ha hb hab x hx y hy
      obtain ⟨c, _, rfl⟩ := List.mem_map.mp hx
      obtain ⟨d, _, rfl⟩ := List.mem_map.mp hy
      exact lex_app hab (by rw [((mem_allW h1 h2).mp ha).1, ((mem_allW h1 h2).mp hb).1]; exact Nat.le_refl _) _ _
/-- the first of a rising list's chosen ones is the least chosen -/
theorem filter_head {p : List Nat → Bool} {r : List Nat} : ∀ {l : List (List Nat)}, l.Pairwise (· < ·) → r ∈ l → p r = true → (∀ w ∈ l, p w = true → ¬ w < r) → (l.filter p)[0]? = some r
  | [], _, h, _, _ => by cases h
  | a :: l, hs, hr, hp, hm => by
    by_cases ha : p a = true
    · rw [List.filter_cons_of_pos ha]
      rcases List.mem_cons.mp hr with e | e
      · rw [e]; rfl
      · exact absurd (List.rel_of_pairwise_cons hs e) (hm a List.mem_cons_self ha)
    · rw [List.filter_cons_of_neg ha]
      refine filter_head hs.of_cons ?_ hp fun w hw => hm w (List.mem_cons_of_mem _ hw)
      rcases List.mem_cons.mp hr with e | e
      · rw [e] at hp; exact absurd hp ha
      · exact e
theorem mapD_fm {α : Type} {step : D → R (Option D)} (c : α → D) (p : α → Bool) (g : α → D) : ∀ (l : List α), (∀ a ∈ l, step (c a) = .ok (if p a = true then some (g a) else none)) → mapD step (l.map c) = .ok ((l.filter p).map g)
  | [], _ => by simp [mapD]
  | a :: l, h => by
    have h1 := h a List.mem_cons_self
    have h2 := mapD_fm c p g l fun b hb => h b (List.mem_cons_of_mem _ hb)
    by_cases hp : p a = true
    · rw [if_pos hp] at h1
      rw [List.filter_cons_of_pos hp]
      simp [mapD, h1, h2]
    · rw [if_neg hp] at h1
      rw [List.filter_cons_of_neg hp]
      simp [mapD, h1, h2]
theorem comp_fm {α : Type} {step : D → R (Option D)} (c : α → D) (p : α → Bool) (g : α → D) (l : List α) (hl : l.length ≤ 16777216) (h : ∀ a ∈ l, step (c a) = .ok (if p a = true then some (g a) else none)) : rComp (mapD step (l.map c)) = .ok (.lst ((l.filter p).map g)) :=
  rComp_of (mapD_fm c p g l h) (by simpa using Nat.le_trans (List.length_filter_le p l) hl)
end
end Z
namespace Z
noncomputable section
open PySem PySem.Spec PySem.P PyProof.Rows L2
/-! ### the next and the last least word -/
theorem gt_split {w r : List Nat} (hl : w.length = r.length) (h : w < r) : ∃ j c s, j < w.length ∧ w.getD j 0 < c ∧ r = w.take j ++ c :: s := by
  rcases lex_iff.mp h with ⟨z, hz, rfl⟩ | ⟨p, c, d, x, y, rfl, rfl, hcd⟩
  · rw [List.length_append] at hl
    have := List.length_pos_iff.mpr hz
    omega
  · exact ⟨p.length, d, y, by simp, by simpa using hcd, by simp⟩
theorem split_gt {w s : List Nat} {j c : Nat} (hj : j < w.length) (hc : w.getD j 0 < c) : w < w.take j ++ c :: s := by
  have e : w = w.take j ++ w.getD j 0 :: w.drop (j + 1) := by
    rw [List.getD_eq_getElem?_getD, List.getElem?_eq_getElem hj]
    simp
  conv => lhs; rw [e]
  rw [lex_pre, List.cons_lt_cons_iff]
  exact .inl hc
theorem split_lt {w s : List Nat} {j c : Nat} (hj : j < w.length) (hc : c < w.getD j 0) : w.take j ++ c :: s < w := by
  have e : w = w.take j ++ w.getD j 0 :: w.drop (j + 1) := by
    rw [List.getD_eq_getElem?_getD, List.getElem?_eq_getElem hj]
    simp
  conv => rhs; rw [e]
  rw [lex_pre, List.cons_lt_cons_iff]
  exact .inl hc
theorem take_pre {w : List Nat} {i j : Nat} (h : i ≤ j) : w.take j = w.take i ++ (w.drop i).take (j - i) := by
  rw [← List.take_add]
  congr 1
  omega
theorem take_at {w : List Nat} {i j : Nat} (h : i < j) (hj : j ≤ w.length) : w.take j = w.take i ++ w.getD i 0 :: (w.drop (i + 1)).take (j - i - 1) := by
  rw [take_pre (Nat.le_of_lt h)]
  congr 1
  have hi : i < w.length := by omega
  rw [List.drop_eq_getElem_cons hi, List.getD_eq_getElem?_getD, List.getElem?_eq_getElem hi]
  rw [show j - i = (j - i - 1) + 1 by omega, List.take_succ_cons]
  rfl
theorem next_found {lo top n j c : Nat} {w r : List Nat} (hw : w.length = n) (hj : j < n) (hc : w.getD j 0 < c)
    (hno : ∀ j' c', j < j' → j' < n → w.getD j' 0 < c' → c' ≤ top → ¬ Beg top n (w.take j' ++ [c']))
    (hno2 : ∀ c', w.getD j 0 < c' → c' < c → ¬ Beg top n (w.take j ++ [c']))
    (hp : w.take j ++ [c] <+: r) (hl : ∀ g, Good lo top n g → w.take j ++ [c] <+: g → ¬ g < r) :
    w < r ∧ ∀ g, Good lo top n g → w < g → ¬ g < r := by
  obtain ⟨s, rfl⟩ := hp
  have e0 : w.take j ++ [c] ++ s = w.take j ++ c :: s := by simp
  rw [e0] at hl ⊢
  refine ⟨split_gt (by omega) hc, fun g hg hlt hgr => ?_⟩
  obtain ⟨j', c', s', h1, h2, rfl⟩ := gt_split (by rw [hw, hg.1]) hlt
  have hb : Beg top n (w.take j' ++ [c']) := Good.beg (lo := lo) (s := s') (by simpa using hg)
  have ht : c' ≤ top := (hg.2.2 c' (by simp)).2
  by_cases e : j < j'
  · exact hno j' c' e (by omega) h2 ht hb
  · by_cases e2 : j' = j
    · subst e2
      by_cases e3 : c' < c
      · exact hno2 c' h2 e3 hb
      · by_cases e4 : c' = c
        · subst e4
          exact hl _ hg ⟨s', by simp⟩ hgr
        · rw [lex_pre, List.cons_lt_cons_iff] at hgr
          rcases hgr with h | ⟨h, -⟩
          · omega
          · omega
    · rw [take_at (i := j') (j := j) (by omega) (by omega)] at hgr
      rw [List.append_assoc, lex_pre, List.cons_append, List.cons_lt_cons_iff] at hgr
      rcases hgr with h | ⟨h, -⟩ <;> omega
theorem next_none {lo top n : Nat} {w : List Nat} (hw : w.length = n)
    (hno : ∀ j' c', j' < n → w.getD j' 0 < c' → c' ≤ top → ¬ Beg top n (w.take j' ++ [c'])) : ∀ g, Good lo top n g → ¬ w < g := fun g hg hlt => by
  obtain ⟨j', c', s', h1, h2, rfl⟩ := gt_split (by rw [hw, hg.1]) hlt
  exact hno j' c' (by omega) h2 (hg.2.2 c' (by simp)).2 (Good.beg (lo := lo) (s := s') (by simpa using hg))
/-- the last least word that is not greater -/
def LastP (lo top n : Nat) (w f : List Nat) : Prop := Good lo top n f ∧ ¬ w < f ∧ ∀ g, Good lo top n g → ¬ w < g → ¬ f < g
theorem last_self {lo top n : Nat} {w : List Nat} (hw : Good lo top n w) : LastP lo top n w w := ⟨hw, List.lt_irrefl _, fun _ _ h => h⟩
theorem last_found {lo top n j c : Nat} {w : List Nat} (hw : w.length = n) (hr : ∀ x ∈ w, lo ≤ x ∧ x ≤ top) (hnk : ¬ Nk w) (hj : j < n) (hc : c < w.getD j 0) (hlo : lo ≤ c)
    (hb : Beg top n (w.take j ++ [c]))
    (hno : ∀ j' c', j < j' → j' < n → lo ≤ c' → c' < w.getD j' 0 → ¬ Beg top n (w.take j' ++ [c']))
    (hno2 : ∀ c', c < c' → c' < w.getD j 0 → ¬ Beg top n (w.take j ++ [c'])) : LastP lo top n w (w.take j ++ c :: List.replicate (n - j - 1) top) := by
  have hm : w.getD j 0 ∈ w := by
    rw [List.getD_eq_getElem?_getD, List.getElem?_eq_getElem (by omega)]
    simp
  have htop := (hr _ hm).2
  have e0 : w.take j ++ [c] ++ List.replicate (n - j - 1) top = w.take j ++ c :: List.replicate (n - j - 1) top := by simp
  refine ⟨?_, fun h => List.lt_irrefl _ (List.lt_trans h (split_lt (by omega) hc)), fun g hg hle hlt => ?_⟩
  · rw [← e0]
    have := hb.good (lo := lo) (fun x hx => by
      rcases List.mem_append.mp hx with h | h
      · exact hr x (List.mem_of_mem_take h)
      · rw [List.mem_singleton.mp h]; omega) (by omega)
    have e : (w.take j ++ [c]).length = j + 1 := by simp; omega
    rw [e] at this
    simpa [Nat.sub_sub] using this
  · have hgw : g < w := by
      rcases lex_tri w g with h | h | h
      · exact absurd h hle
      · subst h; exact absurd hg.2.1 hnk
      · exact h
    rcases lex_iff.mp hgw with ⟨z, hz, h⟩ | ⟨p, c', d, x, y, h1, h2, hcd⟩
    · have h3 := congrArg List.length h
      rw [List.length_append, hg.1, hw] at h3
      have := List.length_pos_iff.mpr hz
      omega
    · have hp : w.take p.length = p := by rw [h2]; simp
      have hpd : w.getD p.length 0 = d := by rw [h2]; simp
      have hpn : p.length < n := by rw [← hw, h2]; simp
      have hbg : Beg top n (w.take p.length ++ [c']) := Good.beg (lo := lo) (s := x) (by rw [hp]; subst h1; simpa using hg)
      have hcl : lo ≤ c' := (hg.2.2 c' (by rw [h1]; simp)).1
      have hgt : g = w.take p.length ++ c' :: x := by rw [hp]; exact h1
      generalize p.length = j' at *
      by_cases e : j < j'
      · exact hno j' c' e hpn hcl (by omega) hbg
      · by_cases e2 : j' = j
        · subst e2
          rw [hgt, lex_pre, List.cons_lt_cons_iff] at hlt
          rcases hlt with h | ⟨h, h'⟩
          · exact hno2 c' h (by omega) hbg
          · have hx : x.length = n - j' - 1 := by
              have := hg.1
              rw [hgt] at this
              simp at this
              omega
            rw [← hx] at h'
            refine top_max x (fun a ha => ?_) h'
            exact (hg.2.2 a (by rw [hgt]; simp [ha])).2
        · rw [hgt, take_at (i := j') (j := j) (by omega) (by omega)] at hlt
          rw [List.append_assoc, lex_pre, List.cons_append, List.cons_lt_cons_iff] at hlt
          rcases hlt with h | ⟨h, -⟩ <;> omega
theorem last_ex {lo top n : Nat} {w : List Nat} (hn : 0 < n) (hlo : lo ≤ top) (hw : w.length = n) (hr : ∀ x ∈ w, lo ≤ x ∧ x ≤ top)
    (hno : ∀ j' c', j' < n → lo ≤ c' → c' < w.getD j' 0 → ¬ Beg top n (w.take j' ++ [c'])) : Nk w := by
  have hg : Good lo top n (List.replicate n lo) := ⟨by simp, nk_rep _ _, fun x hx => by rw [List.eq_of_mem_replicate hx]; omega⟩
  rcases lex_tri w (List.replicate n lo) with h | h | h
  · obtain ⟨j, c, s, h1, h2, h3⟩ := gt_split (by simpa using hw) h
    have hc : c = lo := by
      have : c ∈ List.replicate n lo := by rw [h3]; simp
      exact List.eq_of_mem_replicate this
    have hm : w.getD j 0 ∈ w := by
      rw [List.getD_eq_getElem?_getD, List.getElem?_eq_getElem (by omega)]
      simp
    have := (hr _ hm).1
    omega
  · rw [h]; exact hg.2.1
  · rcases lex_iff.mp h with ⟨z, hz, h⟩ | ⟨p, c', d, x, y, h1, h2, hcd⟩
    · have h3 := congrArg List.length h
      rw [List.length_append, List.length_replicate, hw] at h3
      have := List.length_pos_iff.mpr hz
      omega
    · have hp : w.take p.length = p := by rw [h2]; simp
      have hpd : w.getD p.length 0 = d := by rw [h2]; simp
      have hpn : p.length < n := by rw [← hw, h2]; simp
      have hc : lo ≤ c' := (hg.2.2 c' (by rw [h1]; simp)).1
      refine absurd (Good.beg (lo := lo) (s := x) ?_) (hno p.length c' hpn hc (by omega))
      rw [hp]
      rw [h1] at hg
      simpa using hg
end
end Z
namespace Z
noncomputable section
open PySem PySem.Spec PySem.P PyProof.Rows L2
/-! ### loops downward, over letters -/
theorem downD_get {i j : Int} {k : Nat} {d : D} (h : (downD i j)[k]? = some d) : d = .int (i - k) ∧ (k : Int) < i - j := by
  unfold downD at h
  rw [List.getElem?_map] at h
  by_cases hk : k < (i - j).toNat
  · rw [List.getElem?_range hk] at h
    simp at h
    exact ⟨h.symm, by omega⟩
  · rw [List.getElem?_eq_none (by simpa using hk)] at h
    cases h
@[simp] theorem downD_len (i j : Int) : (downD i j).length = (i - j).toNat := by simp [downD]
theorem abc_range {k : Nat} (h : k ≤ 6) : abc k = (List.range k).map (97 + ·) := by
  have : k = 0 ∨ k = 1 ∨ k = 2 ∨ k = 3 ∨ k = 4 ∨ k = 5 ∨ k = 6 := by omega
  rcases this with rfl | rfl | rfl | rfl | rfl | rfl | rfl <;> rfl
theorem abc_get {k i c : Nat} (h : k ≤ 6) (e : (abc k)[i]? = some c) : c = 97 + i ∧ i < k := by
  rw [abc_range h, List.getElem?_map] at e
  by_cases hi : i < k
  · rw [List.getElem?_range hi] at e
    simp at e
    exact ⟨e.symm, hi⟩
  · rw [List.getElem?_eq_none (by simpa using hi)] at e
    cases e
theorem abc_drop_get {k m i : Nat} {d : D} (h : k ≤ 6) (e : (((abc k).drop m).map fun c => D.str [c])[i]? = some d) : d = .str [97 + (m + i)] ∧ m + i < k := by
  rw [List.getElem?_map, List.getElem?_drop] at e
  cases q : (abc k)[m + i]? with
  | none => rw [q] at e; cases e
  | some c =>
    rw [q] at e
    obtain ⟨rfl, h2⟩ := abc_get h q
    cases e
    exact ⟨rfl, h2⟩
theorem abc_take_get {k m i : Nat} {d : D} (h : k ≤ 6) (e : (((abc k).take m).map fun c => D.str [c])[i]? = some d) : d = .str [97 + i] ∧ i < m ∧ i < k := by
  rw [List.getElem?_map, List.getElem?_take] at e
  by_cases hi : i < m
  · rw [if_pos hi] at e
    cases q : (abc k)[i]? with
    | none => rw [q] at e; cases e
    | some c =>
      rw [q] at e
      obtain ⟨rfl, h2⟩ := abc_get h q
      cases e
      exact ⟨rfl, hi, h2⟩
  · rw [if_neg hi] at e
    cases e
theorem getD_mem {w : List Nat} {j : Nat} (h : j < w.length) : w.getD j 0 ∈ w := by
  rw [List.getD_eq_getElem?_getD, List.getElem?_eq_getElem h]
  simp
theorem ixD_getD {w : List Nat} {j : Nat} {i : Int} (hi : i = j) (h : j < w.length) (hl : w.length ≤ SZ) : ixD (.str w) (.int i) = .ok (.str [w.getD j 0]) := by
  subst hi
  refine ixD_s w j (by omega) _ hl ?_
  rw [Int.toNat_natCast, List.getD_eq_getElem?_getD, List.getElem?_eq_getElem h]
  rfl
/-- what is wanted behind one turn of a loop -/
def post (P : SS → Prop) (Q : RS → Prop) : RS → Prop
  | .nx s => P s
  | .ct s => P s
  | .bk s => Q (.nx s)
  | .rt b d => Q (.rt b d)
  | .ex c vs s => Q (.ex c vs s)
  | .rm d s => Q (.rm d s)
  | .rn j s => Q (.rn j s)
  | .bad => False
section
variable {P : SS → Prop} {Q : RS → Prop} {s : SS}
@[simp] theorem post_nx : post P Q (.nx s) = P s := rfl
@[simp] theorem post_ct : post P Q (.ct s) = P s := rfl
@[simp] theorem post_bk : post P Q (.bk s) = Q (.nx s) := rfl
@[simp] theorem post_rt (b : Bool) (d : D) : post P Q (.rt b d) = Q (.rt b d) := rfl
@[simp] theorem post_rn (j : Nat) : post P Q (.rn j s) = Q (.rn j s) := rfl
@[simp] theorem post_rm (d : D) : post P Q (.rm d s) = Q (.rm d s) := rfl
@[simp] theorem post_ex (c : Nat) (vs : List D) : post P Q (.ex c vs s) = Q (.ex c vs s) := rfl
end
theorem forL_post {step : D → SS → RS} (P : Nat → SS → Prop) (Q : RS → Prop) (ds : List D) (s : SS) (h0 : P 0 s)
    (hs : ∀ i d s, ds[i]? = some d → P i s → post (P (i + 1)) Q (step d s)) (he : ∀ s, P ds.length s → Q (.nx s)) : Q (forL step ds s) :=
  forL_ind P Q ds s h0 (fun i d s h p => by
    have := hs i d s h p
    revert this
    cases step d s <;> exact fun h => h) he
/-- what next_least tells -/
def nextV (o : Option (List Nat)) : D := match o with
  | some r => .str r
  | none => .non
def NextP (lo top n : Nat) (w : List Nat) : Option (List Nat) → Prop
  | some r => Good lo top n r ∧ w < r ∧ ∀ g, Good lo top n g → w < g → ¬ g < r
  | none => ∀ g, Good lo top n g → ¬ w < g
theorem lt_split {w x : List Nat} (hl : x.length = w.length) (h : x < w) : ∃ j c s, j < w.length ∧ c < w.getD j 0 ∧ x = w.take j ++ c :: s := by
  rcases lex_iff.mp h with ⟨z, hz, rfl⟩ | ⟨p, c, d, y, z, rfl, rfl, hcd⟩
  · rw [List.length_append] at hl
    have := List.length_pos_iff.mpr hz
    omega
  · exact ⟨p.length, c, y, by simp, by simpa using hcd, by simp⟩
theorem LastP.uniq {lo top n : Nat} {w f g : List Nat} (a : LastP lo top n w f) (b : LastP lo top n w g) : f = g := by
  rcases lex_tri f g with h | h | h
  · exact absurd h (a.2.2 _ b.1 b.2.1)
  · exact h
  · exact absurd h (b.2.2 _ a.1 a.2.1)
theorem lt_of_le {a b c : List Nat} (h : ¬ b < a) (h2 : b < c) : a < c := by
  rcases lex_tri a b with h3 | h3 | h3
  · exact List.lt_trans h3 h2
  · subst h3; exact h2
  · exact absurd h3 h
theorem lt_of_lt {a b c : List Nat} (h : a < b) (h2 : ¬ c < b) : a < c := by
  rcases lex_tri b c with h3 | h3 | h3
  · exact List.lt_trans h h3
  · subst h3; exact h
  · exact absurd h3 h2
theorem le_trans' {a b c : List Nat} (h : ¬ b < a) (h2 : ¬ c < b) : ¬ c < a := fun h3 => h2 (lt_of_lt h3 h)
/-- the word ahead of a word -/
def aheadW (top : Nat) (v : List Nat) (j : Nat) : List Nat := v.take j ++ (v.getD j 0 - 1) :: List.replicate (v.length - j - 1) top
theorem ahead_le {lo top j : Nat} {v x : List Nat} (hj : j < v.length) (hlast : ∀ i, j < i → i < v.length → v.getD i 0 = lo) (hx : ∀ c ∈ x, lo ≤ c ∧ c ≤ top) (hl : x.length = v.length) (h : x < v) : ¬ aheadW top v j < x := fun hlt => by
  obtain ⟨j', c, s, h1, h2, rfl⟩ := lt_split hl h
  have hc := (hx c (by simp)).1
  have hjj : ¬ j < j' := fun z => by have := hlast j' z h1; omega
  unfold aheadW at hlt
  by_cases e : j' = j
  · subst e
    rw [lex_pre, List.cons_lt_cons_iff] at hlt
    rcases hlt with h3 | ⟨h3, h4⟩
    · omega
    · have hs : s.length = v.length - j' - 1 := by simp at hl; omega
      rw [← hs] at h4
      exact top_max s (fun a ha => (hx a (by simp [ha])).2) h4
  · rw [take_at (i := j') (j := j) (by omega) (by omega), List.append_assoc, lex_pre, List.cons_append, List.cons_lt_cons_iff] at hlt
    rcases hlt with h3 | ⟨h3, -⟩ <;> omega
theorem ahead_lt {top j : Nat} {v : List Nat} (hj : j < v.length) (h0 : 0 < v.getD j 0) : aheadW top v j < v := split_lt hj (by omega)
theorem last_ahead {lo top n j : Nat} {w r f : List Nat} (hj : j < r.length) (h0 : 0 < r.getD j 0) (hlast : ∀ i, j < i → i < r.length → r.getD i 0 = lo) (hw : ∀ c ∈ w, lo ≤ c ∧ c ≤ top) (hl : w.length = r.length)
    (hlt : w < r) (hmin : ∀ g, Good lo top n g → w < g → ¬ g < r) (hf : LastP lo top n w f) : LastP lo top n (aheadW top r j) f := by
  refine ⟨hf.1, le_trans' hf.2.1 (ahead_le hj hlast hw hl hlt), fun g hg hle => hf.2.2 g hg fun z => ?_⟩
  exact hmin g hg z (lt_of_le hle (ahead_lt hj h0))
theorem next_last {lo top n : Nat} {w r f : List Nat} (hr : NextP lo top n w (some r)) (hf : LastP lo top n w f) {o : Option (List Nat)} (ho : NextP lo top n f o) : o = some r := by
  have hfr : f < r := lt_of_le hf.2.1 hr.2.1
  cases o with
  | none => exact absurd hfr (ho r hr.1)
  | some x =>
    have a : ¬ x < r := hr.2.2 x ho.1 (by
      rcases lex_tri w x with h | h | h
      · exact h
      · subst h; exact absurd ho.2.1 (hf.2.2 _ ho.1 (List.lt_irrefl _))
      · exact absurd ho.2.1 (hf.2.2 x ho.1 fun z => List.lt_irrefl _ (List.lt_trans z h)))
    have b : ¬ r < x := ho.2.2 r hr.1 hfr
    rcases lex_tri x r with h | h | h
    · exact absurd h a
    · rw [h]
    · exact absurd h b
theorem ixD_lneg (xs : List D) (x : D) (h : xs.getLast? = some x) : ixD (.lst xs) (.int (-1)) = .ok x := by
  have h0 : xs ≠ [] := by intro e; subst e; cases h
  have := List.length_pos_iff.mpr h0
  have e : atI xs (-1) = some x := by
    unfold atI ixN
    simp
    rw [if_pos (by omega), Option.bind_some, show ((-1 : Int) + (xs.length : Int)).toNat = xs.length - 1 by omega]
    rw [List.getLast?_eq_getElem?] at h
    exact h
  unfold ixD
  simp [e]
theorem filter_last {p : List Nat → Bool} {r : List Nat} {l : List (List Nat)} (hs : l.Pairwise (· < ·)) (hr : r ∈ l) (hp : p r = true) (hm : ∀ w ∈ l, p w = true → ¬ r < w) : (l.filter p).getLast? = some r := by
  have hmem : r ∈ l.filter p := List.mem_filter.mpr ⟨hr, hp⟩
  have hs' := hs.filter p
  have hm' : ∀ w ∈ l.filter p, ¬ r < w := fun w hw => hm w (List.mem_filter.mp hw).1 (List.mem_filter.mp hw).2
  generalize l.filter p = L at *
  induction L with
  | nil => cases hmem
  | cons a L ih =>
    cases L with
    | nil => rw [List.mem_singleton.mp hmem]; rfl
    | cons b L =>
      rw [List.getLast?_cons_cons]
      rcases List.mem_cons.mp hmem with rfl | h
      · exact absurd ((List.pairwise_cons.mp hs').1 b (by simp)) (hm' b (by simp))
      · exact ih h (List.pairwise_cons.mp hs').2 fun w hw => hm' w (List.mem_cons_of_mem _ hw)
end
end Z
namespace Z
noncomputable section
open PySem PySem.Spec PySem.P PyProof.Rows L2
/-! ### int(flag) -/
def intZ : List D → R D
  | [.int i] => .ok (.int i)
  | [.bl b] => .ok (.int (if b = true then 1 else 0))
  | _ => .bad
theorem intZ_ne : NoExL intZ := fun x c vs h => by unfold intZ at h; split at h <;> cases h
section
variable {X : Cx} {C : CT}
theorem call_intZ : CallR X (.type "int") (rC C.G intZ) := by
  intro pins s σ H xs us Q I r h
  obtain ⟨F, ds, S, r2, p⟩ := h
  unfold intZ at p
  split at p
  · obtain ⟨v, rfl, b⟩ := pair1 r2
    rw [bor_int b] at r
    exact call_int1 pins s σ H _ us Q I r (.inl ⟨_, rfl, p.int S⟩)
  · obtain ⟨v, rfl, b⟩ := pair1 r2
    rw [bor_bl b] at r
    exact call_int1 pins s σ H _ us Q I r (.inr ⟨_, rfl, p.int S⟩)
  · exact p.elim
end
@[simp] theorem intZ_i (i : Int) : intZ [.int i] = .ok (.int i) := rfl
@[simp] theorem intZ_b (b : Bool) : intZ [.bl b] = .ok (.int (if b = true then 1 else 0)) := rfl
theorem good_goodW {w f : List Nat} {k : Nat} (hw : goodW w k = true) (hf : Good 97 (96 + k) w.length f) : goodW f k = true := by
  obtain ⟨w1, w2, w3⟩ := goodW_iff.mp hw
  refine goodW_iff.mpr ⟨by rw [hf.1]; exact w1, by rw [hf.1]; exact w2, fun x hx => ?_⟩
  have := hf.2.2 x hx
  omega
end
end Z
namespace Z
noncomputable section
open PySem PySem.Spec PySem.P PyProof.Rows L2
/-! ### x.f = e, x an own object that has not got f yet: class number c becomes c' -/
structure SetC (G : GE) (c c' : Nat) (f : Str) : Prop where
  ex : ∃ A ns, G.cls c = some (A, ns) ∧ G.cls c' = some (A, ns ++ [f]) ∧ f ∉ ns ∧ ns.length < 1000 ∧ L2.Cls G.K A ∧ L2.NoAttr G.K A f
def owO (c : Nat) (s : SS) (i : Nat) : Option (List D) := match s[i]? with
  | some (.ow (.obj k vs)) => if k = c then some vs else none
  | _ => none
theorem owO_some {c : Nat} {s : SS} {i : Nat} {vs : List D} (h : owO c s i = some vs) : s[i]? = some (.ow (.obj c vs)) := by
  unfold owO at h
  split at h
  · rename_i k vs' e
    split at h
    · rename_i hk
      cases h
      rw [e, hk]
    · cases h
  · cases h
def sFldO (i c c' : Nat) (fe : SS → R D) : SS → RS := fun s => match owO c s i with
  | some vs => sE fe (fun d s => .nx (s.set i (.ow (.obj c' (vs ++ [d]))))) s
  | none => .bad
theorem putF_new {f : Str} {y : V} : ∀ {fs : List (Str × V)}, f ∉ fs.map (·.1) → putF f y fs = fs ++ [(f, y)]
  | [], _ => rfl
  | (g, u) :: fs, h => by
    rw [List.map_cons, List.mem_cons, not_or] at h
    unfold putF
    simp only [List.cons_append]
    first
      | rw [if_neg (by simpa using Ne.symm h.1), putF_new h.2]
      | rw [if_neg (by simpa using h.1), putF_new h.2]
section
variable {X : Cx} {C : CT} {W : WX} {e : Expr} {fe : SS → R D} {pos pos' p : Pos} {x f : Str} {c c' : Nat}
theorem s_fldO (i : Nat) (hK : X.K = C.G.K) (hc : SetC C.G c c' f) (he : PE X e (tD C W fe)) (hN : X.N[i]? = some x := by rfl) (hv : Vis X.env.scope x := by first | exact Or.inl rfl | exact Or.inr (Or.inl rfl) | exact Or.inr (Or.inr rfl)) (hd : (x == ("__debug__" : Str)) = false := by decide)
    (hcd : (x == ("__classdict__" : Str)) = false := by decide)
    (hs : swapsWith e (some (.Attribute (.Name x p) f pos')) pos.line X.env = pure false := by rfl) :
    PS X (.Assign [.Attribute (.Name x p) f pos'] e pos) (tS C W (sFldO i c c' fe)) := by
  refine ps_imp (ps_fld (pe_var (i := i) hN hv hd hcd) he hs) fun En σ H ⟨F, sd, S, h⟩ => ?_
  obtain ⟨A, ns, g1, g2, g3, g4, g5, g6⟩ := hc.ex
  unfold sFldO at h
  cases hx : owO c sd i with
  | none => rw [hx] at h; exact h.elim
  | some vs =>
    rw [hx] at h
    refine ⟨F, sd, S, postS_E S h fun d v F1 H1 e1 p1 h1 => ?_⟩
    have S1 := S.mono e1
    have ho := owO_some hx
    obtain ⟨a, e2, e3, e4, A', dx, fs, ns', k1, k2, k3, k4⟩ := S1.ow i _ (.inl ho)
    rw [g1] at k1
    obtain ⟨rfl, rfl⟩ : A = A' ∧ ns = ns' := by cases k1; exact ⟨rfl, rfl⟩
    refine ⟨_, e2, a, A, dx, fs, rfl, k2, by rw [hK]; exact g5, by rw [hK]; exact g6, by rw [← List.length_map (f := (·.1)), k3]; exact g4, ?_⟩
    rw [putF_new (by rw [k3]; exact g3)]
    refine h1 F1 _ σ (S1.upOw (d' := .obj c' (vs ++ [d])) ho e2 ⟨A, dx, fs ++ [(f, v)], ns ++ [f], g2, upd_same, by rw [List.map_append, k3]; rfl, ?_⟩) e1.ff (lk_ow ho)
    rw [List.map_append]
    exact k4.append (RepL.cons p1 RepL.nil)
end
end
end Z
namespace Z
noncomputable section
open PySem PySem.Spec PySem.P PyProof.Rows L2
/-! ### self of an __init__: a locked slot with an object that gets its fields -/
def lkO (c : Nat) (s : SS) (i : Nat) : Option (List D) := match s[i]? with
  | some (.lk (.obj k vs)) => if k = c then some vs else none
  | _ => none
theorem lkO_some {c : Nat} {s : SS} {i : Nat} {vs : List D} (h : lkO c s i = some vs) : s[i]? = some (.lk (.obj c vs)) := by
  unfold lkO at h
  split at h
  · rename_i k vs' e
    split at h
    · rename_i hk
      cases h
      rw [e, hk]
    · cases h
  · cases h
theorem StR.upLk {C : CT} {F H : Hp} {s : SS} {σ : L2.St} {i : Nat} {d d' : D} {a : Addr} {o : HO} (S : StR C F H s σ) (hs : s[i]? = some (.lk d)) (hσ : σ[i]? = some (some (.ref a))) (r : OwR C.G F (upd H a o) a d') : StR C F (upd H a o) (s.set i (.lk d')) σ := by
  have hi : i < s.length := (List.getElem?_eq_some_iff.mp hs).1
  obtain ⟨b, h1, h2, h3, h4⟩ := S.ow i d (.inr hs)
  rw [hσ] at h1
  cases h1
  have other : ∀ (j : Nat) (e : D) (b : Addr), j ≠ i → s[j]? = some (.ow e) ∨ s[j]? = some (.lk e) → σ[j]? = some (some (.ref b)) → b ≠ a := fun j e b hj q2 q3 z => by
    subst z
    exact hj (S.dis j i e d b q2 (.inr hs) q3 hσ)
  refine ⟨⟨S.ext.ff, fun b u e => ?_, fun b u e => ?_, S.ext.ow⟩, by rw [List.length_set]; exact S.len, fun j e q => ?_, fun j e q => ?_, fun j k e e' b q1 q2 q3 q4 => ?_, (S.nt.step (fun j k e q => ?_) (fun j k l q => ?_) (fun j e b q z => ?_) (Same.refl F) fun b o z1 z2 z3 => ?_).up⟩
  · rw [upd_ne (ne_of_none e h2)]
    exact S.ext.hh _ _ e
  · rw [upd_ne (ne_of_none e h3)]
    exact S.ext.fh _ _ e
  · by_cases hij : i = j
    · subst hij
      rw [List.getElem?_set_self hi] at q
      cases q
    · rw [List.getElem?_set_ne hij] at q
      exact S.sh j e q
  · by_cases hij : i = j
    · subst hij
      rw [List.getElem?_set_self hi] at q
      rcases q with q | q
      · cases q
      · cases q
        exact ⟨a, hσ, h2, h3, r⟩
    · rw [List.getElem?_set_ne hij] at q
      obtain ⟨b, e1, e2, e3, e4⟩ := S.ow j e q
      have hb := other j e b (Ne.symm hij) q e1
      exact ⟨b, e1, e2, e3, e4.mono (Same.refl F) fun u z => by rw [upd_ne hb]; exact z⟩
  · by_cases hij : i = j
    · by_cases hik : i = k
      · exact hij.symm.trans hik
      · subst hij
        rw [List.getElem?_set_ne hik] at q2
        rw [hσ] at q3
        cases q3
        exact (other k e' _ (Ne.symm hik) q2 q4 rfl).elim
    · rw [List.getElem?_set_ne hij] at q1
      by_cases hik : i = k
      · subst hik
        rw [hσ] at q4
        cases q4
        exact (other j e _ (Ne.symm hij) q1 q3 rfl).elim
      · rw [List.getElem?_set_ne hik] at q2
        exact S.dis j k e e' b q1 q2 q3 q4
  · by_cases hij : i = j
    · subst hij
      rw [List.getElem?_set_self hi] at q
      cases q
    · rw [List.getElem?_set_ne hij] at q
      exact ⟨q, rfl⟩
  · by_cases hij : i = j
    · subst hij
      rw [List.getElem?_set_self hi] at q
      cases q
    · rw [List.getElem?_set_ne hij] at q
      exact ⟨q, rfl⟩
  · by_cases hij : i = j
    · subst hij
      exact .inl ⟨i, d, .inr hs, z⟩
    · rw [List.getElem?_set_ne hij] at q
      exact .inl ⟨j, e, q, z⟩
  · have hb : b ≠ a := fun y => by subst y; exact z3 i d (.inr hs) hσ
    rw [upd_ne hb]
    exact ⟨z1, z2⟩
theorem lk_lk {s : SS} {σ : L2.St} {i c c' : Nat} {vs ws : List D} (hs : s[i]? = some (.lk (.obj c vs))) : Lk s σ (s.set i (.lk (.obj c' ws))) σ := fun j x q k => by
  have hi : i < s.length := (List.getElem?_eq_some_iff.mp hs).1
  by_cases hij : i = j
  · subst hij
    rw [hs] at q
    cases q
    exact ⟨⟨_, List.getElem?_set_self hi, .inr ⟨_, _, _, _, rfl, rfl⟩⟩, rfl⟩
  · rw [List.getElem?_set_ne hij]
    exact ⟨⟨_, q, LkR.refl k⟩, rfl⟩
def sFldK (i c c' : Nat) (fe : SS → R D) : SS → RS := fun s => match lkO c s i with
  | some vs => sE fe (fun d s => .nx (s.set i (.lk (.obj c' (vs ++ [d]))))) s
  | none => .bad
section
variable {X : Cx} {C : CT} {W : WX} {e : Expr} {fe : SS → R D} {pos pos' p : Pos} {x f : Str} {c c' : Nat}
theorem s_fldK (i : Nat) (hK : X.K = C.G.K) (hc : SetC C.G c c' f) (he : PE X e (tD C W fe)) (hN : X.N[i]? = some x := by rfl) (hv : Vis X.env.scope x := by first | exact Or.inl rfl | exact Or.inr (Or.inl rfl) | exact Or.inr (Or.inr rfl)) (hd : (x == ("__debug__" : Str)) = false := by decide)
    (hcd : (x == ("__classdict__" : Str)) = false := by decide)
    (hs : swapsWith e (some (.Attribute (.Name x p) f pos')) pos.line X.env = pure false := by rfl) :
    PS X (.Assign [.Attribute (.Name x p) f pos'] e pos) (tS C W (sFldK i c c' fe)) := by
  refine ps_imp (ps_fld (pe_var (i := i) hN hv hd hcd) he hs) fun En σ H ⟨F, sd, S, h⟩ => ?_
  obtain ⟨A, ns, g1, g2, g3, g4, g5, g6⟩ := hc.ex
  unfold sFldK at h
  cases hx : lkO c sd i with
  | none => rw [hx] at h; exact h.elim
  | some vs =>
    rw [hx] at h
    refine ⟨F, sd, S, postS_E S h fun d v F1 H1 e1 p1 h1 => ?_⟩
    have S1 := S.mono e1
    have ho := lkO_some hx
    obtain ⟨a, e2, e3, e4, A', dx, fs, ns', k1, k2, k3, k4⟩ := S1.ow i _ (.inr ho)
    rw [g1] at k1
    obtain ⟨rfl, rfl⟩ : A = A' ∧ ns = ns' := by cases k1; exact ⟨rfl, rfl⟩
    refine ⟨_, e2, a, A, dx, fs, rfl, k2, by rw [hK]; exact g5, by rw [hK]; exact g6, by rw [← List.length_map (f := (·.1)), k3]; exact g4, ?_⟩
    rw [putF_new (by rw [k3]; exact g3)]
    refine h1 F1 _ σ (S1.upLk (d' := .obj c' (vs ++ [d])) ho e2 ⟨A, dx, fs ++ [(f, v)], ns ++ [f], g2, upd_same, by rw [List.map_append, k3]; rfl, ?_⟩) e1.ff (lk_lk ho)
    rw [List.map_append]
    exact k4.append (RepL.cons p1 RepL.nil)
end
theorem start_lk {G : GE} {F H H0 : Hp} {ds : List D} {vs : List V} {N : List Str} {x : Addr} {d0 : D} (s0 : Same H0 H) (hx0 : H0 x = none) (s : Same F H) (hxF : F x = none) (r : RepL G F ds vs) (r0 : OwR G F H x d0) (hn : ds.length + 1 ≤ N.length) :
    StR ⟨G, F, H0⟩ F H (.lk d0 :: (ds.map Sl.sh ++ List.replicate (N.length - 1 - ds.length) .no)) (L2.start N (.ref x :: vs)) := by
  have hl := r.length
  have hst : L2.start N (.ref x :: vs) = some (.ref x) :: (vs.map some ++ List.replicate (N.length - (vs.length + 1)) none) := by
    unfold L2.start
    simp
  rw [hst]
  have no : ∀ {i : Nat} {z : Sl}, z ≠ .no → (∀ d, z ≠ .sh d) → (ds.map Sl.sh ++ List.replicate (N.length - 1 - ds.length) Sl.no)[i]? ≠ some z := fun {i z} h1 h2 e => by
    by_cases hi : i < ds.length
    · rw [List.getElem?_append_left (by simpa using hi), List.getElem?_map, List.getElem?_eq_getElem hi] at e
      cases e
      exact h2 _ rfl
    · rw [List.getElem?_append_right (by simpa using hi), List.getElem?_replicate] at e
      split at e <;> cases e
      exact h1 rfl
  have own : ∀ {i : Nat} {d : D}, (Sl.lk d0 :: (ds.map Sl.sh ++ List.replicate (N.length - 1 - ds.length) Sl.no))[i]? = some (.ow d) ∨ (Sl.lk d0 :: (ds.map Sl.sh ++ List.replicate (N.length - 1 - ds.length) Sl.no))[i]? = some (.lk d) → i = 0 ∧ d = d0 := fun {i d} h => by
    cases i with
    | zero =>
      rcases h with h | h
      · cases h
      · cases h; exact ⟨rfl, rfl⟩
    | succ i =>
      rw [List.getElem?_cons_succ] at h
      rcases h with h | h
      · exact (no (by intro z; cases z) (fun d z => by cases z) h).elim
      · exact (no (by intro z; cases z) (fun d z => by cases z) h).elim
  refine ⟨⟨Same.refl F, s0, s, fun _ _ _ h => h⟩, ?_, fun i d h => ?_, fun i d h => ?_, fun i j d e a h h' _ _ => ?_, NtOk.zero fun i k d h => ?_⟩
  · simp only [List.length_cons, List.length_append, List.length_map, List.length_replicate]
    omega
  · cases i with
    | zero => cases h
    | succ i =>
      rw [List.getElem?_cons_succ] at h
      by_cases hi : i < ds.length
      · rw [List.getElem?_append_left (by simpa using hi), List.getElem?_map, List.getElem?_eq_getElem hi] at h
        cases h
        obtain ⟨v, h1, h2⟩ := r.get (List.getElem?_eq_getElem hi)
        refine ⟨v, ?_, h2⟩
        rw [List.getElem?_cons_succ, List.getElem?_append_left (by simpa [hl] using hi), List.getElem?_map, h1]
        rfl
      · rw [List.getElem?_append_right (by simpa using hi), List.getElem?_replicate] at h
        split at h <;> cases h
  · obtain ⟨rfl, rfl⟩ := own h
    exact ⟨x, rfl, hx0, hxF, r0⟩
  · exact (own h).1.trans (own h').1.symm
  · cases i with
    | zero => cases h
    | succ i =>
      rw [List.getElem?_cons_succ] at h
      exact (no (by intro z; cases z) (fun d z => by cases z) h).elim
end
end Z
namespace Z
noncomputable section
open PySem PySem.Spec PySem.P PyProof.Rows L2
/-! ### THE RULE for an __init__: from the arguments to the fields -/
def runK (c0 cN m : Nat) (f : SS → RS) (ds : List D) : R (List D) := match f (.lk (.obj c0 []) :: (ds.map Sl.sh ++ List.replicate (m - 1 - ds.length) .no)) with
  | .nx s' => (match lkO cN s' 0 with
    | some vs => .ok vs
    | none => .bad)
  | .ex c vs _ => .ex c vs
  | _ => .bad
def spI (G : GE) (c0 cN n : Nat) (g : List D → R (List D)) : Sp := fun vs H Q E => ∃ F H0 ds x ws, vs = .ref x :: ws ∧ Same H0 H ∧ H0 x = none ∧ Same F H ∧ F x = none ∧ OwR G F H x (.obj c0 []) ∧ ds.length = n ∧ RepL G F ds ws ∧ (match g ds with
  | .ok fields => ∀ F' H', Ext F H0 F' H' → F' x = none → OwR G F' H' x (.obj cN fields) → Q .non H'
  | .ex c us => ∀ cls dx F' H', Ext F H0 F' H' → XR G F' c us cls dx → E cls dx H'
  | .bad => False)
theorem init_ok {P : Program} {w : World} {K : PySem.W.Frag} {mg : Str → Option Value} {base : Heap} {G : GE} {x qual : Str} {st : Stmt} {f : Addr} {fd : FuncData} {N ps : List Str} {k n c0 cN : Nat} {g : List D → R (List D)} {body : SS → RS}
    (Fu : Fun K x qual st f fd) (S : FnScope N ps (defScope st)) (hK : K = G.K) (hps : ps.length = n + 1) (hN : ps.length ≤ N.length)
    (hb : ∀ (cdv : Value) (A : Around) (outer : List PySem.Env) (s : Shared) (H F H0 : Hp) (E : XK), Room k (A.deeper (envOfC qual (defScope st) s.heap.objs.size f cdv)) →
      Pl (cxOf (L2.CX P w) P w K mg base N qual (defScope st) f cdv A outer s H E) ⟨G, F, H0⟩ (fun cls d _ H => E cls d H) →
      PSs (cxOf (L2.CX P w) P w K mg base N qual (defScope st) f cdv A outer s H E) (defBody st) (tS ⟨G, F, H0⟩ (fun cls d _ H => E cls d H) body))
    (hg : ∀ ds, ds.length = n → g ds ≠ .bad → runK c0 cN N.length body ds = g ds) : FnOk P w K mg base (L2.CX P w) (k + 1) f fd ps (spI G c0 cN n g) := by
  refine Fu.okX S (fun vs H Q E h => ?_) (fun cdv A outer s H vs Q E hr h => ?_)
  · obtain ⟨F, H0, ds, x, ws, rfl, _, _, _, _, _, hl, r, _⟩ := h
    rw [List.length_cons, r.length, hl, hps]
  · obtain ⟨F, H0, ds, x, ws, rfl, s0, hx0, sm, hxF, r0, hl, r, h⟩ := h
    have tk : Takes (cxOf (L2.CX P w) P w K mg base N qual (defScope st) f cdv A outer s H E) (fun cls d _ H => E cls d H) := takes_of rfl rfl rfl rfl
    have v : Pl (cxOf (L2.CX P w) P w K mg base N qual (defScope st) f cdv A outer s H E) ⟨G, F, H0⟩ (fun cls d _ H => E cls d H) := by
      refine ⟨⟨hK, ?_, tk, ?_⟩, rfl⟩
      · have := hr.un
        show Around.units (A.deeper _) + 65 < _
        omega
      · exact passes_of rfl
    refine ⟨_, hb cdv A outer s H F H0 E hr v, ?_⟩
    refine ⟨F, .lk (.obj c0 []) :: (ds.map Sl.sh ++ List.replicate (N.length - 1 - ds.length) .no), start_lk s0 hx0 sm hxF r r0 (by omega), ?_⟩
    have hne : g ds ≠ .bad := fun z => by rw [z] at h; exact h
    have hrun := hg ds hl hne
    unfold runK at hrun
    cases q : body (.lk (.obj c0 []) :: (ds.map Sl.sh ++ List.replicate (N.length - 1 - ds.length) .no)) with
    | nx s' =>
      rw [q] at hrun
      dsimp only at hrun
      cases q2 : lkO cN s' 0 with
      | none => rw [q2] at hrun; exact (hne hrun.symm).elim
      | some fields =>
        rw [q2] at hrun
        have hrun : R.ok fields = g ds := hrun
        rw [← hrun] at h
        intro F' H' σ' S' f' l'
        have ho := lkO_some q2
        obtain ⟨a, e1, e2, e3, e4⟩ := S'.ow 0 _ (.inr ho)
        have g2 := (l'.get (i := 0) (d := .obj c0 []) rfl).2
        rw [e1] at g2
        have hax : a = x := by
          have : some (some (V.ref a)) = some (some (V.ref x)) := g2
          cases this
          rfl
        subst hax
        exact h F' H' S'.ext e3 e4
    | rt b d => rw [q] at hrun; exact (hne hrun.symm).elim
    | ex c vs s' =>
      rw [q] at hrun
      have hrun : R.ex c vs = g ds := hrun
      rw [← hrun] at h
      exact fun cls dx F' H' σ' S' f' l' x => h cls dx F' H' S'.ext x
    | rm d s' => rw [q] at hrun; exact (hne hrun.symm).elim
    | rn j s' => rw [q] at hrun; exact (hne hrun.symm).elim
    | bk s' => rw [q] at hrun; exact (hne hrun.symm).elim
    | ct s' => rw [q] at hrun; exact (hne hrun.symm).elim
    | bad => rw [q] at hrun; exact (hne hrun.symm).elim
end
end Z
namespace Z
noncomputable section
open PySem PySem.Spec PySem.P PyProof.Rows L2
/-! ### C(..): an object is made -/
/-- a class that is known -/
structure KnC (P : Program) (w : World) (K : PySem.W.Frag) (mg : Str → Option Value) (base : Heap) (G : GE) (x : Str) (c0 cN n : Nat) (g : List D → R (List D)) (k : Nat) : Prop where
  ex : ∃ A f fd ps, FnOk P w K mg base (L2.CX P w) k f fd ps (spI G c0 cN n g) ∧ mg x = some (.ref A) ∧ L2.Mk K A f ∧ Binds K fd ps [] ∧ G.cls c0 = some (A, [])
def eMk (cN : Nat) (g : List D → R (List D)) (fs : SS → R (List D)) : SS → R D := fun s => (fs s).bind fun ds => (g ds).bind fun vs => .ok (.obj cN vs)
section
variable {X : Cx} {pins : List (Addr × Obj)} {σ : L2.St} {H : Hp} {s : Shared} {Q : VK} {us : List Value} {vs : List V} {CX : CXT} {k : Nat} {f A : Addr} {fd : FuncData} {ps : List Str} {sp : Sp} {E : XK}
theorem run_makeS (M : L2.Mk X.K A f) (F : FnOk X.prog X.w X.K X.mg X.base CX k f fd ps sp) (hr : Room (k + 1) X.A) (hb : Binds X.K fd ps []) (hx : PassesAt CX X σ E) (I : Inv X pins σ H s) (r : Vals vs us)
    (h : ∀ x dx, H x = none → H dx = none → dx ≠ x → sp (.ref x :: vs) (upd (upd H dx (.own x)) x (.ins A dx [])) (fun v H2 => v = .non ∧ Q (.ref x) H2) E) :
    wpAny (model X.prog X.w) X.A (call (.ref A) us) (EP X pins σ Q) X.xe s := by
  have hq := h (s.heap.objs.size + 1) s.heap.objs.size (I.hok.fresh (Nat.le_succ _)) (I.hok.fresh (Nat.le_refl _)) (Nat.ne_of_lt (Nat.lt_succ_self _))
  have I2 := Inv.made (C := A) I
  have r2 : Vals (V.ref (s.heap.objs.size + 1) :: vs) (Value.ref (s.heap.objs.size + 1) :: us) := .cons rfl r
  have hl : (Value.ref (s.heap.objs.size + 1) :: us ++ []).length = ps.length := by
    have e := r2.length
    rw [F.len _ _ _ _ hq] at e
    rw [List.append_nil]
    exact e.symm
  refine wpAny_call (make_map (f := f) I.kIn M.makes M.init (beq_iff_eq.mp M.fn) (codeAny_mono (F.run _ X.stack _ _ ⟨Value.ref (s.heap.objs.size + 1) :: us, []⟩ (Value.ref (s.heap.objs.size + 1) :: us) _ _ E (hr.make A us [])
    (I2.env0.make A us []) (by have := hb _ (Value.ref (s.heap.objs.size + 1) :: us) I2.kIn hl; rwa [List.append_nil] at this) r2 hq) fun r s' hq' => ?_))
  cases r with
  | error e => exact hx pins _ _ e s' I2 hq'
  | ok fl =>
    cases fl with
    | ret u =>
      obtain ⟨v, H', I3, rv, ev, q3⟩ := I2.after hq'
      subst ev
      exact ⟨rv, ⟨V.ref (s.heap.objs.size + 1), H', I3, rfl, q3⟩⟩
    | next => exact False.elim hq'
    | brk => exact False.elim hq'
    | cont => exact False.elim hq'
end
section
variable {X : Cx} {C : CT} {W : WX} {a : Expr} {es : List Expr} {fs : SS → R (List D)} {pos p : Pos} {x : Str} {n k c0 cN : Nat} {g : List D → R (List D)}
theorem s_make (v : Pq X C W) (F : KnC X.prog X.w X.K X.mg X.base C.G x c0 cN n g k) (hr : Room (k + 1) X.A) (hg : Gl X x) (hn : ∀ s ds, fs s = .ok ds → ds.length = n) (ha : PA X (a :: es) (tA C W fs)) (hdb : (x == ("__debug__" : Str)) = false := by decide)
    (he : starEach (a :: es) X.env = (false, eval a X.env) :: starEach es X.env := by rfl) (hpl : (backTo pos (starEach es X.env)).any (·.1) = false := by rfl) : PE X (.Call (.Name x p) (a :: es) [] pos) (tF C W (eMk cN g fs)) := by
  obtain ⟨A, f, fd, ps, F1, F2, M, F4, F5⟩ := F.ex
  refine ⟨fun pins s σ H Q I ⟨F, sd, S, h⟩ => ?_⟩
  refine wpAny_Call_Name_kw (ld_glob I hg F2 ?_ hdb)
  refine PySem.W.callWith_K (h₀ := X.base) I.ok.mod.kin M.kp (thn (ha.run pos pins s σ H (fun vs H1 => ∃ F' ds, Ext F H F' H1 ∧ fs sd = .ok ds ∧ RepL C.G F' ds vs) I ⟨F, sd, S, ?_⟩) fun us s1 ⟨vs, H1, I1, r, F', ds, e1, hds, rr⟩ => ⟨I1.kIn, ?_⟩) he hpl
  · unfold eMk at h
    cases q : fs sd with
    | ok ds => exact fun vs F' H' e r => ⟨F', ds, e, rfl, pairL r⟩
    | ex c vs => rw [q] at h; exact h
    | bad => rw [q] at h; exact h
  · refine run_makeS M F1 hr F4 (passAt v.tk σ) I1 r fun y dx hy hdx hne => ?_
    have hl := hn sd ds hds
    unfold eMk at h
    rw [hds] at h
    have hH0y : (upd H1 dx (.own y)) y = none := by rw [upd_ne (Ne.symm hne)]; exact hy
    refine ⟨F', upd H1 dx (.own y), ds, y, vs, rfl, same_new hH0y, hH0y, (e1.fh.trans (same_new hdx)).trans (same_new hH0y), e1.fh.free hy, ⟨A, dx, [], [], F5, upd_same, rfl, RepL.nil⟩, hl, rr, ?_⟩
    have ext : ∀ {F2 H2 : Hp}, Ext F' (upd H1 dx (.own y)) F2 H2 → Ext F H F2 H2 := fun {F2 H2} e => e1.trans ⟨e.ff, (same_new hdx).trans e.hh, e.fh, fun b o h1 h2 => e.ow b o (same_new hdx _ _ h1) h2⟩
    cases q : g ds with
    | ok fields =>
      have h : PostE C W F H σ (pF C H) Q (.ok (.obj cN fields)) := by simpa [R.bind, q] using h
      exact fun F2 H2 e h1 h2 => ⟨rfl, h (.ref y) F2 H2 (ext e) ⟨y, rfl, e1.hh.free hy, h1, h2⟩⟩
    | ex c ws =>
      have h : PostE C W F H σ (pF C H) Q (.ex c ws) := by simpa [R.bind, q] using h
      exact fun cls d F2 H2 e x => h cls d F2 H2 (ext e) x
    | bad =>
      have h : PostE C W F H σ (pF C H) Q .bad := by simpa [R.bind, q] using h
      exact h
end
end
end Z
namespace Z
noncomputable section
open PySem PySem.Spec PySem.P PyProof.Rows L2
/-! ### an own list is lent: read by a callee, own again behind it -/
mutual
/-- no list in it -/
def noL : D → Bool
  | .lst _ => false
  | .tup ds => noLs ds
  | .dic _ ds => noLs ds
  | .obj _ ds => noLs ds
  | .exc _ ds => noLs ds
  | _ => true
def noLs : List D → Bool
  | [] => true
  | d :: ds => noL d && noLs ds
end
def noL1 : D → Bool
  | .lst ds => noLs ds
  | d => noL d
def less (F : Hp) (a : Addr) : Hp := fun b => if b = a then none else F b
theorem less_ne {F : Hp} {a b : Addr} (h : b ≠ a) : less F a b = F b := if_neg h
theorem less_same {F : Hp} {a : Addr} : less F a a = none := if_pos rfl
theorem ne_lst {F : Hp} {a b : Addr} {us : List V} {o : HO} (ha : F a = some (.lst us)) (hb : F b = some o) (ho : ∀ us, o ≠ .lst us) : b ≠ a := fun e => by
  subst e
  rw [ha] at hb
  cases hb
  exact ho us rfl
section
variable {G : GE} {F : Hp} {a : Addr} {us : List V} (ha : F a = some (.lst us))
include ha
mutual
theorem Rep.less : ∀ {d : D} {v : V}, noL d = true → Rep G F d v → Rep G (less F a) d v
  | .non, v, _, h => by unfold Rep at h ⊢; exact h
  | .bl b, v, _, h => by unfold Rep at h ⊢; exact h
  | .int i, v, _, h => by unfold Rep at h ⊢; exact h
  | .str x, v, _, h => by unfold Rep at h ⊢; exact h
  | .lst ds, v, n, h => by simp [noL] at n
  | .tup ds, v, n, h => by
    unfold Rep at h ⊢
    obtain ⟨b, xs, e, q, r⟩ := h
    refine ⟨b, xs, e, ?_, RepL.less (by simpa [noL] using n) r⟩
    rcases q with (q | ⟨o, q⟩) | q
    · exact .inl (.inl (by rw [less_ne (ne_lst ha q (by intro _ z; cases z))]; exact q))
    · exact .inl (.inr ⟨o, by rw [less_ne (ne_lst ha q (by intro _ z; cases z))]; exact q⟩)
    · exact .inr q
  | .dic ks ds, v, n, h => by
    unfold Rep at h ⊢
    obtain ⟨b, kvs, e, ⟨o, q⟩, k, nd, r⟩ := h
    exact ⟨b, kvs, e, ⟨o, by rw [less_ne (ne_lst ha q (by intro _ z; cases z))]; exact q⟩, k, nd, RepL.less (by simpa [noL] using n) r⟩
  | .obj c ds, v, n, h => by
    unfold Rep at h ⊢
    obtain ⟨b, C, dx, fs, ns, e, g, q, k, r⟩ := h
    exact ⟨b, C, dx, fs, ns, e, g, by rw [less_ne (ne_lst ha q (by intro _ z; cases z))]; exact q, k, RepL.less (by simpa [noL] using n) r⟩
  | .exc c ds, v, n, h => by
    unfold Rep at h ⊢
    obtain ⟨b, C, ns, dx, e, g, q, k⟩ := h
    refine ⟨b, C, ns, dx, e, g, by rw [less_ne (ne_lst ha q (by intro _ z; cases z))]; exact q, ?_⟩
    rcases k with k | ⟨d, fs, e1, e2, e3, r⟩
    · exact .inl k
    · exact .inr ⟨d, fs, e1, by rw [less_ne (ne_lst ha e2 (by intro _ z; cases z))]; exact e2, e3, RepL.less (by simpa [noL] using n) r⟩
theorem RepL.less : ∀ {ds : List D} {vs : List V}, noLs ds = true → RepL G F ds vs → RepL G (less F a) ds vs
  | [], vs, _, h => by unfold RepL at h ⊢; exact h
  | d :: ds, vs, n, h => by
    unfold RepL at h ⊢
    obtain ⟨v, r, e, h1, h2⟩ := h
    have n : noL d = true ∧ noLs ds = true := by simpa [noLs] using n
    exact ⟨v, r, e, Rep.less n.1 h1, RepL.less n.2 h2⟩
end
theorem XR.less {c : Nat} {vs : List D} {cls : Value} {dx : Option Addr} (n : noLs vs = true) (h : XR G F c vs cls dx) : XR G (Z.less F a) c vs cls dx := by
  obtain ⟨C, ns, g, e, k⟩ := h
  refine ⟨C, ns, g, e, ?_⟩
  rcases k with k | ⟨d, fs, e1, e2, e3, r⟩
  · exact .inl k
  · exact .inr ⟨d, fs, e1, by rw [less_ne (ne_lst ha e2 (by intro _ z; cases z))]; exact e2, e3, RepL.less ha n r⟩
theorem OwR.less {H : Hp} {b : Addr} {d : D} (n : noL1 d = true) (h : OwR G F H b d) : OwR G (Z.less F a) H b d := by
  cases d <;> try exact False.elim h
  · obtain ⟨xs, e, r⟩ := h
    exact ⟨xs, e, RepL.less ha (by simpa [noL1] using n) r⟩
  · obtain ⟨kvs, e, k, nd, r⟩ := h
    exact ⟨kvs, e, k, nd, RepL.less ha (by simpa [noL1, noL] using n) r⟩
  · obtain ⟨C, dx, fs, ns, g, e, k, r⟩ := h
    exact ⟨C, dx, fs, ns, g, e, k, RepL.less ha (by simpa [noL1, noL] using n) r⟩
end
theorem Ext.lend {F H F' H' : Hp} {a : Addr} {o : HO} (hF : F a = none) (e : Ext (upd F a o) H F' H') : Ext F H (less F' a) H' := by
  refine ⟨fun b u z => ?_, e.hh, fun b u z => ?_, fun b u z1 z2 => ?_⟩
  · have hb : b ≠ a := ne_of_none z hF
    rw [less_ne hb]
    exact e.ff _ _ (by rw [upd_ne hb]; exact z)
  · by_cases hb : b = a
    · subst hb; rw [less_same] at z; cases z
    · rw [less_ne hb] at z; exact e.fh _ _ z
  · by_cases hb : b = a
    · subst hb; exact less_same
    · rw [less_ne hb]
      exact e.ow b u z1 (by rw [upd_ne hb]; exact z2)
/-- the own list of a slot seen as a shared one -/
theorem StR.lend {C : CT} {F H : Hp} {sd : SS} {σ : L2.St} {i : Nat} {xs : List D} (S : StR C F H sd σ) (q : sd[i]? = some (.ow (.lst xs))) :
    ∃ a vs, F a = none ∧ StR C (upd F a (.lst vs)) H (sd.set i (.sh (.lst xs))) σ := by
  obtain ⟨a, h1, h2, h3, vs, h4, h5⟩ := S.ow i _ (.inl q)
  have hi : i < sd.length := (List.getElem?_eq_some_iff.mp q).1
  have s1 : Same F (upd F a (.lst vs)) := same_new h3
  have other : ∀ (j : Nat) (e : D) (b : Addr), j ≠ i → sd[j]? = some (.ow e) ∨ sd[j]? = some (.lk e) → σ[j]? = some (some (.ref b)) → b ≠ a := fun j e b hj q2 q3 z => by
    subst z
    exact hj (S.dis j i e _ b q2 (.inl q) q3 h1)
  refine ⟨a, vs, h3, ⟨S.ext.ff.trans s1, S.ext.hh, fun b u z => ?_, fun b u e1 e2 => ?_⟩, by rw [List.length_set]; exact S.len, fun j e q2 => ?_, fun j e q2 => ?_, fun j k e e' b q1 q2 => ?_, (S.nt.step (fun j k e q2 => ?_) (fun j k l q2 => ?_) (fun j e b q2 z => ?_) s1 fun b o z1 z2 z3 => ?_)⟩
  · by_cases hb : b = a
    · subst hb; rw [upd_same] at z; cases z; exact h4
    · rw [upd_ne hb] at z; exact S.fh _ _ z
  · have hb : b ≠ a := fun z => by subst z; rw [h2] at e1; cases e1
    rw [upd_ne hb]
    exact S.ext.ow b u e1 e2
  · by_cases hij : i = j
    · subst hij
      rw [List.getElem?_set_self hi] at q2
      cases q2
      exact ⟨_, h1, rep_lst.mpr ⟨a, vs, rfl, .inl (.inl upd_same), RepL.mono s1 h5⟩⟩
    · rw [List.getElem?_set_ne hij] at q2
      obtain ⟨v, e1, e2⟩ := S.sh j e q2
      exact ⟨v, e1, Rep.mono s1 e2⟩
  · by_cases hij : i = j
    · subst hij
      rw [List.getElem?_set_self hi] at q2
      rcases q2 with z | z <;> cases z
    · rw [List.getElem?_set_ne hij] at q2
      obtain ⟨b, e1, e2, e3, e4⟩ := S.ow j e q2
      have hb := other j e b (Ne.symm hij) q2 e1
      exact ⟨b, e1, e2, by rw [upd_ne hb]; exact e3, e4.mono s1 fun _ z => z⟩
  · by_cases hij : i = j
    · subst hij
      rw [List.getElem?_set_self hi] at q1
      rcases q1 with z | z <;> cases z
    · by_cases hik : i = k
      · subst hik
        rw [List.getElem?_set_self hi] at q2
        rcases q2 with z | z <;> cases z
      · rw [List.getElem?_set_ne hij] at q1
        rw [List.getElem?_set_ne hik] at q2
        exact S.dis j k e e' b q1 q2
  · by_cases hij : i = j
    · subst hij
      rw [List.getElem?_set_self hi] at q2
      cases q2
    · rw [List.getElem?_set_ne hij] at q2
      exact ⟨q2, rfl⟩
  · by_cases hij : i = j
    · subst hij
      rw [List.getElem?_set_self hi] at q2
      cases q2
    · rw [List.getElem?_set_ne hij] at q2
      exact ⟨q2, rfl⟩
  · by_cases hij : i = j
    · subst hij
      rw [List.getElem?_set_self hi] at q2
      rcases q2 with z | z <;> cases z
    · rw [List.getElem?_set_ne hij] at q2
      exact .inl ⟨j, e, q2, z⟩
  · have hb : b ≠ a := fun y => by subst y; exact z3 i _ (.inl q) h1
    rw [upd_ne hb]
    exact ⟨z1, z2⟩
def brR (p : D → Bool) (r : R D) : R D := match r with
  | .ok d => if p d = true then .ok d else .bad
  | .ex c vs => if noLs vs = true then .ex c vs else .bad
  | .bad => .bad
def eBrw (i : Nat) (fe : SS → R D) : SS → R D := fun s => match owL s i with
  | some xs => brR noL (fe (s.set i (.sh (.lst xs))))
  | none => .bad
def eBrwF (i : Nat) (fe : SS → R D) : SS → R D := fun s => match owL s i with
  | some xs => brR noL1 (fe (s.set i (.sh (.lst xs))))
  | none => .bad
section
variable {X : Cx} {C : CT} {W : WX} {e : Expr} {fe : SS → R D}
theorem s_brw (i : Nat) (he : PE X e (tD C W fe)) : PE X e (tD C W (eBrw i fe)) := by
  refine pe_imp he fun σ H Q ⟨F, sd, S, h⟩ => ?_
  unfold eBrw at h
  cases hx : owL sd i with
  | none => rw [hx] at h; exact h.elim
  | some xs =>
    rw [hx] at h
    obtain ⟨a, vs, hF, S1⟩ := S.lend (owL_some hx)
    refine ⟨_, _, S1, ?_⟩
    have h : PostE C W F H σ (pD C) Q (brR noL (fe (sd.set i (.sh (.lst xs))))) := h
    cases q : fe (sd.set i (.sh (.lst xs))) with
    | ok d =>
      rw [q] at h
      unfold brR at h
      dsimp only at h
      split at h
      · rename_i hn
        exact fun v F' H' e r => h v (less F' a) H' (Ext.lend hF e) (Rep.less (e.ff _ _ upd_same) hn r)
      · exact h.elim
    | ex c ws =>
      rw [q] at h
      unfold brR at h
      dsimp only at h
      split at h
      · rename_i hn
        exact fun cls dx F' H' e x => h cls dx (less F' a) H' (Ext.lend hF e) (XR.less (e.ff _ _ upd_same) hn x)
      · exact h.elim
    | bad => rw [q] at h; exact h.elim
theorem s_brwF (i : Nat) (he : PE X e (tF C W fe)) : PE X e (tF C W (eBrwF i fe)) := by
  refine pe_imp he fun σ H Q ⟨F, sd, S, h⟩ => ?_
  unfold eBrwF at h
  cases hx : owL sd i with
  | none => rw [hx] at h; exact h.elim
  | some xs =>
    rw [hx] at h
    obtain ⟨a, vs, hF, S1⟩ := S.lend (owL_some hx)
    refine ⟨_, _, S1, ?_⟩
    have h : PostE C W F H σ (pF C H) Q (brR noL1 (fe (sd.set i (.sh (.lst xs))))) := h
    cases q : fe (sd.set i (.sh (.lst xs))) with
    | ok d =>
      rw [q] at h
      unfold brR at h
      dsimp only at h
      split at h
      · rename_i hn
        refine fun v F' H' e ⟨b, e1, e2, e3, e4⟩ => h v (less F' a) H' (Ext.lend hF e) ⟨b, e1, e2, ?_, OwR.less (e.ff _ _ upd_same) hn e4⟩
        by_cases hb : b = a
        · subst hb; exact less_same
        · rw [less_ne hb]; exact e3
      · exact h.elim
    | ex c ws =>
      rw [q] at h
      unfold brR at h
      dsimp only at h
      split at h
      · rename_i hn
        exact fun cls dx F' H' e x => h cls dx (less F' a) H' (Ext.lend hF e) (XR.less (e.ff _ _ upd_same) hn x)
      · exact h.elim
    | bad => rw [q] at h; exact h.elim
end
def rBrw (p : D → Bool) (s : SS) (i : Nat) (fe : SS → R D) : Option (List D) → R D
  | some xs => brR p (fe (s.set i (.sh (.lst xs))))
  | none => .bad
@[simp] theorem eBrw_s (i : Nat) (fe : SS → R D) (s : SS) : eBrw i fe s = rBrw noL s i fe (getOw s[i]?) := by
  unfold eBrw rBrw owL getOw
  rfl
@[simp] theorem eBrwF_s (i : Nat) (fe : SS → R D) (s : SS) : eBrwF i fe s = rBrw noL1 s i fe (getOw s[i]?) := by
  unfold eBrwF rBrw owL getOw
  rfl
@[simp] theorem rBrw_s (p : D → Bool) (s : SS) (i : Nat) (fe : SS → R D) (xs : List D) : rBrw p s i fe (some xs) = brR p (fe (s.set i (.sh (.lst xs)))) := rfl
@[simp] theorem brR_ok (p : D → Bool) (d : D) : brR p (.ok d) = if p d = true then .ok d else .bad := rfl
@[simp] theorem brR_ex (p : D → Bool) (c : Nat) : brR p (.ex c []) = .ex c [] := rfl
@[simp] theorem noL_bl (b : Bool) : noL (.bl b) = true := by simp [noL]
@[simp] theorem noL_int (b : Int) : noL (.int b) = true := by simp [noL]
@[simp] theorem noL_str (b : List Nat) : noL (.str b) = true := by simp [noL]
@[simp] theorem noL_non : noL .non = true := by simp [noL]
theorem noLs_str : ∀ xs : List (List Nat), noLs (xs.map .str) = true
  | [] => by simp [noLs]
  | x :: xs => by simp [noLs, noL, noLs_str xs]
end
end Z
namespace Z
noncomputable section
open PySem PySem.Spec PySem.P PyProof.Rows L2
/-! ### x[::-1] of a text -/
def revS : D → R D
  | .str x => if x.length ≤ SZ then .ok (.str x.reverse) else .bad
  | _ => .bad
theorem revS_ne : NoEx1 revS := fun x c vs h => by
  unfold revS at h
  split at h
  · split at h <;> cases h
  · cases h
theorem indices_rev (n : Nat) : Builtin.Str.strSliceIndices none none (-1) n = (List.range n).map fun k => n - 1 - k := by
  have e : Builtin.Str.strSliceIndices none none (-1) n = sliceRange ((n : Int) - 1) (-1) (-1) := by
    simp [Builtin.Str.strSliceIndices]
  rw [e, PySem.W.krv_sliceRange]
theorem okS_reverse {x : List Nat} (a : okS x = true) : okS x.reverse = true := by
  unfold okS at a ⊢
  rw [List.all_eq_true] at a ⊢
  exact fun c h => a c (List.mem_reverse.mp h)
section
variable {X : Cx} {C : CT} {W : WX} {a : Expr} {fa : SS → R D} {pos p1 p2 p3 : Pos} {k : Nat}
theorem s_rev (v : Pq X C W) (ha : PE X a (tB C W fa)) : PE X (.Subscript a (.Slice none none (some (.UnaryOp .USub (.Constant (.int 1) k p1) p3)) p2) pos) (tD C W (eUn revS fa)) := by
  refine ⟨fun pins s σ H Q I ⟨F, sd, S, h⟩ => ?_⟩
  refine Subscript_ (thn (ha.run pins s σ H _ I ⟨F, sd, S, PostE.bind (Q1 := fun x H1 => ∃ d F1, Ext F H F1 H1 ∧ Bor C.G F1 H1 d x ∧ PostE C W F1 H1 σ _ Q (revS d)) h fun d v F1 H1 e1 b1 h1 => ⟨d, F1, e1, b1, h1⟩⟩) fun v' s1 ⟨x, H1, I1, r1, d, F1, e1, b1, h1⟩ => ?_)
  refine wpAny_Slice (thn (po_none.run pins s1 σ H1 (fun o H2 => o = none ∧ H2 = H1) I1 ⟨rfl, rfl⟩) fun vl s2 ⟨l, H2, I2, pl, el, eh⟩ => ?_)
  subst el eh
  refine thn (po_none.run pins s2 σ H2 (fun o H3 => o = none ∧ H3 = H2) I2 ⟨rfl, rfl⟩) fun vu s3 ⟨u, H3, I3, pu, eu, eh⟩ => ?_
  subst eu eh
  refine thn ((s_oso (C := C) (W := W) (fa := eUn negD (eC (.int 1))) (s_neg v (s_b s_int))).run pins s3 σ H3 (fun o H4 => o = some (-1) ∧ ∃ F4, Ext F1 H3 F4 H4) I3 ⟨F1, sd, S.mono e1, show PostO C W F1 H3 σ _ (.ok (some (-1))) from fun F4 H4 e4 => ⟨rfl, F4, e4⟩⟩) fun vs s4 ⟨o, H4, I4, ps, eo, F4, e4⟩ => ?_
  subst eo
  have I5 : Inv X pins σ H4 { s4 with heap := s4.heap.push { cls := .type "slice", data := .fields #[vl, vu, vs] } } := I4.kept (t' := s4.toks) fun b ob q => Heap.get?_push_of_some _ q
  have bd := Bor.mono e4 b1
  have p := (PostE.ext e4 h1).toV fun c vs z => revS_ne _ c vs z
  unfold revS at p
  cases d with
  | str z =>
    dsimp only at p
    split at p
    · rename_i hz
      obtain ⟨rfl, hk⟩ := bor_str bd
      obtain ⟨t, rfl⟩ := r1
      have p := p.str e4.fh (okS_reverse hk)
      obtain ⟨l, rfl, hl⟩ := IsPart.raw pl
      obtain ⟨u, rfl, hu⟩ := IsPart.raw pu
      obtain ⟨st, rfl, hst⟩ := IsPart.raw ps
      have hl' : l = none := by cases l with | none => rfl | some q => cases hl
      have hu' : u = none := by cases u with | none => rfl | some q => cases hu
      subst hl' hu'
      obtain ⟨tk, rfl⟩ : ∃ tk, st = some (-1, tk) := by
        cases st with
        | none => cases hst
        | some q =>
          obtain ⟨i, tk⟩ := q
          have : some (-1 : Int) = some i := hst.symm
          cases this
          exact ⟨tk, rfl⟩
      refine tail_any (ops := [.str ⟨z.toArray⟩ t, .ref s4.heap.objs.size]) (typeIs_str _ _ _) (PySem.F.slot_str_getitem.lookup) ?_ (by with_unfolding_all rfl)
      refine wpAny_getItem_str_slice (l := none) (u := none) (st := some (-1, tk)) ⟨_, Heap.get?_push_size _ rfl, rfl, rfl⟩ rfl ?_
      have e : slicePicked ⟨z.toArray⟩ none none (some (-1, tk)) = (List.range z.length).map fun k => z.length - 1 - k := by
        show Builtin.Str.strSliceIndices none none (-1) (Str.length ⟨z.toArray⟩) = _
        rw [indices_rev]
        rfl
      have e2 : ((slicePicked ⟨z.toArray⟩ none none (some (-1, tk))).filterMap ((⟨z.toArray⟩ : Str).cps[·]?)).toArray = z.reverse.toArray := by
        rw [e, PySem.W.krv_range, List.filterMap_reverse]
        have := PySem.W.krv_all z.toArray
        rw [List.size_toArray] at this
        rw [this]
      show Made.post (if (((some (-1, tk) : Option (Int × Tok)).map (·.1)).getD 1 == 1 && _) = true then _ else Made.str ⟨((slicePicked ⟨z.toArray⟩ none none (some (-1, tk))).filterMap ((⟨z.toArray⟩ : Str).cps[·]?)).toArray⟩) _ _
      rw [if_neg (by simp), e2]
      refine ⟨?_, .str _, H4, I5.tok _, ⟨_, rfl⟩, p⟩
      show Array.size _ ≤ _
      rw [List.size_toArray, List.length_reverse]
      exact sz_line hz
    · exact p.elim
  | _ => exact p.elim
end
/-! ### {k: v} -/
def eDic1 (fk fv : SS → R D) : SS → R D := fun s => (fk s).bind fun k => (fv s).bind fun v => match keyD k with
  | some k => .ok (.dic [k] [v])
  | none => .bad
section
variable {X : Cx} {C : CT} {W : WX} {a b : Expr} {fa fb fd fk fx : SS → R D} {pos cpos apos : Pos} {o e f : Expr}
theorem s_dic1 (ha : PE X a (tB C W fa)) (hb : PE X b (tD C W fb)) : PE X (.Dict [some a] [b] pos) (tF C W (eDic1 fa fb)) := by
  refine pe_imp (pe_disp (pps_cons ha hb pps_nil) rfl rfl (by simp) (by simp)) fun σ H Q ⟨F, sd, S, h⟩ => ?_
  intro p hp
  have e0 : Ext F H F (upd H p (.dK [])) := Ext.newOwn S.fh hp
  refine ⟨F, sd, S.mono e0, ?_⟩
  unfold eDic1 at h
  cases qa : fa sd with
  | ex c vs => rw [qa] at h; exact fun cls dx F' H' e x => h cls dx F' H' (e0.trans e) x
  | bad => rw [qa] at h; exact h
  | ok d =>
    rw [qa] at h
    intro x F1 H1 e1 b1
    refine ⟨F1, sd, (S.mono e0).mono e1, ?_⟩
    have h : PostE C W F H σ (pF C H) Q ((fb sd).bind fun v => match keyD d with
      | some k => .ok (.dic [k] [v])
      | none => .bad) := h
    cases qb : fb sd with
    | ex c vs => rw [qb] at h; exact fun cls dx F' H' e x => h cls dx F' H' ((e0.trans e1).trans e) x
    | bad => rw [qb] at h; exact h
    | ok d2 =>
      rw [qb] at h
      intro y F2 H2 e2 b2
      cases q : keyD d with
      | none =>
        have h : PostE C W F H σ (pF C H) Q (match keyD d with
          | some k => .ok (.dic [k] [d2])
          | none => .bad) := h
        rw [q] at h; exact h.elim
      | some k =>
        have h : PostE C W F H σ (pF C H) Q (match keyD d with
          | some k => .ok (.dic [k] [d2])
          | none => .bad) := h
        rw [q] at h
        have hk := keyD_rep q b1
        have hp2 : H2 p = some (.dK []) := e2.hh _ _ (e1.hh _ _ upd_same)
        have hf : F p = none := S.fh.free hp
        have hf2 : F2 p = none := e2.ow _ _ (e1.hh _ _ upd_same) (e1.ow _ _ upd_same hf)
        refine ⟨hp2, [(k, y)], by rw [hk]; rfl, by simp, ?_⟩
        have e012 := (e0.trans e1).trans e2
        have em : mergeK [] [(k, y)] = [(k, y)] := by
          show putK [] k y = _
          rw [putK_new _ (by rfl)]
          rfl
        rw [em]
        refine h (.ref p) F2 _ ⟨e012.ff, fun b u z => ?_, fun b u z => ?_, fun b u z1 z2 => e012.ow b u z1 z2⟩ ⟨p, rfl, hp, hf2, [(k, y)], upd_same, rfl, by simp, RepL.cons b2 RepL.nil⟩
        · rw [upd_ne (ne_of_none z hp)]
          exact e012.hh _ _ z
        · rw [upd_ne (ne_of_none z hf2)]
          exact e2.fh _ _ z
/-! ### d.get(k, x) -/
def eDGet (fd fk fx : SS → R D) : SS → R D := fun s => (fd s).bind fun d => match d with
  | .dic ks vs => (fk s).bind fun k => (fx s).bind fun x => (match keyD k with
    | some k => (match look ks vs k with
      | some v => .ok v
      | none => .ok x)
    | none => .bad)
  | _ => .bad
theorem s_dget (v : Pq X C W) (ho : PE X o (tB C W fd)) (he : PE X e (tB C W fk)) (hf : PE X f (tD C W fx)) (m : M2 X o "get" apos e f cpos := by exact ⟨by rfl, by rfl, by rfl, by rfl⟩) : PE X (.Call (.Attribute o "get" apos) [e, f] [] cpos) (tD C W (eDGet fd fk fx)) := by
  refine pe_imp (pe_dget2 (by have := v.hu; omega) ho he hf m) fun σ H Q ⟨F, sd, S, h⟩ => ⟨F, sd, S, ?_⟩
  refine PostE.bind h fun d x F1 H1 e1 b1 h1 => ?_
  have hd : ∃ ks vs, d = .dic ks vs := by
    cases d with
    | dic ks vs => exact ⟨ks, vs, rfl⟩
    | _ => exact h1.elim
  obtain ⟨ks, vs, rfl⟩ := hd
  obtain ⟨a, kvs, rfl, hr, rfl, nd, r⟩ := bor_dic e1.fh b1
  refine ⟨a, rfl, .inl ⟨kvs, hr⟩, F1, sd, S.mono e1, PostE.bind h1 fun dk y F2 H2 e2 b2 h2 => ?_⟩
  refine ⟨F2, sd, (S.mono e1).mono e2, PostE.bind h2 fun dx z F3 H3 e3 b3 h3 => ?_⟩
  cases q : keyD dk with
  | none => rw [q] at h3; exact h3.elim
  | some k =>
    rw [q] at h3
    have hk := keyD_rep q b2
    subst hk
    have r3 : RepL C.G F3 vs (kvs.map (·.2)) := RepL.mono (e2.trans e3).ff r
    have hr3 : Rd H3 a (.dK kvs) := Same.rd (e2.trans e3).hh hr
    refine ⟨valV kvs k, .inl ⟨kvs, k, hr3, rfl, rfl⟩, ?_⟩
    have lk := look_val (k := k) r3
    have h3 : PostE C W F3 H3 σ (pD C) Q (match look (kvs.map (·.1)) vs k with
      | some v => .ok v
      | none => .ok dx) := h3
    cases q2 : look (kvs.map (·.1)) vs k with
    | some w =>
      rw [q2] at h3
      obtain ⟨u, hu, ru⟩ := lk.1 w q2
      rw [hu]
      exact h3 u F3 H3 (Ext.refl e3.fh) ru
    | none =>
      rw [q2] at h3
      rw [lk.2 q2]
      exact h3 z F3 H3 (Ext.refl e3.fh) b3
end
end
end Z
namespace Z
noncomputable section
open PySem PySem.Spec PySem.P PyProof.Rows L2
/-! ### sorted(d), the keys texts -/
section
variable {X : Cx} {C : CT} {W : WX}
theorem cr_sortedDT (hcalm : X.calm = true) : CallR X (.builtin "sorted") (fun xs H Q => ∃ (a : Addr) (kvs : List (Key × V)) (ks : List Str), xs = [.ref a] ∧ Rd H a (.dK kvs) ∧ kvs.map (·.1) = ks.map Sum.inr ∧
    ∀ (ys : List Str) (p : Addr), ys.Perm ks → ys.Pairwise (fun x y => ¬ y.cps.toList < x.cps.toList) → H p = none → Q (.ref p) (upd H p (.lst (ys.map V.str)))) := by
  intro pins s σ H xs us Q I r q
  obtain ⟨a, kvs, ks, ex, hd, hks, q⟩ := q
  subst ex
  obtain ⟨u, eu, rx⟩ := vals1 r
  subst eu
  cases rx
  obtain ⟨z, lo, vs, rel, dd⟩ := dk_rd I.hok hd
  obtain ⟨ep, hat⟩ := dd.dictAt
  have hkeys : vs.map (·.1) = ks.map Sum.inr := rel.keys.symm.trans hks
  have hl : vs.length = ks.length := by
    have e := congrArg List.length hkeys
    rw [List.length_map, List.length_map] at e
    exact e
  have h16 : vs.length ≤ sizeLine := by rw [← rel.length]; exact z
  refine Calls.call_function_entry PyProof.Rows.kind_sorted PyProof.Rows.plain_sorted PyProof.Rows.entry_sorted (PyProof.Rows.args_sorted1 _) ?_
  unfold Builtin.«sorted»
  refine wpAny_bind (m := checkCount "sorted" 1 1 _) (wpAny_pure ?_)
  refine wpAny_bind (PySem.W.kdu_collect (A := X.A.in1) (PySem.W.kdl_dict (knd := mixKind X.prog X.w) (kvs := vs) (ep := ep) lo) (I.ok.hd hcalm) hat h16 fun h' tk acc hk hacc => ?_)
  have hal : acc.toList.length = ks.length := by rw [Array.length_toList, hacc.1, hl]
  have hS : StrsAre acc.toList ks := strs_at hal fun j v e => by
    obtain ⟨k, x, e1, e2⟩ := hacc.2 j v (by rw [← Array.getElem?_toList]; exact e)
    have e3 : (vs.map (·.1))[j]? = some k := by rw [List.getElem?_map, e1]; all_goals rfl
    rw [hkeys, List.getElem?_map] at e3
    cases e4 : ks[j]? with
    | none => rw [e4] at e3; cases e3
    | some y =>
      rw [e4] at e3
      have e5 : Sum.inr y = k := Option.some.inj e3
      subst e5
      obtain ⟨t, ev⟩ := Value.isStrOf_shape (x := y) (v := v) e2
      exact ⟨y, t, rfl, ev⟩
  have I1 : Inv X pins σ H { s with heap := h', toks := tk } := I.kept hk
  have hz : acc.toList.length ≤ sizeLine := by rw [hal, ← hl]; exact h16
  refine wpAny_bind (wpAny_newList ?_ hz)
  have hoL : (h'.push (seqObj "list" acc.toList.toArray 0)).get? h'.objs.size = some (seqObj "list" acc.toList.toArray 0) := Heap.get?_push_size _ rfl
  show wpAny _ _ _ _ _ { s with heap := h'.push (seqObj "list" acc.toList.toArray 0), toks := tk }
  refine wpAny_bind (wpAny_holding (wpAny_call_entry PyProof.Rows.slot_list_sort ⟨_, hoL, rfl⟩ PyProof.Rows.entry_list_sort
    (SrtO.list_sort_ord ZS.swo_str hoL hz (fun h2 => ZS.strs_sortable hS h2) fun out h1 h2 => ⟨_, rfl, ?_⟩)
    (PyProof.Rows.args_list_sort _)))
  obtain ⟨k1, k2, k3⟩ := ZS.strs_out hS h1 h2
  obtain ⟨e', he'⟩ := PyProof.Rows.sortedHeap_at (vs := acc.toList) (out := out.toArray) hoL
  have hlen : ((out.map ZS.svS).map V.str).length ≤ sizeLine := by
    rw [List.length_map, k2.length_eq, ← hl]
    exact h16
  refine wpAny_pure ⟨_, rfl, .ref h'.objs.size, upd H h'.objs.size (.lst ((out.map ZS.svS).map V.str)), I1.laid (t' := tk) (fun b u e => ?_) (Nat.le_refl _)
    (show ObjOk X.prog X.w _ _ _ (.lst ((out.map ZS.svS).map V.str)) from ⟨hlen, out, e', vals_of_strs k1, he'⟩), rfl, q _ _ k2 k3 (I1.hok.fresh (Nat.le_refl _))⟩
  have hb : b < h'.objs.size := Heap.lt_size e
  rw [PyProof.Rows.sortedHeap_old (Nat.ne_of_lt hb) (by rw [size_push']; exact Nat.lt_succ_of_lt hb)]
  exact Heap.get?_push_of_some _ e
def keyS : Key → Option (List Nat)
  | .inl _ => none
  | .inr x => if okS x.cps.toList = true then some x.cps.toList else none
def keysS : List Key → Option (List (List Nat))
  | [] => some []
  | k :: ks => (keyS k).bind fun x => (keysS ks).map (x :: ·)
def sortKD : List D → R D
  | [.dic ks _] => match keysS ks with
    | some ys => .ok (.lst ((sortT ys).map .str))
    | none => .bad
  | _ => .bad
theorem sortKD_ne : NoExL sortKD := fun x c vs h => by
  unfold sortKD at h
  split at h
  · split at h <;> cases h
  · cases h
theorem keyS_some {k : Key} {x : List Nat} (h : keyS k = some x) : k = Sum.inr (toS x) ∧ okS x = true := by
  unfold keyS at h
  split at h
  · cases h
  · rename_i z
    split at h
    · rename_i hk
      cases h
      refine ⟨?_, hk⟩
      show Sum.inr z = Sum.inr (⟨z.cps.toList.toArray⟩ : Str)
      rw [Array.toArray_toList]
    · cases h
theorem keysS_some : ∀ {ks : List Key} {ys : List (List Nat)}, keysS ks = some ys → ks = (ys.map toS).map Sum.inr ∧ ∀ y ∈ ys, okS y = true
  | [], ys, h => by cases h; exact ⟨rfl, fun y hy => nomatch hy⟩
  | k :: ks, ys, h => by
    unfold keysS at h
    cases qk : keyS k with
    | none => rw [qk] at h; cases h
    | some x =>
      cases q : keysS ks with
      | none => rw [qk, q] at h; cases h
      | some zs =>
        rw [qk, q] at h
        cases h
        obtain ⟨e, m⟩ := keysS_some q
        obtain ⟨e1, m1⟩ := keyS_some qk
        refine ⟨by rw [e, e1]; rfl, fun y hy => ?_⟩
        rcases List.mem_cons.mp hy with rfl | hy
        · exact m1
        · exact m y hy
theorem call_sortKD (v : Pl X C W) : CallR X (.builtin "sorted") (rCF C.G sortKD) := by
  intro pins s σ H xs us Q I r h
  obtain ⟨F, ds, S, r2, p⟩ := h
  unfold sortKD at p
  split at p
  · obtain ⟨u, rfl, b⟩ := pair1 r2
    obtain ⟨a, kvs, rfl, q, hk, nd, rr⟩ := bor_dic S b
    split at p
    · rename_i ns hn
      obtain ⟨e, hok⟩ := keysS_some hn
      refine cr_sortedDT v.calm pins s σ H _ us Q I r ⟨a, kvs, ns.map toS, rfl, q, hk.trans e, fun zs p' hp hs hf => ?_⟩
      have h1 : zs = (zs.map fun z => z.cps.toList).map toS := by
        rw [List.map_map]
        conv => lhs; rw [← List.map_id zs]
        refine List.map_congr_left fun z _ => ?_
        show z = ⟨z.cps.toList.toArray⟩
        rw [Array.toArray_toList]
      have h2 : zs.map (fun z => z.cps.toList) = sortT ns := by
        apply sortT_uniq
        · have := hp.map fun z : Str => z.cps.toList
          rw [List.map_map] at this
          have e2 : ns.map ((fun z : Str => z.cps.toList) ∘ toS) = ns := by
            conv => rhs; rw [← List.map_id ns]
            exact List.map_congr_left fun z _ => rfl
          rwa [e2] at this
        · exact List.pairwise_map.mpr hs
      rw [h1, h2]
      exact p.lst S (repL_strs _ fun x hx => hok x ((sortT_perm ns).mem_iff.mp hx)) p' hf
    · exact p.elim
  · exact p.elim
end
end
end Z
namespace Z
noncomputable section
open PySem PySem.Spec PySem.P PyProof.Rows L2
/-! ### plain side: objects, lent lists, dicts -/
section
variable {s : SS} {fe : SS → R D}
def getLk (c : Nat) : Option Sl → Option (List D)
  | some (.lk (.obj k vs)) => if k = c then some vs else none
  | _ => none
@[simp] theorem getLk_o (c : Nat) (vs : List D) : getLk c (some (.lk (.obj c vs))) = some vs := if_pos rfl
theorem lkO_s (c : Nat) (i : Nat) : lkO c s i = getLk c s[i]? := by
  unfold lkO getLk
  rfl
def rFldK (s : SS) (i c' : Nat) (r : R D) : Option (List D) → RS
  | some vs => rE s r fun d s => .nx (s.set i (.lk (.obj c' (vs ++ [d]))))
  | none => .bad
@[simp] theorem rFldK_s (i c' : Nat) (r : R D) (vs : List D) : rFldK s i c' r (some vs) = rE s r fun d s => .nx (s.set i (.lk (.obj c' (vs ++ [d])))) := rfl
@[simp] theorem sFldK_s (i c c' : Nat) : sFldK i c c' fe s = rFldK s i c' (fe s) (getLk c s[i]?) := by
  unfold sFldK
  rw [lkO_s]
  cases getLk c s[i]? <;> rfl
def finK (cN : Nat) : RS → R (List D)
  | .nx s' => (match getLk cN s'[0]? with
    | some vs => .ok vs
    | none => .bad)
  | .ex c vs _ => .ex c vs
  | _ => .bad
theorem runK_s (c0 cN m : Nat) (f : SS → RS) (ds : List D) : runK c0 cN m f ds = finK cN (f (.lk (.obj c0 []) :: (ds.map Sl.sh ++ List.replicate (m - 1 - ds.length) .no))) := by
  unfold runK finK
  cases f (.lk (.obj c0 []) :: (ds.map Sl.sh ++ List.replicate (m - 1 - ds.length) .no)) <;> first | rfl | (dsimp only; rw [lkO_s]; rfl)
@[simp] theorem finK_nx (cN : Nat) (vs : List D) (t : SS) : finK cN (.nx (.lk (.obj cN vs) :: t)) = .ok vs := by
  unfold finK
  simp
@[simp] theorem finK_ex (cN c : Nat) (vs : List D) (t : SS) : finK cN (.ex c vs t) = .ex c vs := rfl
@[simp] theorem finK_ite (cN : Nat) (p : Prop) [Decidable p] (a b : RS) : finK cN (if p then a else b) = if p then finK cN a else finK cN b := by split <;> rfl
@[simp] theorem eMk_s (cN : Nat) (g : List D → R (List D)) (fs : SS → R (List D)) : eMk cN g fs s = (fs s).bind fun ds => (g ds).bind fun vs => .ok (.obj cN vs) := rfl
@[simp] theorem eDic1_s (fk fv : SS → R D) : eDic1 fk fv s = (fk s).bind fun k => (fv s).bind fun v => match keyD k with
  | some k => .ok (.dic [k] [v])
  | none => .bad := rfl
def rGet (d k x : D) : R D := match d with
  | .dic ks vs => (match keyD k with
    | some k => (match look ks vs k with
      | some v => .ok v
      | none => .ok x)
    | none => .bad)
  | _ => .bad
theorem eDGet_s (fd fk fx : SS → R D) {d k x : D} (h1 : fd s = .ok d) (h2 : fk s = .ok k) (h3 : fx s = .ok x) : eDGet fd fk fx s = rGet d k x := by
  unfold eDGet rGet
  rw [h1, h2, h3]
  cases d <;> rfl
end
/-! texts as keys -/
def kS (x : List Nat) : Key := .inr (toS x)
@[simp] theorem keyD_str (x : List Nat) : keyD (.str x) = some (kS x) := rfl
theorem kS_inj {x y : List Nat} : kS x = kS y ↔ x = y := by
  unfold kS
  constructor
  · intro h
    exact toS_inj (Sum.inr.inj h)
  · rintro rfl; rfl
theorem keyOk_kS {x : List Nat} : keyOk (kS x) = okS x := rfl
theorem keyDd_kS (x : List Nat) : keyDd (kS x) = .str x := rfl
theorem has_kS (xs : List (List Nat)) (x : List Nat) : has (xs.map kS) (kS x) = decide (x ∈ xs) := by
  unfold has
  induction xs with
  | nil => simp
  | cons y ys ih =>
    simp only [List.map_cons, List.any_cons, ih, kS_inj, List.mem_cons]
    by_cases h : x = y
    · subst h; simp
    · have h' : ¬ y = x := fun e => h e.symm
      simp [h, h']
theorem keysS_kS : ∀ (xs : List (List Nat)), (∀ x ∈ xs, okS x = true) → keysS (xs.map kS) = some xs
  | [], _ => rfl
  | x :: xs, h => by
    have h1 : keyS (kS x) = some x := by
      have := h x List.mem_cons_self
      show (if okS x = true then some x else none) = some x
      rw [if_pos this]
    show (keyS (kS x)).bind _ = _
    rw [h1, keysS_kS xs fun y hy => h y (List.mem_cons_of_mem _ hy)]
    rfl
theorem sortKD_k (xs : List (List Nat)) (vs : List D) (h : ∀ x ∈ xs, okS x = true) : sortKD [.dic (xs.map kS) vs] = .ok (.lst ((sortT xs).map .str)) := by
  unfold sortKD
  dsimp only
  rw [keysS_kS xs h]
theorem putKs_kS (xs : List (List Nat)) (x : List Nat) : putKs (xs.map kS) (kS x) = (if x ∈ xs then xs else xs ++ [x]).map kS := by
  unfold putKs
  rw [has_kS]
  by_cases h : x ∈ xs <;> simp [h]
/-- a set told as a dict whose values are all True -/
def setD1 (xs : List (List Nat)) : D := .dic (xs.map kS) (xs.map fun _ => .bl true)
theorem putV_const : ∀ (ks : List Key) (j : Key) (d : D), putV ks (ks.map fun _ => d) j d = (putKs ks j).map fun _ => d
  | [], j, d => by simp [putV, putKs, has]
  | k :: ks, j, d => by
    have ih := putV_const ks j d
    unfold putKs at ih ⊢
    by_cases hk : k = j
    · subst hk
      simp [putV, has]
    · have h2 : has (k :: ks) j = has ks j := by simp [has, hk]
      rw [h2]
      by_cases h : has ks j = true
      · rw [if_pos h] at ih ⊢
        simp [putV, hk]
        exact ih
      · rw [if_neg h] at ih ⊢
        simp [putV, hk]
        simpa using ih
/-! ### dicts with texts as keys, as lists of pairs -/
def dicT (l : List (List Nat × D)) : D := .dic (l.map fun p => kS p.1) (l.map (·.2))
def putA (l : List (List Nat × D)) (x : List Nat) (d : D) : List (List Nat × D) := match l with
  | [] => [(x, d)]
  | p :: r => if p.1 = x then (x, d) :: r else p :: putA r x d
theorem has_dic (l : List (List Nat × D)) (x : List Nat) : has (l.map fun p => kS p.1) (kS x) = decide (x ∈ l.map (·.1)) := by
  have := has_kS (l.map (·.1)) x
  rwa [List.map_map] at this
theorem putA_keys : ∀ (l : List (List Nat × D)) (x : List Nat) (d : D), (putA l x d).map (·.1) = if x ∈ l.map (·.1) then l.map (·.1) else l.map (·.1) ++ [x]
  | [], x, d => by simp [putA]
  | p :: r, x, d => by
    have ih := putA_keys r x d
    unfold putA
    by_cases h : p.1 = x
    · subst h
      simp
    · rw [if_neg h, List.map_cons, ih]
      have h' : ¬ x = p.1 := fun e => h e.symm
      by_cases h2 : x ∈ r.map (·.1)
      · rw [if_pos h2, if_pos (by rw [List.map_cons]; exact List.mem_cons_of_mem _ h2), List.map_cons]
      · rw [if_neg h2, if_neg (by rw [List.map_cons, List.mem_cons]; exact fun z => z.elim h' h2), List.map_cons]
        rfl
theorem putA_vals : ∀ (l : List (List Nat × D)) (x : List Nat) (d : D), putV (l.map fun p => kS p.1) (l.map (·.2)) (kS x) d = (putA l x d).map (·.2)
  | [], x, d => by simp [putA, putV]
  | p :: r, x, d => by
    have ih := putA_vals r x d
    unfold putA
    by_cases h : p.1 = x
    · subst h
      simp [putV]
    · rw [if_neg h]
      simp [putV, kS_inj, h, ih]
theorem putA_put (l : List (List Nat × D)) (x : List Nat) (d : D) : D.dic (putKs (l.map fun p => kS p.1) (kS x)) (putV (l.map fun p => kS p.1) (l.map (·.2)) (kS x) d) = dicT (putA l x d) := by
  unfold dicT
  rw [putA_vals]
  congr 1
  have h1 : (putA l x d).map (fun p => kS p.1) = ((putA l x d).map (·.1)).map kS := by rw [List.map_map]; rfl
  have h2 : l.map (fun p => kS p.1) = (l.map (·.1)).map kS := by rw [List.map_map]; rfl
  rw [h1, putA_keys, h2, putKs_kS]
def lookA (l : List (List Nat × D)) (x : List Nat) : Option D := (l.find? fun p => decide (p.1 = x)).map (·.2)
theorem look_dic : ∀ (l : List (List Nat × D)) (x : List Nat), look (l.map fun p => kS p.1) (l.map (·.2)) (kS x) = lookA l x
  | [], x => rfl
  | p :: r, x => by
    have ih := look_dic r x
    unfold lookA at ih ⊢
    by_cases h : p.1 = x
    · subst h
      simp [look]
    · simp [look, kS_inj, h, ih]
theorem lookA_mem : ∀ {l : List (List Nat × D)} {x : List Nat}, x ∈ l.map (·.1) → ∃ d, lookA l x = some d ∧ (x, d) ∈ l
  | p :: r, x, h => by
    unfold lookA
    by_cases e : p.1 = x
    · subst e
      exact ⟨p.2, by simp, List.mem_cons_self⟩
    · rw [List.map_cons, List.mem_cons] at h
      obtain ⟨d, h1, h2⟩ := lookA_mem (h.resolve_left fun z => e z.symm)
      exact ⟨d, by simpa [e, lookA] using h1, List.mem_cons_of_mem _ h2⟩
theorem lookA_none {l : List (List Nat × D)} {x : List Nat} (h : x ∉ l.map (·.1)) : lookA l x = none := by
  unfold lookA
  rw [List.find?_eq_none.mpr]
  · rfl
  · intro p hp
    simp only [decide_eq_true_eq]
    rintro rfl
    exact h (List.mem_map_of_mem hp)
theorem putDS_t (s : SS) (i : Nat) (l : List (List Nat × D)) (x : List Nat) (d : D) (h : l.length + 1 ≤ SZ) :
    putDS s i (l.map fun p => kS p.1) (l.map (·.2)) d (.str x) = .nx (s.set i (.ow (dicT (putA l x d)))) := by
  unfold putDS
  rw [keyD_str]
  dsimp only
  rw [if_pos (by simpa using h), putA_put]
@[simp] theorem getOd_t (l : List (List Nat × D)) : getOd (some (.ow (dicT l))) = some (l.map (fun p => kS p.1), l.map (·.2)) := rfl
theorem inD_t (neg : Bool) (x : List Nat) (l : List (List Nat × D)) : inD neg (.str x) (dicT l) = .ok (.bl (xor neg (decide (x ∈ l.map (·.1))))) := by
  have e : inD neg (.str x) (dicT l) = .ok (.bl (xor neg (has (l.map fun p => kS p.1) (kS x)))) := rfl
  rw [e, has_dic]
theorem rGet_t (l : List (List Nat × D)) (x : List Nat) (d : D) : rGet (dicT l) (.str x) d = .ok ((lookA l x).getD d) := by
  unfold dicT rGet
  rw [keyD_str]
  dsimp only
  rw [look_dic]
  cases lookA l x <;> rfl
theorem itD_t1 (l : List (List Nat × D)) (h : ∀ p ∈ l, okS p.1 = true) : itD (dicT l) = .ok (l.map fun p => .str p.1) := by
  unfold dicT
  show (if (l.map fun p => kS p.1).all keyOk = true then R.ok ((l.map fun p => kS p.1).map keyDd) else .bad) = _
  rw [if_pos (by simpa [keyOk_kS] using fun p q hp => h (p, q) hp)]
  congr 1
  rw [List.map_map]
  rfl
theorem sortKD_t (l : List (List Nat × D)) (h : ∀ p ∈ l, okS p.1 = true) : sortKD [dicT l] = .ok (.lst ((sortT (l.map (·.1))).map .str)) := by
  have := sortKD_k (l.map (·.1)) (l.map (·.2)) fun x hx => by
    obtain ⟨p, hp, rfl⟩ := List.mem_map.mp hx
    exact h p hp
  rw [List.map_map] at this
  exact this
end
end Z
namespace Z
noncomputable section
open PySem PySem.Spec PySem.P PyProof.Rows L2
/-! ### webs, plainly -/
def soundW (w : List Nat) : Bool := decide (1 ≤ w.length ∧ w.length ≤ 8) && w.all fun c => decide (97 ≤ c ∧ c ≤ 102)
theorem soundW_iff {w : List Nat} : soundW w = true ↔ (1 ≤ w.length ∧ w.length ≤ 8) ∧ ∀ c ∈ w, 97 ≤ c ∧ c ≤ 102 := by
  unfold soundW
  simp only [Bool.and_eq_true, decide_eq_true_eq, List.all_eq_true]
def webOkB (us : List (List Nat)) : Bool := decide (us ≠ []) && us.all soundW && (us.all fun v => us.all fun w => decide (v.length = w.length)) && decide us.Nodup
theorem webOkB_iff {us : List (List Nat)} : webOkB us = true ↔ us ≠ [] ∧ (∀ w ∈ us, soundW w = true) ∧ (∀ v ∈ us, ∀ w ∈ us, v.length = w.length) ∧ us.Nodup := by
  unfold webOkB
  simp only [Bool.and_eq_true, decide_eq_true_eq, List.all_eq_true, and_assoc]
def webR (us : List (List Nat)) : R (List D) := if 64 < us.length then .ex 3 [] else if webOkB us = true then .ok [.tup ((sortT us).map .str), .int ((us.headD []).length : Nat)] else .ex 2 []
def webD (ws : List (List Nat)) (n : Nat) : D := .obj 2 [.tup (ws.map .str), .int (n : Nat)]
/-- the words of a web, ascending, each of n letters -/
structure WebOk (ws : List (List Nat)) (n : Nat) : Prop where
  n1 : 1 ≤ n
  n8 : n ≤ 8
  ne : ws ≠ []
  le : ws.length ≤ 64
  len : ∀ w ∈ ws, w.length = n
  abc : ∀ w ∈ ws, ∀ c ∈ w, 97 ≤ c ∧ c ≤ 102
  asc : ws.Pairwise (· < ·)
theorem ded_len : ∀ {us : List (List Nat)}, (dedT us).length = us.length ↔ us.Nodup
  | [] => by simp [dedT]
  | x :: r => by
    have ih := ded_len (us := r)
    have hle := dedT_le r
    unfold dedT
    by_cases h : x ∈ r
    · rw [if_pos h, List.length_cons, List.nodup_cons]
      exact ⟨fun e => by omega, fun e => absurd h e.1⟩
    · rw [if_neg h, List.length_cons, List.length_cons, List.nodup_cons]
      constructor
      · intro e
        exact ⟨h, ih.mp (by omega)⟩
      · intro e
        rw [ih.mpr e.2]
theorem sortT_mem {us : List (List Nat)} {w : List Nat} : w ∈ sortT us ↔ w ∈ us := (sortT_perm us).mem_iff
theorem sortT_len (us : List (List Nat)) : (sortT us).length = us.length := (sortT_perm us).length_eq
theorem sortT_asc {us : List (List Nat)} (h : us.Nodup) : (sortT us).Pairwise (· < ·) := by
  have h1 := sortT_sorted us
  have h2 : (sortT us).Nodup := (sortT_perm us).nodup_iff.mpr h
  refine (h1.and h2).imp fun {a b} ⟨h3, h4⟩ => ?_
  by_cases h : a < b
  · exact h
  · exact absurd (List.le_antisymm (List.not_lt.mp h3) (List.not_lt.mp h)) h4
theorem asc_sort {us : List (List Nat)} (h : us.Pairwise (· < ·)) : sortT us = us :=
  (sortT_uniq (List.Perm.refl us) (h.imp fun h => List.lt_asymm h)).symm
theorem asc_nodup {us : List (List Nat)} (h : us.Pairwise (· < ·)) : us.Nodup := h.imp fun {a b} h e => by
  subst e
  exact List.lt_irrefl _ h
/-- one ascending list for one set -/
theorem asc_ext {us vs : List (List Nat)} (h1 : us.Pairwise (· < ·)) (h2 : vs.Pairwise (· < ·)) (h : ∀ w, w ∈ us ↔ w ∈ vs) : us = vs := by
  have hp : us.Perm vs := (List.perm_ext_iff_of_nodup (asc_nodup h1) (asc_nodup h2)).mpr h
  rw [← asc_sort h2]
  exact sortT_uniq hp (h1.imp fun h => List.lt_asymm h)
theorem webR_ok {us : List (List Nat)} (hl : us.length ≤ 64) (h : webOkB us = true) :
    ∃ n, webR us = .ok [.tup ((sortT us).map .str), .int (n : Nat)] ∧ WebOk (sortT us) n := by
  obtain ⟨h1, h2, h3, h4⟩ := webOkB_iff.mp h
  obtain ⟨u, r, rfl⟩ : ∃ u r, us = u :: r := by cases us with | nil => exact absurd rfl h1 | cons u r => exact ⟨u, r, rfl⟩
  have hu := soundW_iff.mp (h2 u List.mem_cons_self)
  refine ⟨u.length, ?_, ⟨hu.1.1, hu.1.2, fun e => ?_, by rw [sortT_len]; exact hl, fun w hw => ?_, fun w hw => ?_, sortT_asc h4⟩⟩
  · unfold webR
    rw [if_neg (by omega), if_pos h]
    rfl
  · have := sortT_len (u :: r)
    rw [e] at this
    cases this
  · exact h3 w (sortT_mem.mp hw) u List.mem_cons_self
  · exact (soundW_iff.mp (h2 w (sortT_mem.mp hw))).2
theorem webOkB_of {us : List (List Nat)} {n : Nat} (h1 : 1 ≤ n) (h8 : n ≤ 8) (hne : us ≠ []) (hl : ∀ w ∈ us, w.length = n) (ha : ∀ w ∈ us, ∀ c ∈ w, 97 ≤ c ∧ c ≤ 102) (hn : us.Nodup) : webOkB us = true :=
  webOkB_iff.mpr ⟨hne, fun w hw => soundW_iff.mpr ⟨by rw [hl w hw]; exact ⟨h1, h8⟩, ha w hw⟩, fun v hv w hw => (hl v hv).trans (hl w hw).symm, hn⟩
theorem webR_of {us : List (List Nat)} {n : Nat} (h1 : 1 ≤ n) (h8 : n ≤ 8) (hne : us ≠ []) (hl : ∀ w ∈ us, w.length = n) (ha : ∀ w ∈ us, ∀ c ∈ w, 97 ≤ c ∧ c ≤ 102) (hn : us.Nodup) (h64 : us.length ≤ 64) :
    webR us = .ok [.tup ((sortT us).map .str), .int (n : Nat)] ∧ WebOk (sortT us) n := by
  obtain ⟨m, e, w⟩ := webR_ok h64 (webOkB_of h1 h8 hne hl ha hn)
  obtain ⟨u, hu⟩ := List.exists_mem_of_ne_nil us hne
  have := (w.len u (sortT_mem.mpr hu)).symm.trans (hl u hu)
  subst this
  exact ⟨e, w⟩
theorem webR_bad {us : List (List Nat)} (hl : us.length ≤ 64) (h : webOkB us = false) : webR us = .ex 2 [] := by
  unfold webR
  rw [if_neg (by omega), if_neg (by rw [h]; exact Bool.false_ne_true)]
theorem webR_many {us : List (List Nat)} (hl : 64 < us.length) : webR us = .ex 3 [] := if_pos hl
end
end Z
namespace Z
noncomputable section
open PySem PySem.Spec PySem.P PyProof.Rows L2
/-! ### slices from the end, numbers below kinds -/
theorem cutL_m1 {α : Type} (x : List α) : cutL x none (some (-1)) = x.dropLast := by
  have e : HT.sIx x.length x.length (some (-1)) = x.length - 1 := by
    show (if (-1 : Int) < 0 then ((-1 : Int) + (x.length : Int)).toNat else min (-1 : Int).toNat x.length) = _
    rw [if_pos (by decide)]
    omega
  unfold cutL
  rw [e]
  show (x.drop 0).take (x.length - 1 - 0) = _
  rw [List.drop_zero, Nat.sub_zero, List.dropLast_eq_take]
theorem cutL_1 {α : Type} (x : List α) : cutL x (some 1) none = x.tail := by
  rw [cutL_from _ _ (by omega)]
  simp
/-- the words of a web in any order -/
structure Wds (us : List (List Nat)) (n : Nat) : Prop where
  n1 : 1 ≤ n
  n8 : n ≤ 8
  len : ∀ w ∈ us, w.length = n
  abc : ∀ w ∈ us, ∀ c ∈ w, 97 ≤ c ∧ c ≤ 102
  nd : us.Nodup
theorem Wds.le {us : List (List Nat)} {n : Nat} (h : Wds us n) : ∀ w ∈ us, w.length ≤ 1000000 := fun w hw => by
  rw [h.len w hw]
  have := h.n8
  omega
theorem Wds.web {us : List (List Nat)} {n : Nat} (h : Wds us n) (h0 : us ≠ []) (hl : us.length ≤ 64) : webR us = .ok [.tup ((sortT us).map .str), .int (n : Nat)] ∧ WebOk (sortT us) n :=
  webR_of h.n1 h.n8 h0 h.len h.abc h.nd hl
theorem Wds.perm {us vs : List (List Nat)} {n : Nat} (h : Wds us n) (p : vs.Perm us) : Wds vs n :=
  ⟨h.n1, h.n8, fun w hw => h.len w (p.mem_iff.mp hw), fun w hw => h.abc w (p.mem_iff.mp hw), p.nodup_iff.mpr h.nd⟩
theorem Wds.app {us : List (List Nat)} {n : Nat} {w : List Nat} (h : Wds us n) (hl : w.length = n) (ha : ∀ c ∈ w, 97 ≤ c ∧ c ≤ 102) (hn : w ∉ us) : Wds (us ++ [w]) n := by
  refine ⟨h.n1, h.n8, fun v hv => ?_, fun v hv => ?_, ?_⟩
  · rcases List.mem_append.mp hv with hv | hv
    · exact h.len v hv
    · rw [List.mem_singleton.mp hv]; exact hl
  · rcases List.mem_append.mp hv with hv | hv
    · exact h.abc v hv
    · rw [List.mem_singleton.mp hv]; exact ha
  · rw [List.nodup_append]
    refine ⟨h.nd, List.nodup_cons.mpr ⟨by simp, List.nodup_nil⟩, fun a h1 b h2 => ?_⟩
    rw [List.mem_singleton.mp h2]
    rintro rfl
    exact hn h1
theorem Wds.sub {us vs : List (List Nat)} {n : Nat} (h : Wds us n) (s : vs.Sublist us) : Wds vs n :=
  ⟨h.n1, h.n8, fun w hw => h.len w (s.subset hw), fun w hw => h.abc w (s.subset hw), h.nd.sublist s⟩
theorem sortT_rev (us : List (List Nat)) : sortT us.reverse = sortT us := by
  refine sortT_uniq ((sortT_perm us.reverse).trans (List.reverse_perm us)) (sortT_sorted _)
theorem sortT_of_perm {us vs : List (List Nat)} (h : us.Perm vs) : sortT us = sortT vs := sortT_uniq ((sortT_perm us).trans h) (sortT_sorted _)
/-- is a text among texts -/
theorem eqvS_any (x : List Nat) (ys : List (List Nat)) : (ys.map D.str).any (fun y => eqv y (.str x)) = decide (x ∈ ys) := by
  induction ys with
  | nil => simp
  | cons y ys ih =>
    rw [List.map_cons, List.any_cons, ih]
    have e : eqv (.str y) (.str x) = (y == x) := by rfl
    rw [e]
    by_cases h : y = x
    · subst h; simp
    · have h' : ¬ x = y := fun z => h z.symm
      simp [h, h']
theorem inD_strs (neg : Bool) (x : List Nat) (ys : List (List Nat)) : inD neg (.str x) (.lst (ys.map .str)) = .ok (.bl (xor neg (decide (x ∈ ys)))) := by
  have e : inD neg (.str x) (.lst (ys.map .str)) = if dep (.str x) ≤ 64 ∧ depL (ys.map D.str) ≤ 63 then .ok (.bl (xor neg ((ys.map D.str).any fun y => eqv y (.str x)))) else .bad := rfl
  rw [e, if_pos ⟨by simp [dep], by rw [depL_strs]; omega⟩, eqvS_any]
end
end Z
namespace ZR
open PySem PySem.Spec PyProof.Rows L2 RT
section
variable {prog : Program} {w : World} {A : Around} {E : Value → Shared → Prop} {s : Shared}
theorem call_list_str {x : Str} {t : Tok} {Q : Value → Shared → Prop} (hh : A.handled = none) (hn : x.cps.size ≤ sizeLine)
    (hQ : ∀ (h' : Heap) (tk : Nat) (acc : Array Value) (c' : Nat), (∀ b o, s.heap.get? b = some o → h'.get? b = some o) → h'.get? s.heap.objs.size = some { cls := .type "list", dict := none, data := .seq acc c', slots := #[] } →
      ItemsOf (SignAt x) acc x.cps.size → Q (.ref s.heap.objs.size) { s with heap := h', toks := tk }) :
    wpAny (model prog w) A (call (.type "list") [.str x t]) Q E s := by
  refine callType_codes (Q₁ := fun obj s₁ => obj = .ref s.heap.objs.size ∧ s₁ = { s with heap := s.heap.push { cls := .type "list", data := .seq #[] } }) F.called_list (F.typeCall_list_1 _) F.entry_list_init
    (code_list_new _ ⟨rfl, rfl⟩) fun obj s₁ h₁ => ?_
  obtain ⟨rfl, rfl⟩ := h₁
  have hS : (s.heap.push { cls := .type "list", data := .seq #[] }).get? s.heap.objs.size = some { cls := .type "list", data := .seq #[] } := Heap.get?_push_size _ rfl
  refine ⟨⟨_, hS, rfl⟩, F.args_list_init_2 _ _, ?_⟩
  show wpAny _ A.in1.in1 (do let old ← Builtin.List.listItems (.ref s.heap.objs.size); Builtin.List.listUpdate (.ref s.heap.objs.size) (fun _ => #[]); letGo old.toList.reverse; Builtin.List.listExtendWith (.ref s.heap.objs.size) (.str x t) .none) _ _ _
  refine wpAny_bind ?_
  unfold Builtin.List.listItems
  refine wpAny_bind (wpAny_seqItems hS rfl (wpAny_pure ?_))
  show wpAny _ A.in1.in1 (updateSeq s.heap.objs.size (fun _ => #[]) >>= fun _ => letGo (#[] : Array Value).toList.reverse >>= fun _ => Builtin.List.listExtendWith (.ref s.heap.objs.size) (.str x t) .none) _ _ _
  refine wpAny_bind (wpAny_updateSeq hS rfl ?_)
  have hS₂ := Heap.get?_update_self (Obj.mapSeq (fun _ => (#[] : Array Value))) hS rfl
  have oth : ∀ b o, b ≠ s.heap.objs.size → s.heap.get? b = some o → ((s.heap.push { cls := .type "list", data := .seq #[] }).update s.heap.objs.size (Obj.mapSeq (fun _ => (#[] : Array Value)))).get? b = some o :=
    fun b o hb e => (Heap.get?_update_other _ _ (Ne.symm hb)).trans (Heap.get?_push_of_some _ e)
  refine wpAny_bind (wpAny_letGo ?_)
  unfold Builtin.List.listExtendWith
  refine wpAny_bind (wpAny_typeOf (T := "str") (v := .str x t) rfl ?_)
  have h1 : Builtin.List.listSameRef (.ref s.heap.objs.size) (.str x t) = false := rfl
  have h2 : (Value.type "str" == Value.type "list") = false := by decide
  have h3 : (Value.type "str" == Value.type "tuple") = false := by decide
  simp only [h1, h2, h3, Bool.or_false, Bool.false_eq_true, if_false]
  refine wpAny_bind (wpAny_pyIter_str fun o St W hst => ?_)
  refine wpAny_bind (wpAny_holding ?_)
  unfold Builtin.List.listLengthHint
  refine wpAny_bind (wpAny_specialOf (T := "str") (v := .str x t) rfl F.str_len ?_)
  wp_delta
  refine wpAny_bind (wpAny_isInstance (T := "str") (v := .str x t) (b := true) rfl (by rw [isSubtype_type]; kernel_rfl) ?_)
  show wpAny _ A.in1.in1 (typeOf (Value.str x t) >>= _) _ _ _
  refine wpAny_bind (wpAny_typeOf (T := "str") (v := .str x t) rfl ?_)
  refine wpAny_pure ?_
  rw [if_neg (by decide)]
  generalize hH : ((s.heap.push { cls := .type "list", data := .seq #[] }).update s.heap.objs.size (Obj.mapSeq (fun _ => (#[] : Array Value)))) = H at W hst hS₂ oth ⊢
  have hHs : H.objs.size = s.heap.objs.size + 1 := by rw [← hH, Heap.size_update, Heap.size_push]
  have hSf : s.heap.objs.size ∉ [H.objs.size] := fun hm => by rw [List.mem_singleton.mp hm] at hHs; exact absurd hHs (Nat.ne_of_lt (Nat.lt_succ_self _))
  refine wpAny_pure ⟨plainId_quiet F.plain_extend_loop _, codeAny_extend_loopS (W A.in1.in1 hh).toS hn _ hSf _ x.cps.size 0 _ _ _ rfl (Nat.zero_le _) hst (Heap.get?_push_of_some _ hS₂) (ItemsOf.nil _) fun s' acc' c' hm hS' hacc => ?_⟩
  refine ⟨rfl, ?_⟩
  rw [Moved.eq_with hm]
  refine hQ s'.heap s'.toks acc' c' (fun b o e => ?_) hS' hacc
  have hlt := Heap.lt_size e
  have hbS : b ≠ s.heap.objs.size := Nat.ne_of_lt hlt
  refine hm.heap b o (fun hmem => ?_) (Heap.get?_push_of_some _ (oth b o hbS e))
  rcases List.mem_cons.mp hmem with h | h
  · exact hbS h
  · rw [List.mem_singleton.mp h, hHs] at hlt; exact absurd hlt (Nat.not_lt.mpr (Nat.le_succ _))
end
end ZR
namespace Z
noncomputable section
open PySem PySem.Spec PySem.P PyProof.Rows L2 RT
/-! ### list(x), x a text too -/
def listWD : List D → R D
  | [.str x] => if x.length ≤ SZ then .ok (.lst ((x.map fun c => [c]).map .str)) else .bad
  | ds => listD ds
theorem listWD_ne : NoExL listWD := fun x c vs h => by
  unfold listWD at h
  split at h
  · split at h <;> cases h
  · exact listD_ne _ c vs h
@[simp] theorem listWD_l (x : List D) : listWD [.lst x] = .ok (.lst x) := rfl
@[simp] theorem listWD_t (x : List D) : listWD [.tup x] = .ok (.lst x) := rfl
theorem listWD_s (x : List Nat) (h : x.length ≤ SZ) : listWD [.str x] = .ok (.lst ((x.map fun c => [c]).map .str)) := if_pos h
section
variable {X : Cx} {C : CT} {W : WX}
theorem sign_vals {x : List Nat} {acc : List Value} (hl : acc.length = x.length) (h : ∀ (j : Nat) (v : Value), acc[j]? = some v → ∃ c t, x[j]? = some c ∧ v = .str ⟨#[c]⟩ t) : Vals ((x.map fun c => toS [c]).map V.str) acc := by
  induction x generalizing acc with
  | nil =>
    have : acc = [] := List.eq_nil_of_length_eq_zero (by simpa using hl)
    subst this
    exact .nil
  | cons c x ih =>
    cases acc with
    | nil => simp at hl
    | cons v acc =>
      obtain ⟨c', t, e1, e2⟩ := h 0 v rfl
      have : c = c' := by simpa using e1
      subst this
      subst e2
      exact .cons ⟨t, rfl⟩ (ih (by simpa using hl) fun j v e => by simpa using h (j + 1) v (by simpa using e))
theorem call_listWD (v : Pl X C W) : CallR X (.type "list") (rCF C.G listWD) := by
  intro pins s σ H xs us Q I r h
  obtain ⟨F, ds, S, r2, p⟩ := h
  unfold listWD at p
  split at p
  · rename_i x
    split at p
    · rename_i hz
      obtain ⟨u, rfl, b⟩ := pair1 r2
      obtain ⟨rfl, hk⟩ := bor_str b
      obtain ⟨w, ew, rx⟩ := vals1 r
      subst ew
      obtain ⟨t, rfl⟩ := rx
      have hsz : (⟨x.toArray⟩ : Str).cps.size = x.length := by simp
      refine ZR.call_list_str (I.ok.hd v.calm) (by rw [hsz]; exact sz_line hz) fun h' tk acc c' hk' hD hacc => ?_
      have hv : Vals ((x.map fun c => toS [c]).map V.str) acc.toList := by
        refine sign_vals (by rw [Array.length_toList, hacc.1, hsz]) fun j v e => ?_
        obtain ⟨c, tk, e1, e2⟩ := hacc.2 j v (by rw [← Array.getElem?_toList]; exact e)
        exact ⟨c, tk, by simpa using e1, e2⟩
      have e : (x.map fun c => toS [c]) = (x.map fun c => [c]).map toS := by rw [List.map_map]; rfl
      rw [e] at hv
      refine ⟨.ref s.heap.objs.size, upd H s.heap.objs.size (.lst (((x.map fun c => [c]).map toS).map V.str)), I.laid (t' := tk) hk' (Nat.le_refl _)
        (show ObjOk X.prog X.w _ _ _ (.lst _) from ⟨by simp; exact sz_line hz, acc.toList, c', hv, by rw [Array.toArray_toList]; exact hD⟩), rfl, ?_⟩
      exact p.lst S (repL_strs _ fun y hy => by
        obtain ⟨c, hc, rfl⟩ := List.mem_map.mp hy
        exact okS_mem hk hc) _ (I.hok.fresh (Nat.le_refl _))
    · exact p.elim
  · exact call_listD v.K pins s σ H xs us Q I r ⟨F, ds, S, r2, p⟩
end
/-! small bounds -/
@[simp] theorem sz_1 : 1 ≤ SZ := le_sz (by decide)
@[simp] theorem sz_2 : 2 ≤ SZ := le_sz (by decide)
@[simp] theorem sz_3 : 3 ≤ SZ := le_sz (by decide)
@[simp] theorem sz_4 : 4 ≤ SZ := le_sz (by decide)
@[simp] theorem sz_5 : 5 ≤ SZ := le_sz (by decide)
@[simp] theorem sz_6 : 6 ≤ SZ := le_sz (by decide)
@[simp] theorem sz_7 : 7 ≤ SZ := le_sz (by decide)
@[simp] theorem sz_8 : 8 ≤ SZ := le_sz (by decide)
@[simp] theorem sz_9 : 9 ≤ SZ := le_sz (by decide)
@[simp] theorem sz_10 : 10 ≤ SZ := le_sz (by decide)
end
end Z
namespace Z
noncomputable section
open PySem PySem.Spec PySem.P PyProof.Rows L2
/-! ### plain equations for lists and tuples of texts -/
@[simp] theorem ixD_t0 (x : D) (xs : List D) : ixD (.tup (x :: xs)) (.int 0) = .ok x := ixD_t _ _ (by omega) _ rfl
@[simp] theorem ixD_l0 (x : D) (xs : List D) : ixD (.lst (x :: xs)) (.int 0) = .ok x := ixD_l _ _ (by omega) _ rfl
@[simp] theorem ixD_t1 (x y : D) (xs : List D) : ixD (.tup (x :: y :: xs)) (.int 1) = .ok y := ixD_t _ _ (by omega) _ rfl
@[simp] theorem ixD_l1 (x y : D) (xs : List D) : ixD (.lst (x :: y :: xs)) (.int 1) = .ok y := ixD_l _ _ (by omega) _ rfl
@[simp] theorem isN_f (x : D) : isN false x .non = .ok (.bl (isNone x)) := by cases x <;> rfl
@[simp] theorem isN_t (x : D) : isN true x .non = .ok (.bl (!isNone x)) := by cases x <;> rfl
@[simp] theorem isNone_non : isNone .non = true := rfl
@[simp] theorem isNone_obj (c : Nat) (vs : List D) : isNone (.obj c vs) = false := rfl
@[simp] theorem isNone_exc (c : Nat) (vs : List D) : isNone (.exc c vs) = false := rfl
@[simp] theorem isNone_str (x : List Nat) : isNone (.str x) = false := rfl
@[simp] theorem isNone_tup (x : List D) : isNone (.tup x) = false := rfl
@[simp] theorem isNone_lst (x : List D) : isNone (.lst x) = false := rfl
@[simp] theorem isNone_int (x : Int) : isNone (.int x) = false := rfl
@[simp] theorem isNone_dic (ks : List Key) (x : List D) : isNone (.dic ks x) = false := rfl
theorem dep_ls (xs : List (List Nat)) : dep (.lst (xs.map .str)) ≤ 64 := by
  have := depL_strs xs
  simp [dep, this]
theorem dep_ts (xs : List (List Nat)) : dep (.tup (xs.map .str)) ≤ 64 := by
  have := depL_strs xs
  simp [dep, this]
theorem eqD_ls (xs ys : List (List Nat)) : eqD (.lst (xs.map .str)) (.lst (ys.map .str)) = .ok (.bl (decide (xs = ys))) := by
  rw [eqD_ok, if_pos ⟨dep_ls xs, dep_ls ys⟩]
  show (R.ok (D.bl (eqvL (xs.map .str) (ys.map .str))) : R D) = _
  rw [eqvL_map]
theorem neD_ls (xs ys : List (List Nat)) : neD (.lst (xs.map .str)) (.lst (ys.map .str)) = .ok (.bl (!decide (xs = ys))) := by
  rw [neD_ok, if_pos ⟨dep_ls xs, dep_ls ys⟩]
  show (R.ok (D.bl (!eqvL (xs.map .str) (ys.map .str))) : R D) = _
  rw [eqvL_map]
theorem eqD_ts (xs ys : List (List Nat)) : eqD (.tup (xs.map .str)) (.tup (ys.map .str)) = .ok (.bl (decide (xs = ys))) := by
  rw [eqD_ok, if_pos ⟨dep_ts xs, dep_ts ys⟩]
  show (R.ok (D.bl (eqvL (xs.map .str) (ys.map .str))) : R D) = _
  rw [eqvL_map]
theorem neD_ts (xs ys : List (List Nat)) : neD (.tup (xs.map .str)) (.tup (ys.map .str)) = .ok (.bl (!decide (xs = ys))) := by
  rw [neD_ok, if_pos ⟨dep_ts xs, dep_ts ys⟩]
  show (R.ok (D.bl (!eqvL (xs.map .str) (ys.map .str))) : R D) = _
  rw [eqvL_map]
theorem joinM_ch (x : List Nat) (h : x.length ≤ 16777216) : joinM (.str []) [.lst ((x.map fun c => [c]).map .str)] = .ok (.str x) := by
  have := joinM_one x h
  rw [List.map_map]
  exact this
theorem flat_strs (ys : List (List Nat)) : (ys.map D.str).all flat = true := by simp [flat]
theorem inD_tstrs (neg : Bool) (x : List Nat) (ys : List (List Nat)) : inD neg (.str x) (.tup (ys.map .str)) = .ok (.bl (xor neg (decide (x ∈ ys)))) := by
  have e : inD neg (.str x) (.tup (ys.map .str)) = if flat (.str x) = true ∧ (ys.map D.str).all flat = true then .ok (.bl (xor neg ((ys.map D.str).any fun y => eqv y (.str x)))) else .bad := rfl
  rw [e, if_pos ⟨rfl, flat_strs ys⟩, eqvS_any]
@[simp] theorem tyN_str' (x : List Nat) : tyN (.str x) = some "str" := rfl
@[simp] theorem tyN_lst' (x : List D) : tyN (.lst x) = some "list" := rfl
theorem cutL_map {α β : Type} (f : α → β) (xs : List α) (lo hi : Option Int) : cutL (xs.map f) lo hi = (cutL xs lo hi).map f := by
  unfold cutL
  rw [List.length_map, List.map_take, List.map_drop]
end
end Z
namespace Z
noncomputable section
open PySem PySem.Spec PySem.P PyProof.Rows L2
/-! ### pieces of webs, what leads where, what hangs together -/
def pcs (ws : List (List Nat)) : List (List Nat) := sortT (dedT (ws.map List.dropLast ++ ws.map List.tail))
theorem mem_pcs {ws : List (List Nat)} {p : List Nat} : p ∈ pcs ws ↔ ∃ w ∈ ws, w.dropLast = p ∨ w.tail = p := by
  unfold pcs
  rw [sortT_mem, dedT_mem, List.mem_append, List.mem_map, List.mem_map]
  constructor
  · rintro (⟨w, h, e⟩ | ⟨w, h, e⟩)
    · exact ⟨w, h, .inl e⟩
    · exact ⟨w, h, .inr e⟩
  · rintro ⟨w, h, e | e⟩
    · exact .inl ⟨w, h, e⟩
    · exact .inr ⟨w, h, e⟩
theorem pcs_asc (ws : List (List Nat)) : (pcs ws).Pairwise (· < ·) := sortT_asc (dedT_nodup _)
theorem pcs_perm {us vs : List (List Nat)} (h : us.Perm vs) : pcs us = pcs vs := asc_ext (pcs_asc _) (pcs_asc _) fun p => by
  rw [mem_pcs, mem_pcs]
  exact ⟨fun ⟨w, a, b⟩ => ⟨w, h.mem_iff.mp a, b⟩, fun ⟨w, a, b⟩ => ⟨w, h.mem_iff.mpr a, b⟩⟩
theorem pcs_count (ws : List (List Nat)) : (pcs ws).length ≤ 2 * ws.length := by
  unfold pcs
  rw [sortT_len]
  have := dedT_le (ws.map List.dropLast ++ ws.map List.tail)
  simp at this
  omega
theorem pcs_of {ws xs : List (List Nat)} (h : ∀ x, x ∈ xs ↔ ∃ w ∈ ws, w.dropLast = x ∨ w.tail = x) (hn : xs.Nodup) : sortT xs = pcs ws :=
  asc_ext (sortT_asc hn) (pcs_asc ws) fun p => by rw [sortT_mem, h, mem_pcs]
theorem pcs_ne {ws : List (List Nat)} (h : ws ≠ []) : pcs ws ≠ [] := fun e => by
  obtain ⟨w, hw⟩ := List.exists_mem_of_ne_nil ws h
  have : w.dropLast ∈ pcs ws := mem_pcs.mpr ⟨w, hw, .inl rfl⟩
  rw [e] at this
  cases this
def ows (ws : List (List Nat)) (p : List Nat) : List (List Nat) := ws.filter fun w => decide (w.dropLast = p)
def iws (ws : List (List Nat)) (p : List Nat) : List (List Nat) := ws.filter fun w => decide (w.tail = p)
theorem mem_ows {ws : List (List Nat)} {p w : List Nat} : w ∈ ows ws p ↔ w ∈ ws ∧ w.dropLast = p := by simp [ows]
theorem mem_iws {ws : List (List Nat)} {p w : List Nat} : w ∈ iws ws p ↔ w ∈ ws ∧ w.tail = p := by simp [iws]
def exc (ws : List (List Nat)) (p : List Nat) : Int := (ows ws p).length - (iws ws p).length
theorem exc_perm {us vs : List (List Nat)} (h : us.Perm vs) (p : List Nat) : exc us p = exc vs p := by
  unfold exc ows iws
  rw [(h.filter _).length_eq, (h.filter _).length_eq]
theorem exc_no {ws : List (List Nat)} {p : List Nat} (h : p ∉ pcs ws) : exc ws p = 0 := by
  have h1 : ows ws p = [] := by
    unfold ows
    rw [List.filter_eq_nil_iff]
    intro w hw e
    exact h (mem_pcs.mpr ⟨w, hw, .inl (by simpa using e)⟩)
  have h2 : iws ws p = [] := by
    unfold iws
    rw [List.filter_eq_nil_iff]
    intro w hw e
    exact h (mem_pcs.mpr ⟨w, hw, .inr (by simpa using e)⟩)
  unfold exc
  rw [h1, h2]
  rfl
def excS (ws S : List (List Nat)) : Int := (S.map (exc ws)).sum
def adj (ws : List (List Nat)) (p : List Nat) : List (List Nat) := (ows ws p).map List.tail ++ (iws ws p).map List.dropLast
theorem mem_adj {ws : List (List Nat)} {p q : List Nat} : q ∈ adj ws p ↔ ∃ w ∈ ws, (w.dropLast = p ∧ w.tail = q) ∨ (w.tail = p ∧ w.dropLast = q) := by
  unfold adj
  rw [List.mem_append, List.mem_map, List.mem_map]
  constructor
  · rintro (⟨w, h, e⟩ | ⟨w, h, e⟩)
    · exact ⟨w, (mem_ows.mp h).1, .inl ⟨(mem_ows.mp h).2, e⟩⟩
    · exact ⟨w, (mem_iws.mp h).1, .inr ⟨(mem_iws.mp h).2, e⟩⟩
  · rintro ⟨w, h, ⟨e, f⟩ | ⟨e, f⟩⟩
    · exact .inl ⟨w, mem_ows.mpr ⟨h, e⟩, f⟩
    · exact .inr ⟨w, mem_iws.mpr ⟨h, e⟩, f⟩
theorem adj_pcs {ws : List (List Nat)} {p q : List Nat} (h : q ∈ adj ws p) : q ∈ pcs ws := by
  obtain ⟨w, hw, ⟨_, e⟩ | ⟨_, e⟩⟩ := mem_adj.mp h
  · exact mem_pcs.mpr ⟨w, hw, .inr e⟩
  · exact mem_pcs.mpr ⟨w, hw, .inl e⟩
theorem adj_symm {ws : List (List Nat)} {p q : List Nat} (h : q ∈ adj ws p) : p ∈ adj ws q := by
  obtain ⟨w, hw, ⟨e, f⟩ | ⟨e, f⟩⟩ := mem_adj.mp h
  · exact mem_adj.mpr ⟨w, hw, .inr ⟨f, e⟩⟩
  · exact mem_adj.mpr ⟨w, hw, .inl ⟨f, e⟩⟩
theorem adj_perm {us vs : List (List Nat)} (h : us.Perm vs) {p q : List Nat} : q ∈ adj us p ↔ q ∈ adj vs p := by
  rw [mem_adj, mem_adj]
  exact ⟨fun ⟨w, a, b⟩ => ⟨w, h.mem_iff.mp a, b⟩, fun ⟨w, a, b⟩ => ⟨w, h.mem_iff.mpr a, b⟩⟩
inductive Rch (ws : List (List Nat)) (p : List Nat) : List Nat → Prop where
  | here : Rch ws p p
  | step {q r : List Nat} : Rch ws p q → r ∈ adj ws q → Rch ws p r
theorem Rch.pcs {ws : List (List Nat)} {p q : List Nat} (hp : p ∈ pcs ws) (h : Rch ws p q) : q ∈ pcs ws := by
  cases h with
  | here => exact hp
  | step _ a => exact adj_pcs a
theorem Rch.trans {ws : List (List Nat)} {p q r : List Nat} (h : Rch ws p q) (k : Rch ws q r) : Rch ws p r := by
  induction k with
  | here => exact h
  | step _ a ih => exact .step ih a
theorem Rch.symm {ws : List (List Nat)} {p q : List Nat} (h : Rch ws p q) : Rch ws q p := by
  induction h with
  | here => exact .here
  | step _ a ih => exact (Rch.step .here (adj_symm a)).trans ih
theorem Rch.perm {us vs : List (List Nat)} (h : us.Perm vs) {p q : List Nat} (k : Rch us p q) : Rch vs p q := by
  induction k with
  | here => exact .here
  | step _ a ih => exact .step ih ((adj_perm h).mp a)
/-- what is closed holds all -/
theorem Rch.closed {ws ms : List (List Nat)} {p q : List Nat} (h : Rch ws p q) (hp : p ∈ ms) (hc : ∀ m ∈ ms, ∀ r ∈ adj ws m, r ∈ ms) : q ∈ ms := by
  induction h with
  | here => exact hp
  | step _ a ih => exact hc _ ih _ a
def comp (ws : List (List Nat)) (p : List Nat) : List (List Nat) := by
  classical exact (pcs ws).filter fun q => decide (Rch ws p q)
theorem mem_comp {ws : List (List Nat)} {p q : List Nat} : q ∈ comp ws p ↔ q ∈ pcs ws ∧ Rch ws p q := by
  unfold comp
  simp
theorem comp_asc (ws : List (List Nat)) (p : List Nat) : (comp ws p).Pairwise (· < ·) := (pcs_asc ws).sublist (List.filter_sublist)
theorem comp_perm {us vs : List (List Nat)} (h : us.Perm vs) (p : List Nat) : comp us p = comp vs p := asc_ext (comp_asc _ _) (comp_asc _ _) fun q => by
  rw [mem_comp, mem_comp, pcs_perm h]
  exact ⟨fun ⟨a, b⟩ => ⟨a, b.perm h⟩, fun ⟨a, b⟩ => ⟨a, b.perm h.symm⟩⟩
theorem comp_of {ws ms : List (List Nat)} {p : List Nat} (hp : p ∈ pcs ws) (hm : p ∈ ms) (hr : ∀ m ∈ ms, Rch ws p m) (hc : ∀ m ∈ ms, ∀ r ∈ adj ws m, r ∈ ms) : sortT (dedT ms) = comp ws p :=
  asc_ext (sortT_asc (dedT_nodup _)) (comp_asc _ _) fun q => by
    rw [sortT_mem, dedT_mem, mem_comp]
    exact ⟨fun h => ⟨(hr q h).pcs hp, hr q h⟩, fun h => h.2.closed hm hc⟩
theorem comp_le (ws : List (List Nat)) (p : List Nat) : (comp ws p).length ≤ (pcs ws).length := by
  unfold comp
  exact List.length_filter_le _ _
theorem comp_all {ws : List (List Nat)} {p : List Nat} (h : (comp ws p).length = (pcs ws).length) : comp ws p = pcs ws := by
  unfold comp at h ⊢
  exact (List.filter_sublist).eq_of_length h
end
end Z
namespace Z
noncomputable section
open PySem PySem.Spec PySem.P PyProof.Rows L2
/-! ### an own dict is lent: locked, read by a callee, own again behind it -/
theorem unlock {X : Cx} {pins pins' : List (Addr × Obj)} {σ σ' : L2.St} {H H' : Hp} {s s' : Shared} {a : Addr} {kvs kvs' : List (Key × V)} {od : Obj} (I0 : Inv X pins' σ' H s) (h0 : H a = some (.dK kvs')) (I : Inv X pins σ H' s') (h1 : H' a = some (.frz od (.dK kvs))) :
    Inv X pins σ (upd H' a (.dK kvs)) s' := by
  have ne : ∀ {b : Addr}, H' b = none → b ≠ a := fun {b} n e => by
    rw [e, h1] at n
    cases n
  refine ⟨I.ok, I.os, I.bare, ⟨I.base.keep, I.base.slot, fun b o e n x => ?_, I.base.there, fun b xs q => ?_, fun b o u q => ?_, fun b ps q => ?_⟩, I.loc, I.cell, ?_, fun x c e => ?_, fun p hp => ?_, fun b o e => ?_, I.len⟩
  · have := I.base.free b o e n x
    rw [upd_ne (ne this)]
    exact this
  · have := I.base.tups b xs q
    have hb : b ≠ a := fun z => by rw [z, h1] at this; cases this
    rw [upd_ne hb]
    exact this
  · have := I.base.frzs b o u q
    have hb : b ≠ a := fun z => by
      have q0 := I0.base.frzs b o u q
      rw [z, h0] at q0
      cases q0
    rw [upd_ne hb]
    exact this
  · obtain ⟨m, this⟩ := I.base.tbls b ps q
    have hb : b ≠ a := fun z => by rw [z, h1] at this; cases this
    exact ⟨m, by rw [upd_ne hb]; exact this⟩
  · rw [upd_ne (ne I.free)]
    exact I.free
  · rw [upd_ne (ne (I.freeC x c e))]
    exact I.freeC x c e
  · obtain ⟨p1, p2, p3, p4, p5⟩ := I.pin p hp
    exact ⟨p1, by rw [upd_ne (ne p2)]; exact p2, p3, p4, p5⟩
  · have own : ∀ {c : Addr} {y : Addr}, H' c = some (.own y) → c ≠ a := fun {c y} hc z => by
      rw [z, h1] at hc
      cases hc
    have tup : ∀ {c : Addr} {xs : List V}, H' c = some (.tup xs) → c ≠ a := fun {c xs} hc z => by
      rw [z, h1] at hc
      cases hc
    by_cases hb : b = a
    · subst hb
      rw [upd_same] at e
      cases e
      have x : ObjOk X.prog X.w H' s'.heap b (.frz od (.dK kvs)) := I.hok b _ h1
      have x2 : ObjOk X.prog X.w H' s'.heap b (.dK kvs) := x.2
      exact x2.stay (fun c u _ z => z) (fun c hc => by rw [upd_ne (own hc)]; exact hc) (fun c xs hc => by rw [upd_ne (tup hc)]; exact hc)
    · rw [upd_ne hb] at e
      exact (I.hok b o e).stay (fun c u _ z => z) (fun c hc => by rw [upd_ne (own hc)]; exact hc) (fun c xs hc => by rw [upd_ne (tup hc)]; exact hc)
/-- the own dict of a slot seen as a shared one -/
theorem StR.lendD {C : CT} {F H : Hp} {sd : SS} {σ : L2.St} {i : Nat} {ks : List Key} {ds : List D} {a : Addr} {kvs : List (Key × V)} {od : Obj} (S : StR C F H sd σ) (q : sd[i]? = some (.ow (.dic ks ds))) (h1 : σ[i]? = some (some (.ref a))) (h2 : C.H0 a = none) (h3 : F a = none)
    (hk : kvs.map (·.1) = ks) (nd : ks.Nodup) (h5 : RepL C.G F ds (kvs.map (·.2))) : StR C (upd F a (.frz od (.dK kvs))) (upd H a (.frz od (.dK kvs))) (sd.set i (.sh (.dic ks ds))) σ := by
  have hi : i < sd.length := (List.getElem?_eq_some_iff.mp q).1
  have s1 : Same F (upd F a (.frz od (.dK kvs))) := same_new h3
  have other : ∀ (j : Nat) (e : D) (b : Addr), j ≠ i → sd[j]? = some (.ow e) ∨ sd[j]? = some (.lk e) → σ[j]? = some (some (.ref b)) → b ≠ a := fun j e b hj q2 q3 z => by
    subst z
    exact hj (S.dis j i e _ b q2 (.inl q) q3 h1)
  refine ⟨⟨S.ext.ff.trans s1, fun b u z => ?_, fun b u z => ?_, fun b u e1 e2 => ?_⟩, by rw [List.length_set]; exact S.len, fun j e q2 => ?_, fun j e q2 => ?_, fun j k e e' b q1 q2 => ?_, (S.nt.step (fun j k e q2 => ?_) (fun j k l q2 => ?_) (fun j e b q2 z => ?_) s1 fun b o z1 z2 z3 => ?_).up⟩
  · have hb : b ≠ a := ne_of_none z h2
    rw [upd_ne hb]
    exact S.ext.hh _ _ z
  · by_cases hb : b = a
    · subst hb; rw [upd_same] at z ⊢; exact z
    · rw [upd_ne hb] at z ⊢; exact S.fh _ _ z
  · have hb : b ≠ a := ne_of_none e1 h2
    rw [upd_ne hb]
    exact S.ext.ow b u e1 e2
  · by_cases hij : i = j
    · subst hij
      rw [List.getElem?_set_self hi] at q2
      cases q2
      exact ⟨_, h1, rep_dic.mpr ⟨a, kvs, rfl, ⟨od, upd_same⟩, hk, nd, RepL.mono s1 h5⟩⟩
    · rw [List.getElem?_set_ne hij] at q2
      obtain ⟨v, e1, e2⟩ := S.sh j e q2
      exact ⟨v, e1, Rep.mono s1 e2⟩
  · by_cases hij : i = j
    · subst hij
      rw [List.getElem?_set_self hi] at q2
      rcases q2 with z | z <;> cases z
    · rw [List.getElem?_set_ne hij] at q2
      obtain ⟨b, e1, e2, e3, e4⟩ := S.ow j e q2
      have hb := other j e b (Ne.symm hij) q2 e1
      exact ⟨b, e1, e2, by rw [upd_ne hb]; exact e3, e4.mono s1 fun _ z => by rw [upd_ne hb]; exact z⟩
  · by_cases hij : i = j
    · subst hij
      rw [List.getElem?_set_self hi] at q1
      rcases q1 with z | z <;> cases z
    · by_cases hik : i = k
      · subst hik
        rw [List.getElem?_set_self hi] at q2
        rcases q2 with z | z <;> cases z
      · rw [List.getElem?_set_ne hij] at q1
        rw [List.getElem?_set_ne hik] at q2
        exact S.dis j k e e' b q1 q2
  · by_cases hij : i = j
    · subst hij
      rw [List.getElem?_set_self hi] at q2
      cases q2
    · rw [List.getElem?_set_ne hij] at q2
      exact ⟨q2, rfl⟩
  · by_cases hij : i = j
    · subst hij
      rw [List.getElem?_set_self hi] at q2
      cases q2
    · rw [List.getElem?_set_ne hij] at q2
      exact ⟨q2, rfl⟩
  · by_cases hij : i = j
    · subst hij
      rw [List.getElem?_set_self hi] at q2
      rcases q2 with z | z <;> cases z
    · rw [List.getElem?_set_ne hij] at q2
      exact .inl ⟨j, e, q2, z⟩
  · have hb : b ≠ a := fun y => by subst y; exact z3 i _ (.inl q) h1
    rw [upd_ne hb]
    rw [upd_ne hb]
    exact ⟨z1, z2⟩
def flD : D → Bool
  | .non => true
  | .bl _ => true
  | .int _ => true
  | .str _ => true
  | _ => false
theorem Rep.flat {G : GE} {F F' : Hp} {d : D} {v : V} (h : flD d = true) (r : Rep G F d v) : Rep G F' d v := by
  cases d <;> first | (unfold Rep at r ⊢; exact r) | cases h
def flR : R D → R D
  | .ok d => if flD d = true then .ok d else .bad
  | _ => .bad
def eBrwD (i : Nat) (fe : SS → R D) : SS → R D := fun s => match owD s i with
  | some (ks, vs) => flR (fe (s.set i (.sh (.dic ks vs))))
  | none => .bad
section
variable {X : Cx} {C : CT} {W : WX} {e : Expr} {fe : SS → R D}
theorem s_brwD (i : Nat) (he : PE X e (tD C W fe)) : PE X e (tD C W (eBrwD i fe)) := by
  refine ⟨fun pins s σ H Q I ⟨F, sd, S, h⟩ => ?_⟩
  unfold eBrwD at h
  cases hx : owD sd i with
  | none => rw [hx] at h; exact h.elim
  | some p =>
    obtain ⟨ks, ds⟩ := p
    rw [hx] at h
    have ho : sd[i]? = some (.ow (.dic ks ds)) := by
      unfold owD at hx
      split at hx
      · rename_i ks' vs' q
        cases hx
        exact q
      · cases hx
    obtain ⟨a, h1, h2, h3, kvs, h4, hk, nd, h5⟩ := S.ow i _ (.inl ho)
    obtain ⟨od, I1⟩ := I.lock h4 trivial
    have S1 := S.lendD (od := od) ho h1 h2 h3 hk nd h5
    have h : PostE C W F H σ (pD C) Q (flR (fe (sd.set i (.sh (.dic ks ds))))) := h
    refine thn (he.run pins s σ _ (fun v H1 => ∃ F1 d, Ext (upd F a (.frz od (.dK kvs))) (upd H a (.frz od (.dK kvs))) F1 H1 ∧ flD d = true ∧ Rep C.G F1 d v ∧ fe (sd.set i (.sh (.dic ks ds))) = .ok d) I1 ⟨_, _, S1, ?_⟩) fun u s1 ⟨x, H1, I2, r1, F1, d, e1, fl, rp, hd⟩ => ?_
    · cases q : fe (sd.set i (.sh (.dic ks ds))) with
      | ok d =>
        rw [q] at h
        unfold flR at h
        dsimp only at h
        split at h
        · rename_i hf
          exact fun v F' H' e r => ⟨F', d, e, hf, r, rfl⟩
        · exact h.elim
      | ex c vs => rw [q] at h; exact h.elim
      | bad => rw [q] at h; exact h.elim
    · rw [hd] at h
      unfold flR at h
      dsimp only at h
      rw [if_pos fl] at h
      have hf := e1.hh _ _ upd_same
      refine ⟨x, upd H1 a (.dK kvs), unlock I h4 I2 hf, r1, h x (less F1 a) (upd H1 a (.dK kvs)) ⟨fun b w z => ?_, fun b w z => ?_, fun b w z => ?_, fun b w z1 z2 => ?_⟩ (Rep.flat fl rp)⟩
      · have hb : b ≠ a := ne_of_none z h3
        rw [less_ne hb]
        exact e1.ff _ _ (by rw [upd_ne hb]; exact z)
      · by_cases hb : b = a
        · subst hb; rw [upd_same, ← h4]; exact z
        · rw [upd_ne hb]
          exact e1.hh _ _ (by rw [upd_ne hb]; exact z)
      · by_cases hb : b = a
        · subst hb; rw [less_same] at z; cases z
        · rw [less_ne hb] at z
          rw [upd_ne hb]
          exact e1.fh _ _ z
      · by_cases hb : b = a
        · subst hb; exact less_same
        · rw [less_ne hb]
          exact e1.ow b w (by rw [upd_ne hb]; exact z1) (by rw [upd_ne hb]; exact z2)
end
def getOD : Option Sl → Option (List Key × List D)
  | some (.ow (.dic ks vs)) => some (ks, vs)
  | _ => none
def rBrwD (s : SS) (i : Nat) (fe : SS → R D) : Option (List Key × List D) → R D
  | some (ks, vs) => flR (fe (s.set i (.sh (.dic ks vs))))
  | none => .bad
@[simp] theorem eBrwD_s (i : Nat) (fe : SS → R D) (s : SS) : eBrwD i fe s = rBrwD s i fe (getOD s[i]?) := by
  have e : owD s i = getOD s[i]? := by
    unfold owD getOD
    cases s[i]? with
    | none => rfl
    | some x => cases x <;> first | rfl | (rename_i d; cases d <;> rfl)
  unfold eBrwD rBrwD
  rw [e]
  all_goals (cases getOD s[i]? <;> rfl)
@[simp] theorem getOD_t (l : List (List Nat × D)) : getOD (some (.ow (dicT l))) = some (l.map fun p => kS p.1, l.map (·.2)) := rfl
@[simp] theorem rBrwD_t (s : SS) (i : Nat) (fe : SS → R D) (l : List (List Nat × D)) : rBrwD s i fe (some (l.map fun p => kS p.1, l.map (·.2))) = flR (fe (s.set i (.sh (dicT l)))) := rfl
@[simp] theorem flR_s (x : List Nat) : flR (.ok (.str x)) = .ok (.str x) := rfl
end
end Z
namespace Z
noncomputable section
open PySem PySem.Spec PySem.P PyProof.Rows L2
/-! ### sorted of a list of tuples of whole numbers -/
def tupI (x : List Int) : D := .tup (x.map .int)
def encI (x : List Int) : PyData := .tuple (x.map .int)
def tupsI : List D → Option (List (List Int))
  | [] => some []
  | .tup ds :: r => match intsD ds, tupsI r with
    | some (x :: xs), some q => some ((x :: xs) :: q)
    | _, _ => none
  | _ => none
def sortZ (xs : List (List Int)) : List (List Int) := xs.mergeSort fun a b => decide (a ≤ b)
def sortGD : List D → R D
  | [.lst ds] => match tupsI ds with
    | some xs => if ds.length ≤ SZ then .ok (.lst ((sortZ xs).map tupI)) else .bad
    | none => .bad
  | _ => .bad
theorem sortGD_ne : NoExL sortGD := fun x c vs h => by
  unfold sortGD at h
  split at h
  · split at h
    · split at h <;> cases h
    · cases h
  · cases h
theorem intsD_of : ∀ {ds : List D} {xs : List Int}, intsD ds = some xs → ds = xs.map .int
  | [], xs, h => by simp [intsD] at h; subst h; rfl
  | .int i :: r, xs, h => by
    unfold intsD at h
    cases q : intsD r with
    | none => rw [q] at h; cases h
    | some ys =>
      rw [q] at h
      cases h
      rw [List.map_cons, ← intsD_of q]
  | .non :: r, xs, h => by simp [intsD] at h
  | .bl b :: r, xs, h => by simp [intsD] at h
  | .str b :: r, xs, h => by simp [intsD] at h
  | .lst b :: r, xs, h => by simp [intsD] at h
  | .tup b :: r, xs, h => by simp [intsD] at h
  | .dic b c :: r, xs, h => by simp [intsD] at h
  | .obj b c :: r, xs, h => by simp [intsD] at h
  | .exc b c :: r, xs, h => by simp [intsD] at h
theorem tupsI_of : ∀ {ds : List D} {xs : List (List Int)}, tupsI ds = some xs → ds = xs.map tupI ∧ ∀ x ∈ xs, x ≠ []
  | [], xs, h => by simp [tupsI] at h; subst h; exact ⟨rfl, by simp⟩
  | .tup d :: r, xs, h => by
    unfold tupsI at h
    split at h
    · rename_i y ys q h1 h2
      cases h
      obtain ⟨e, n⟩ := tupsI_of h2
      refine ⟨?_, fun x hx => ?_⟩
      · rw [List.map_cons, ← e]
        unfold tupI
        rw [← intsD_of h1]
      · rcases List.mem_cons.mp hx with rfl | hx
        · simp
        · exact n x hx
    · cases h
  | .non :: r, xs, h => by simp [tupsI] at h
  | .bl b :: r, xs, h => by simp [tupsI] at h
  | .str b :: r, xs, h => by simp [tupsI] at h
  | .lst b :: r, xs, h => by simp [tupsI] at h
  | .int b :: r, xs, h => by simp [tupsI] at h
  | .dic b c :: r, xs, h => by simp [tupsI] at h
  | .obj b c :: r, xs, h => by simp [tupsI] at h
  | .exc b c :: r, xs, h => by simp [tupsI] at h
theorem tupsI_map {xs : List (List Int)} (h : ∀ x ∈ xs, x ≠ []) : tupsI (xs.map tupI) = some xs := by
  induction xs with
  | nil => rfl
  | cons x r ih =>
    have hx := h x (by simp)
    have ih := ih fun y hy => h y (by simp [hy])
    rw [List.map_cons]
    unfold tupI at ih ⊢
    unfold tupsI
    rw [intsD_map, ih]
    cases x with
    | nil => exact absurd rfl hx
    | cons a b => rfl
theorem sortGD_m (xs : List (List Int)) (h : ∀ x ∈ xs, x ≠ []) (hl : xs.length ≤ 16777216) : sortGD [.lst (xs.map tupI)] = .ok (.lst ((sortZ xs).map tupI)) := by
  unfold sortGD
  dsimp only
  rw [tupsI_map h]
  dsimp only
  rw [if_pos (le_sz (by simpa using hl))]
theorem sortZ_perm (xs : List (List Int)) : (sortZ xs).Perm xs := List.mergeSort_perm _ _
theorem sortZ_mem {xs : List (List Int)} {x : List Int} : x ∈ sortZ xs ↔ x ∈ xs := (sortZ_perm xs).mem_iff
theorem sortZ_asc (xs : List (List Int)) : (sortZ xs).Pairwise (· ≤ ·) := by
  have := List.pairwise_mergeSort (le := fun a b : List Int => decide (a ≤ b)) (fun a b c h1 h2 => by
    simp at h1 h2 ⊢
    exact List.le_trans h1 h2) (fun a b => by simp; exact List.le_total a b) xs
  exact this.imp fun h => by simpa using h
theorem sortZ_uniq {xs ys : List (List Int)} (hp : ys.Perm xs) (hs : ys.Pairwise (· ≤ ·)) : ys = sortZ xs :=
  List.Perm.eq_of_pairwise (le := (· ≤ ·)) (fun a b _ _ h1 h2 => List.le_antisymm h1 h2) hs (sortZ_asc xs) (hp.trans (sortZ_perm xs).symm)
theorem alikeAll_ints (xs ys : List Int) : PySem.W.alikeAll (xs.map .int) (ys.map .int) = true := PySem.W.alike_ints xs ys
theorem pyL_ints : ∀ xs : List Int, pyL (xs.map .int) = xs.map .int
  | [] => rfl
  | x :: r => by rw [List.map_cons, List.map_cons, ← pyL_ints r]; rfl
theorem py_tupI (x : List Int) : py (tupI x) = encI x := by
  unfold tupI encI py
  rw [pyL_ints]
theorem depL_ints : ∀ xs : List Int, depL (xs.map .int) = 0
  | [] => rfl
  | x :: r => by
    have := depL_ints r
    rw [List.map_cons]
    unfold depL
    rw [this]
    rfl
theorem dataLe_encI : PySem.W.dataLe false encI = fun a b => decide (a ≤ b) := by
  funext a b
  show (!PySem.W.dataLt (encI b) (encI a)) = _
  unfold encI
  rw [PySem.W.dataLt_tuple]
  have : PyProof.Rows.lexLt PyProof.Rows.itemOrd (PySem.W.keyToksAll (b.map PyData.int)) (PySem.W.keyToksAll (a.map PyData.int)) = decide (b < a) := PySem.W.dataLt_ints b a
  rw [this]
  by_cases h : b < a
  · have h' : ¬ a ≤ b := fun r => List.not_lt.mpr r h
    simp [h, h']
  · have h' : a ≤ b := List.not_lt.mp h
    simp [h, h']
section
variable {X : Cx} {C : CT} {W : WX}
theorem each_of {G : GE} {F : Hp} : ∀ {xs : List (List Int)} {ys : List V} {us : List Value}, Vals ys us → RepL G F (xs.map tupI) ys → PySem.W.EachIs (fun u x => ∃ y, RelV y u ∧ Rep G F (tupI x) y) us xs
  | [], ys, us, h, r => by
    unfold RepL at r
    subst r
    cases h
    exact .nil
  | x :: xs, ys, us, h, r => by
    rw [List.map_cons] at r
    unfold RepL at r
    obtain ⟨y, t, rfl, r1, r2⟩ := r
    cases h with
    | cons a b => exact .cons ⟨y, a, r1⟩ (each_of b r2)
theorem of_each {G : GE} {F : Hp} : ∀ {xs : List (List Int)} {us : List Value}, PySem.W.EachIs (fun u x => ∃ y, RelV y u ∧ Rep G F (tupI x) y) us xs → ∃ ys, Vals ys us ∧ RepL G F (xs.map tupI) ys
  | [], _, h => by
    cases h
    exact ⟨[], .nil, RepL.nil⟩
  | x :: xs, _, h => by
    cases h with
    | cons a b =>
      obtain ⟨y, a1, a2⟩ := a
      obtain ⟨ys, b1, b2⟩ := of_each b
      exact ⟨y :: ys, .cons a1 b1, RepL.cons a2 b2⟩
theorem call_sortGD (v : Pl X C W) : CallR X (.builtin "sorted") (rCF C.G sortGD) := by
  intro pins s σ H xs us Q I r h
  obtain ⟨F, ds, S, r2, p⟩ := h
  unfold sortGD at p
  split at p
  · obtain ⟨u, rfl, b⟩ := pair1 r2
    obtain ⟨a, ys, rfl, q, rr⟩ := bor_lst S b
    rw [← v.K] at q
    split at p
    · rename_i ns hn
      split at p
      · rename_i hz
        obtain ⟨rfl, hne⟩ := tupsI_of hn
        obtain ⟨its, rv, hl, hzz⟩ := I.list q
        obtain ⟨u1, rfl, ru⟩ := vals1 r
        obtain rfl : u1 = Value.ref a := ru
        have e := each_of rv rr
        have er : PySem.W.EachIs (fun u x => ∃ as, Reads s.heap u (encI x) as) its ns := e.mono fun u x ⟨y, h1, h2⟩ => by
          have hd := (rep_dp (K := X.K) v.K (d := tupI x) (by unfold tupI dep; rw [depL_ints]; omega) (Rep.mono S h2)).1
          rw [py_tupI] at hd
          exact Dp.reads I _ _ _ hd h1
        have hlen : its.length = ns.length := by have := rv.length; have h2 := rr.length; rw [List.length_map] at h2; omega
        refine PySem.W.sorted_data (enc := encI) hl.isList e er (PySem.W.AllAlike.of fun b b' => ?_) ?_ (by rw [List.length_map] at hz; exact sz_line hz) (fun b _ => ?_) fun out ho ho2 => ?_
        · unfold encI
          unfold PySem.W.alike
          exact alikeAll_ints b b'
        · refine .inl fun d hd => ?_
          obtain ⟨x, hx, rfl⟩ := List.mem_map.mp hd
          cases x with
          | nil => exact absurd rfl (hne _ hx)
          | cons y r => exact ⟨_, _, rfl⟩
        · unfold encI PyData.depth
          have := PySem.W.depth_ints b
          have hu := v.hu
          omega
        · rw [dataLe_encI] at ho2
          obtain ⟨ys2, v2, r3⟩ := of_each ho2
          obtain ⟨en, hen⟩ := sortedAll_at s.heap its (List.toArray out)
          have hsz : s.heap.objs.size ≤ s.heap.objs.size + 1 := Nat.le_succ _
          have hf : H (s.heap.objs.size + 1) = none := I.hok.fresh hsz
          have hyl : ys2.length ≤ sizeLine := by
            rw [v2.length, ho]
            rw [List.length_map] at hz
            exact sz_line hz
          exact ⟨.ref (s.heap.objs.size + 1), _, I.laid (t' := s.toks) (a := s.heap.objs.size + 1) (o := .lst ys2) (fun b o q => sortedAll_old q) hsz ⟨hyl, out, en, v2, hen⟩, rfl, p.lst S r3 _ hf⟩
      · exact p.elim
    · exact p.elim
  · exact p.elim
end
end
end Z
namespace Z
noncomputable section
open PySem PySem.Spec PySem.P PyProof.Rows L2
/-! ### nested own objects: made, changed, laid fast -/
/-- no slot points into slot i -/
def ptFree (i : Nat) : SS → Bool
  | [] => true
  | .pt k _ :: s => decide (k ≠ i) && ptFree i s
  | _ :: s => ptFree i s
theorem ptFree_get {i : Nat} : ∀ {s : SS} {r j : Nat}, ptFree i s = true → s[r]? ≠ some (.pt i j)
  | [], r, j, h => by simp
  | x :: s, 0, j, h => fun e => by
    simp at e
    subst e
    simp [ptFree] at h
  | x :: s, r + 1, j, h => by
    rw [List.getElem?_cons_succ]
    refine ptFree_get (s := s) ?_
    cases x <;> simp [ptFree] at h <;> first | exact h | exact h.2
theorem lk_nt {s : SS} {σ : L2.St} {i : Nat} {d : D} {x : Sl} (hs : s[i]? = some (.nt false d)) : Lk s σ (s.set i x) σ := lk_one (fun y e => by rw [hs] at e; cases e; rfl) fun _ _ => rfl
theorem lk_ntk {s : SS} {σ : L2.St} {i : Nat} {k : Bool} {d d' : D} (hs : s[i]? = some (.nt k d)) : Lk s σ (s.set i (.nt k d')) σ := fun j x q l => by
  have hi : i < s.length := (List.getElem?_eq_some_iff.mp hs).1
  by_cases hij : i = j
  · subst hij
    rw [hs] at q
    cases q
    cases k with
    | true => exact ⟨⟨_, List.getElem?_set_self hi, trivial⟩, rfl⟩
    | false => cases l
  · rw [List.getElem?_set_ne hij]
    exact ⟨⟨_, q, LkR.refl l⟩, rfl⟩
/-- name = a new nested object -/
theorem StR.setNt {C : CT} {F H H₁ : Hp} {s s' : SS} {σ : L2.St} {i : Nat} {kb : Bool} {d : D} {a : Addr} {L : List Addr} (S : StR C F H s σ) (h : setS s i (.nt kb d) = some s') (hp : ptFree i s = true)
    (h₁ : ∀ (j : Nat) (e : D) (b : Addr), s[j]? = some (.ow e) ∨ s[j]? = some (.lk e) → σ[j]? = some (some (.ref b)) → ∃ o, H₁ b = some o)
    (hN : NtOk C H₁ F H s σ) (r : NtR C.G F H a d L) (nd : (a :: L).Nodup) (ha : ∀ b ∈ a :: L, H₁ b = none ∧ C.H0 b = none ∧ F b = none) : StR C F H s' (σ.set i (some (.ref a))) := by
  obtain ⟨rfl, hi, hl⟩ := setS_some h
  have hiσ : i < σ.length := by rw [← S.len]; exact hi
  have ne : ∀ {j : Nat} {x : Sl}, (∀ k d, x ≠ .nt k d) → (s.set i (.nt kb d))[j]? = some x → i ≠ j ∧ s[j]? = some x := fun {j x} hx q => by
    by_cases hij : i = j
    · subst hij
      rw [List.getElem?_set_self hi] at q
      cases q
      exact (hx _ _ rfl).elim
    · rw [List.getElem?_set_ne hij] at q
      exact ⟨hij, q⟩
  have ne2 : ∀ {j : Nat} {e : D}, (s.set i (.nt kb d))[j]? = some (.ow e) ∨ (s.set i (.nt kb d))[j]? = some (.lk e) → i ≠ j ∧ (s[j]? = some (.ow e) ∨ s[j]? = some (.lk e)) := fun {j e} q => by
    rcases q with q | q
    · exact ⟨(ne (fun _ _ z => by cases z) q).1, .inl (ne (fun _ _ z => by cases z) q).2⟩
    · exact ⟨(ne (fun _ _ z => by cases z) q).1, .inr (ne (fun _ _ z => by cases z) q).2⟩
  refine ⟨S.ext, by rw [List.length_set, List.length_set]; exact S.len, fun j e q => ?_, fun j e q => ?_, fun j k e e' b q1 q2 q3 q4 => ?_, ?_⟩
  · obtain ⟨h1, h2⟩ := ne (fun _ _ z => by cases z) q
    rw [List.getElem?_set_ne h1]
    exact S.sh j e h2
  · obtain ⟨h1, h2⟩ := ne2 q
    rw [List.getElem?_set_ne h1]
    exact S.ow j e h2
  · obtain ⟨h1, h2⟩ := ne2 q1
    obtain ⟨h3, h4⟩ := ne2 q2
    rw [List.getElem?_set_ne h1] at q3
    rw [List.getElem?_set_ne h3] at q4
    exact S.dis j k e e' b h2 h4 q3 q4
  · obtain ⟨O, g1, g2⟩ := hN
    refine ⟨fun b => if b ∈ a :: L then some i else O b, fun j k e q => ?_, fun j e b q z => ?_⟩
    · by_cases hij : i = j
      · subst hij
        rw [List.getElem?_set_self hi] at q
        cases q
        refine ⟨a, L, List.getElem?_set_self hiσ, r, nd, fun b m => ⟨(ha b m).2.1, (ha b m).2.2, r.there b m, if_pos m⟩, fun r' j q => ?_⟩
        exact absurd (ne (fun _ _ z => by cases z) q).2 (ptFree_get hp)
      · rw [List.getElem?_set_ne hij] at q
        obtain ⟨a', L', k1, k2, k3, k4, k5⟩ := g1 j k e q
        refine ⟨a', L', by rw [List.getElem?_set_ne hij]; exact k1, k2, k3, fun b m => ⟨(k4 b m).1, (k4 b m).2.1, k2.there b m, ?_⟩, fun r' j' q' => ?_⟩
        · have : b ∉ a :: L := fun m' => by
            obtain ⟨o, ho⟩ := (k4 b m).2.2.1
            rw [(ha b m').1] at ho
            cases ho
          show (if b ∈ a :: L then some i else O b) = some j
          rw [if_neg this]
          exact (k4 b m).2.2.2
        · obtain ⟨h1, h2⟩ := ne (fun _ _ z => by cases z) q'
          rw [List.getElem?_set_ne h1]
          exact k5 r' j' h2
    · obtain ⟨h1, h2⟩ := ne2 q
      rw [List.getElem?_set_ne h1] at z
      have : b ∉ a :: L := fun m' => by
        obtain ⟨o, ho⟩ := h₁ j e b h2 z
        rw [(ha b m').1] at ho
        cases ho
      show (if b ∈ a :: L then some i else O b) = none
      rw [if_neg this]
      exact g2 j e b h2 z
/-- a nested object taken apart, and put together again when it has changed -/
theorem StR.openNt {C : CT} {F H : Hp} {s : SS} {σ : L2.St} {i : Nat} {k : Bool} {d : D} (S : StR C F H s σ) (hs : s[i]? = some (.nt k d)) :
    ∃ a L, σ[i]? = some (some (.ref a)) ∧ NtR C.G F H a d L ∧ (a :: L).Nodup ∧ (∀ b ∈ a :: L, C.H0 b = none ∧ F b = none) ∧
      (∀ (r j : Nat), s[r]? = some (Sl.pt i j) → ∃ b, L[j]? = some b ∧ σ[r]? = some (some (V.ref b))) ∧
      (∀ (H' : Hp) (d' : D) (L' : List Addr), (∀ b o, H b = some o → b ∉ a :: L → H' b = some o) → NtR C.G F H' a d' L' → (a :: L').Nodup → (∀ b ∈ L', b ∈ L ∨ (H b = none ∧ C.H0 b = none ∧ F b = none)) →
        ((∀ (j : Nat) (b : Addr), L[j]? = some b → L'[j]? = some b) ∨ ptFree i s = true) → StR C F H' (s.set i (.nt k d')) σ) ∧
      (∀ (F' H' : Hp) (x : Sl), Same F F' → Same F' H' → (∀ b o, H b = some o → b ∉ a :: L → H' b = some o) → (∀ b o, H b = some o → F b = none → b ∉ a :: L → F' b = none) →
        (x = .no ∨ (∃ e, x = .sh e ∧ Rep C.G F' e (.ref a)) ∨ (∃ e, x = .ow e ∧ OwR C.G F' H' a e ∧ F' a = none)) → StR C F' H' (s.set i x) σ) := by
  have hi : i < s.length := (List.getElem?_eq_some_iff.mp hs).1
  obtain ⟨O, g1, g2⟩ := S.nt
  obtain ⟨a, L, k1, k2, k3, k4, k5⟩ := g1 i k d hs
  have other : ∀ (j : Nat) (e : D) (b : Addr), s[j]? = some (.ow e) ∨ s[j]? = some (.lk e) → σ[j]? = some (some (.ref b)) → b ∉ a :: L := fun j e b q z m => by
    have h1 := g2 j e b q z
    rw [(k4 b m).2.2.2] at h1
    cases h1
  refine ⟨a, L, k1, k2, k3, fun b m => ⟨(k4 b m).1, (k4 b m).2.1⟩, k5, fun H' d' L' c1 c3 c4 c5 c6 => ?_, fun F' H' x ff fh c1 c2 cx => ?_⟩
  · have ne : ∀ {j : Nat} {x : Sl}, (∀ k d, x ≠ .nt k d) → (s.set i (.nt k d'))[j]? = some x → i ≠ j ∧ s[j]? = some x := fun {j x} hx q => by
      by_cases hij : i = j
      · subst hij
        rw [List.getElem?_set_self hi] at q
        cases q
        exact (hx _ _ rfl).elim
      · rw [List.getElem?_set_ne hij] at q
        exact ⟨hij, q⟩
    have ne2 : ∀ {j : Nat} {e : D}, (s.set i (.nt k d'))[j]? = some (.ow e) ∨ (s.set i (.nt k d'))[j]? = some (.lk e) → i ≠ j ∧ (s[j]? = some (.ow e) ∨ s[j]? = some (.lk e)) := fun {j e} q => by
      rcases q with q | q
      · exact ⟨(ne (fun _ _ z => by cases z) q).1, .inl (ne (fun _ _ z => by cases z) q).2⟩
      · exact ⟨(ne (fun _ _ z => by cases z) q).1, .inr (ne (fun _ _ z => by cases z) q).2⟩
    refine ⟨⟨S.ext.ff, fun b o z => ?_, fun b o z => ?_, S.ext.ow⟩, by rw [List.length_set]; exact S.len, fun j e q => ?_, fun j e q => ?_, fun j k e e' b q1 q2 q3 q4 => ?_, ?_⟩
    · exact c1 b o (S.ext.hh _ _ z) fun m => by have := (k4 b m).1; rw [z] at this; cases this
    · exact c1 b o (S.fh _ _ z) fun m => by have := (k4 b m).2.1; rw [z] at this; cases this
    · exact S.sh j e (ne (fun _ _ z => by cases z) q).2
    · obtain ⟨h1, h2⟩ := ne2 q
      obtain ⟨b, e1, e2, e3, e4⟩ := S.ow j e h2
      exact ⟨b, e1, e2, e3, e4.mono (Same.refl F) fun o z => c1 b o z (other j e b h2 e1)⟩
    · exact S.dis j k e e' b (ne2 q1).2 (ne2 q2).2 q3 q4
    · refine ⟨fun b => if b ∈ L' then some i else O b, fun j k2 e q => ?_, fun j e b q z => ?_⟩
      · by_cases hij : i = j
        · subst hij
          rw [List.getElem?_set_self hi] at q
          cases q
          refine ⟨a, L', k1, c3, c4, fun b m => ?_, fun r j q => ?_⟩
          · rcases List.mem_cons.mp m with e | m'
            · subst e
              refine ⟨(k4 b (List.mem_cons_self ..)).1, (k4 b (List.mem_cons_self ..)).2.1, c3.there b m, ?_⟩
              show (if b ∈ L' then some i else O b) = some i
              rw [if_neg (List.nodup_cons.mp c4).1]
              exact (k4 b (List.mem_cons_self ..)).2.2.2
            · refine ⟨?_, ?_, c3.there b m, if_pos m'⟩
              · rcases c5 b m' with h | h
                · exact (k4 b (List.mem_cons_of_mem _ h)).1
                · exact h.2.1
              · rcases c5 b m' with h | h
                · exact (k4 b (List.mem_cons_of_mem _ h)).2.1
                · exact h.2.2
          · have q' := (ne (fun _ _ z => by cases z) q).2
            rcases c6 with c6 | c6
            · obtain ⟨b, h1, h2⟩ := k5 r j q'
              exact ⟨b, c6 j b h1, h2⟩
            · exact absurd q' (ptFree_get c6)
        · rw [List.getElem?_set_ne hij] at q
          obtain ⟨a', L2, m1, m2, m3, m4, m5⟩ := g1 j k2 e q
          have dis : ∀ b ∈ a' :: L2, b ∉ a :: L := fun b m m' => by
            have h1 := (m4 b m).2.2.2
            rw [(k4 b m').2.2.2] at h1
            cases h1
            exact hij rfl
          have dis' : ∀ b ∈ a' :: L2, b ∉ L' := fun b m m' => by
            rcases c5 b m' with h | h
            · exact dis b m (List.mem_cons_of_mem _ h)
            · obtain ⟨o, ho⟩ := (m4 b m).2.2.1
              rw [h.1] at ho
              cases ho
          have m2' : NtR C.G F H' a' e L2 := m2.mono (Same.refl F) fun b o m z => c1 b o z (dis b m)
          refine ⟨a', L2, m1, m2', m3, fun b m => ⟨(m4 b m).1, (m4 b m).2.1, m2'.there b m, ?_⟩, fun r j' q' => m5 r j' (ne (fun _ _ z => by cases z) q').2⟩
          show (if b ∈ L' then some i else O b) = some j
          rw [if_neg (dis' b m)]
          exact (m4 b m).2.2.2
      · obtain ⟨h1, h2⟩ := ne2 q
        have h3 : b ∉ L' := fun m' => by
          rcases c5 b m' with h | h
          · exact other j e b h2 z (List.mem_cons_of_mem _ h)
          · obtain ⟨o, ho⟩ := S.owns j e b h2 z
            rw [h.1] at ho
            cases ho
        show (if b ∈ L' then some i else O b) = none
        rw [if_neg h3]
        exact g2 j e b h2 z
  · have nen : ∀ {j : Nat} {k2 : Bool} {e : D}, (s.set i x)[j]? = some (.nt k2 e) → i ≠ j ∧ s[j]? = some (.nt k2 e) := fun {j k2 e} q => by
      by_cases hij : i = j
      · subst hij
        rw [List.getElem?_set_self hi] at q
        rcases cx with rfl | ⟨_, rfl, _⟩ | ⟨_, rfl, _⟩ <;> cases q
      · rw [List.getElem?_set_ne hij] at q
        exact ⟨hij, q⟩
    have nep : ∀ {r k j : Nat}, (s.set i x)[r]? = some (.pt k j) → s[r]? = some (.pt k j) := fun {r k j} q => by
      by_cases hij : i = r
      · subst hij
        rw [List.getElem?_set_self hi] at q
        rcases cx with rfl | ⟨_, rfl, _⟩ | ⟨_, rfl, _⟩ <;> cases q
      · rw [List.getElem?_set_ne hij] at q
        exact q
    have neo : ∀ {j : Nat} {e : D}, (s.set i x)[j]? = some (.ow e) ∨ (s.set i x)[j]? = some (.lk e) → (i = j ∧ OwR C.G F' H' a e ∧ F' a = none) ∨ (i ≠ j ∧ (s[j]? = some (.ow e) ∨ s[j]? = some (.lk e))) := fun {j e} q => by
      by_cases hij : i = j
      · subst hij
        rw [List.getElem?_set_self hi] at q
        rcases cx with rfl | ⟨_, rfl, _⟩ | ⟨e', rfl, h1, h2⟩
        · rcases q with q | q <;> cases q
        · rcases q with q | q <;> cases q
        · rcases q with q | q <;> cases q
          exact .inl ⟨rfl, h1, h2⟩
      · rw [List.getElem?_set_ne hij] at q
        exact .inr ⟨hij, q⟩
    refine ⟨⟨S.ext.ff.trans ff, fun b o z => ?_, fh, fun b o z1 z2 => ?_⟩, by rw [List.length_set]; exact S.len, fun j e q => ?_, fun j e q => ?_, fun j k e e' b q1 q2 q3 q4 => ?_, ?_⟩
    · exact c1 b o (S.ext.hh _ _ z) fun m => by have := (k4 b m).1; rw [z] at this; cases this
    · exact c2 b o (S.ext.hh _ _ z1) (S.ext.ow b o z1 z2) fun m => by have := (k4 b m).1; rw [z1] at this; cases this
    · by_cases hij : i = j
      · subst hij
        rw [List.getElem?_set_self hi] at q
        rcases cx with rfl | ⟨e', rfl, h1⟩ | ⟨_, rfl, _⟩
        · cases q
        · cases q
          exact ⟨_, k1, h1⟩
        · cases q
      · rw [List.getElem?_set_ne hij] at q
        obtain ⟨v, e1, e2⟩ := S.sh j e q
        exact ⟨v, e1, Rep.mono ff e2⟩
    · rcases neo q with ⟨rfl, h1, h2⟩ | ⟨h1, h2⟩
      · exact ⟨a, k1, (k4 a (List.mem_cons_self ..)).1, h2, h1⟩
      · obtain ⟨b, e1, e2, e3, e4⟩ := S.ow j e h2
        have hb := other j e b h2 e1
        obtain ⟨o, ho⟩ := e4.there
        exact ⟨b, e1, e2, c2 b o ho e3 hb, e4.mono ff fun o z => c1 b o z hb⟩
    · rcases neo q1 with ⟨rfl, h1, h2⟩ | ⟨h1, h2⟩
      · rcases neo q2 with ⟨rfl, _, _⟩ | ⟨h3, h4⟩
        · rfl
        · rw [k1] at q3
          cases q3
          exact (other k e' a h4 q4 (List.mem_cons_self ..)).elim
      · rcases neo q2 with ⟨rfl, _, _⟩ | ⟨h3, h4⟩
        · rw [k1] at q4
          cases q4
          exact (other j e a h2 q3 (List.mem_cons_self ..)).elim
        · exact S.dis j k e e' b h2 h4 q3 q4
    · refine ⟨fun b => if b ∈ a :: L then none else O b, fun j k2 e q => ?_, fun j e b q z => ?_⟩
      · obtain ⟨hij, q'⟩ := nen q
        obtain ⟨a', L2, m1, m2, m3, m4, m5⟩ := g1 j k2 e q'
        have dis : ∀ b ∈ a' :: L2, b ∉ a :: L := fun b m m' => by
          have h1 := (m4 b m).2.2.2
          rw [(k4 b m').2.2.2] at h1
          cases h1
          exact hij rfl
        have m2' : NtR C.G F' H' a' e L2 := m2.mono ff fun b o m z => c1 b o z (dis b m)
        refine ⟨a', L2, m1, m2', m3, fun b m => ⟨(m4 b m).1, ?_, m2'.there b m, ?_⟩, fun r j' q' => m5 r j' (nep q')⟩
        · obtain ⟨o, ho⟩ := m2.there b m
          exact c2 b o ho (m4 b m).2.1 (dis b m)
        · show (if b ∈ a :: L then none else O b) = some j
          rw [if_neg (dis b m)]
          exact (m4 b m).2.2.2
      · show (if b ∈ a :: L then none else O b) = none
        rcases neo q with ⟨rfl, h1, h2⟩ | ⟨h1, h2⟩
        · rw [k1] at z
          cases z
          rw [if_pos (List.mem_cons_self ..)]
        · rw [if_neg (other j e b h2 z)]
          exact g2 j e b h2 z
/-! items -/
theorem ItL.length {G : GE} {F H : Hp} {ds : List D} {vs : List V} {L : List Addr} (h : ItL G F H ds vs L) : vs.length = ds.length := by
  induction h with
  | nil => rfl
  | sh _ _ _ ih => simp [ih]
  | ow _ _ _ ih => simp [ih]
theorem ItL.get {G : GE} {F H : Hp} {ds : List D} {vs : List V} {L : List Addr} (h : ItL G F H ds vs L) : ∀ {j : Nat} {es : List D}, ds[j]? = some (.lst es) → ∃ b xs, vs[j]? = some (.ref b) ∧ H b = some (.lst xs) ∧ RepL G F es xs ∧ b ∈ L := by
  induction h with
  | nil => intro j es e; simp at e
  | sh n r t ih =>
    intro j es e
    cases j with
    | zero => simp at e; exact absurd e (n es)
    | succ j =>
      obtain ⟨b, xs, h1, h2, h3, h4⟩ := ih (by simpa using e)
      exact ⟨b, xs, by simpa using h1, h2, h3, h4⟩
  | ow h r t ih =>
    intro j es e
    cases j with
    | zero =>
      simp at e
      subst e
      exact ⟨_, _, rfl, h, r, List.mem_cons_self ..⟩
    | succ j =>
      obtain ⟨b, xs, h1, h2, h3, h4⟩ := ih (by simpa using e)
      exact ⟨b, xs, by simpa using h1, h2, h3, List.mem_cons_of_mem _ h4⟩
/-- one of the own lists changed -/
theorem ItL.put {G : GE} {F H : Hp} {ds : List D} {vs : List V} {L : List Addr} (h : ItL G F H ds vs L) : ∀ {j : Nat} {es es' : List D} {b : Addr} {us : List V}, L.Nodup → ds[j]? = some (.lst es) → vs[j]? = some (.ref b) → RepL G F es' us → ItL G F (upd H b (.lst us)) (ds.set j (.lst es')) vs L := by
  induction h with
  | nil => intro j es es' b us nd e; simp at e
  | sh n r t ih =>
    intro j es es' b us nd e e2 r2
    cases j with
    | zero => simp at e; exact absurd e (n es)
    | succ j => exact .sh n r (ih nd (by simpa using e) (by simpa using e2) r2)
  | @ow es0 b0 xs0 ds0 vs0 L0 h r t ih =>
    intro j es es' b us nd e e2 r2
    obtain ⟨n1, n2⟩ := List.nodup_cons.mp nd
    cases j with
    | zero =>
      simp at e e2
      subst e2
      exact .ow upd_same r2 (t.mono (Same.refl F) fun b o m z => by rw [upd_ne (fun q => by subst q; exact n1 m)]; exact z)
    | succ j =>
      obtain ⟨b', xs', h1, h2, h3, h4⟩ := t.get (j := j) (es := es) (by simpa using e)
      have e2' : vs0[j]? = some (.ref b) := by simpa using e2
      rw [h1] at e2'
      cases e2'
      have hb : b0 ≠ b := fun q => by subst q; exact n1 h4
      exact .ow (by rw [upd_ne hb]; exact h) r (ih n2 (by simpa using e) h1 r2)
theorem ItL.append {G : GE} {F H : Hp} {ds : List D} {vs : List V} {L : List Addr} (h : ItL G F H ds vs L) {es : List D} {ws : List V} {M : List Addr} (k : ItL G F H es ws M) : ItL G F H (ds ++ es) (vs ++ ws) (L ++ M) := by
  induction h with
  | nil => exact k
  | sh n r t ih => exact .sh n r ih
  | ow h r t ih => exact .ow h r ih
/-- all items laid fast -/
theorem ItL.rep {G : GE} {F H F' : Hp} {ds : List D} {vs : List V} {L : List Addr} (h : ItL G F H ds vs L) (ff : Same F F') : (∀ b o, b ∈ L → H b = some o → F' b = some o) → RepL G F' ds vs := by
  induction h with
  | nil => exact fun _ => RepL.nil
  | sh n r t ih => exact fun k => RepL.cons (Rep.mono ff r) (ih k)
  | ow h r t ih => exact fun k => RepL.cons (rep_lst.mpr ⟨_, _, rfl, .inl (.inl (k _ _ (List.mem_cons_self ..) h)), RepL.mono ff r⟩) (ih fun b o m => k b o (List.mem_cons_of_mem _ m))
/-- of shared items that are no lists -/
def noLst : D → Bool
  | .lst _ => false
  | _ => true
/-- lists in a list: their addresses are the items -/
theorem ItL.refs {G : GE} {F H : Hp} {ds : List D} {vs : List V} {L : List Addr} (h : ItL G F H ds vs L) : (∀ d ∈ ds, ∃ es, d = .lst es) → vs = L.map V.ref := by
  induction h with
  | nil => exact fun _ => rfl
  | sh n r t ih =>
    intro k
    obtain ⟨es, e⟩ := k _ (List.mem_cons_self ..)
    exact absurd e (n es)
  | ow h r t ih => exact fun k => by rw [ih fun d m => k d (List.mem_cons_of_mem _ m)]; rfl
/-- grown by the addresses of a list -/
def grow (F H : Hp) (T : List Addr) : Hp := fun b => if b ∈ T then H b else F b
theorem grow_in {F H : Hp} {T : List Addr} {b : Addr} (h : b ∈ T) : grow F H T b = H b := if_pos h
theorem grow_out {F H : Hp} {T : List Addr} {b : Addr} (h : b ∉ T) : grow F H T b = F b := if_neg h
theorem grow_same {F H : Hp} {T : List Addr} (h : ∀ b ∈ T, F b = none) : Same F (grow F H T) := fun b o z => by
  rw [grow_out (fun m => by rw [h b m] at z; cases z)]
  exact z
theorem grow_sub {F H H' : Hp} {T : List Addr} (s : Same F H') (h : ∀ b ∈ T, H' b = H b) : Same (grow F H T) H' := fun b o z => by
  by_cases m : b ∈ T
  · rw [grow_in m] at z
    rw [h b m]
    exact z
  · rw [grow_out m] at z
    exact s _ _ z
end
end Z
namespace Z
noncomputable section
open PySem PySem.Spec PySem.P PyProof.Rows L2
/-! ### own lists of own lists -/
def lls : List D → Option (List (List D))
  | [] => some []
  | .lst es :: ds => (lls ds).map (es :: ·)
  | _ :: _ => none
theorem lls_map : ∀ (ess : List (List D)), lls (ess.map .lst) = some ess
  | [] => rfl
  | es :: ess => by
    rw [List.map_cons]
    unfold lls
    rw [lls_map ess]
    rfl
theorem lls_some : ∀ {ds : List D} {ess : List (List D)}, lls ds = some ess → ds = ess.map .lst
  | [], ess, h => by cases h; rfl
  | d :: ds, ess, h => by
    cases d <;> try cases h
    unfold lls at h
    cases q : lls ds with
    | none => rw [q] at h; cases h
    | some e =>
      rw [q] at h
      cases h
      rw [lls_some q]
      rfl
def nll (k : Bool) (ess : List (List D)) : Sl := .nt k (.lst (ess.map .lst))
def getNl : Option Sl → Option (Bool × List (List D))
  | some (.nt k (.lst ds)) => (lls ds).map fun ess => (k, ess)
  | _ => none
@[simp] theorem getNl_nll (k : Bool) (ess : List (List D)) : getNl (some (nll k ess)) = some (k, ess) := by
  show (lls (ess.map .lst)).map (fun ess => (k, ess)) = _
  rw [lls_map]
  rfl
theorem getNl_some {o : Option Sl} {k : Bool} {ess : List (List D)} (h : getNl o = some (k, ess)) : o = some (nll k ess) := by
  unfold getNl at h
  split at h
  · rename_i k' ds
    cases q : lls ds with
    | none => rw [q] at h; cases h
    | some e =>
      rw [q] at h
      cases h
      rw [lls_some q]
      rfl
  · cases h
/-- what is known of the lists in a list -/
theorem ll_iff {G : GE} {F H : Hp} : ∀ {ess : List (List D)} {vs : List V} {L : List Addr}, ItL G F H (ess.map .lst) vs L ↔ vs = L.map V.ref ∧ L.length = ess.length ∧ ∀ (j : Nat) (es : List D) (b : Addr), ess[j]? = some es → L[j]? = some b → ∃ xs, H b = some (.lst xs) ∧ RepL G F es xs
  | [], vs, L => by
    constructor
    · intro h
      cases h
      exact ⟨rfl, rfl, fun j es b h => by simp at h⟩
    · rintro ⟨rfl, h, -⟩
      have : L = [] := List.eq_nil_of_length_eq_zero h
      subst this
      exact .nil
  | es :: ess, vs, L => by
    rw [List.map_cons]
    constructor
    · intro h
      cases h with
      | sh n r t => exact absurd rfl (n es)
      | ow h r t =>
        obtain ⟨e1, e2, e3⟩ := ll_iff.mp t
        refine ⟨by rw [e1]; rfl, by simp [e2], fun j es' b h1 h2 => ?_⟩
        cases j with
        | zero => simp at h1 h2; subst h1 h2; exact ⟨_, h, r⟩
        | succ j => exact e3 j es' b (by simpa using h1) (by simpa using h2)
    · rintro ⟨rfl, h, k⟩
      cases L with
      | nil => simp at h
      | cons b L =>
        obtain ⟨xs, h1, h2⟩ := k 0 es b rfl rfl
        exact .ow h1 h2 (ll_iff.mpr ⟨rfl, by simpa using h, fun j es' b' e1 e2 => k (j + 1) es' b' (by simpa using e1) (by simpa using e2)⟩)
/-! ### new nested objects -/
abbrev pN (C : CT) (H₀ : Hp) : Hp → Hp → D → V → Prop := fun F H d v => ∃ a L, v = .ref a ∧ NtR C.G F H a d L ∧ (a :: L).Nodup ∧ ∀ b ∈ a :: L, H₀ b = none ∧ F b = none
def tN (C : CT) (W : WX) (f : SS → R D) : TE := fun σ H Q => ∃ F sd, StR C F H sd σ ∧ PostE C W F H σ (pN C H) Q (f sd)
def sSetN (i : Nat) (fe : SS → R D) : SS → RS := fun s => if ptFree i s = true then sE fe (fun d s => optS (setS s i (.nt false d))) s else .bad
section
variable {X : Cx} {C : CT} {W : WX} {a b c e : Expr} {fa fb fc fe fi f : SS → R D} {pos pos' p p1 p2 apos : Pos} {x y : Str} {i j r : Nat}
theorem setN_post {F H : Hp} {sd : SS} {σ : L2.St} {En : Ends} {Q : VK} (S : StR C F H sd σ) (h : PostS C W F sd σ En (sSetN i fe sd))
    (hQ : ∀ v F1 H1 s', Same F F1 → (∃ a, v = .ref a) → StR C F1 H1 s' (σ.set i (some v)) → Lk sd σ s' (σ.set i (some v)) → (∀ F' H' σ', StR C F' H' s' σ' → Same F F' → Lk sd σ s' σ' → En.nx σ' H') → Q v H1) : PostE C W F H σ (pN C H) Q (fe sd) := by
  unfold sSetN at h
  by_cases hp : ptFree i sd = true
  · rw [if_pos hp] at h
    refine postS_E S h fun d v F1 H1 e1 r h1 => ?_
    obtain ⟨a, L, rfl, hn, hnd, hf⟩ := r
    cases q : setS sd i (.nt false d) with
    | none => rw [q] at h1; exact h1.elim
    | some s' =>
      rw [q] at h1
      exact hQ _ F1 H1 s' e1.ff ⟨a, rfl⟩ ((S.mono e1).setNt (H₁ := H) q hp S.owns (S.ntIn e1) hn hnd fun b m => ⟨(hf b m).1, S.ext.hh.free (hf b m).1, (hf b m).2⟩) (lk_set q) h1
  · rw [if_neg hp] at h
    exact h.elim
theorem s_setN (i : Nat) (he : PE X e (tN C W fe)) (hN : X.N.Nodup) (hi : X.N[i]? = some x := by rfl) (hx : Loc X.env.scope x := by first | exact Or.inl rfl | exact Or.inr rfl) (hs : swapsWith e (some (.Name x pos')) pos.line X.env = pure false := by rfl)
    (hf : X.fn x = true ∨ X.env.scope.names.lookup x = some .local := by first | exact .inl rfl | exact .inr rfl) : PS X (.Assign [.Name x pos'] e pos) (tS C W (sSetN i fe)) := by
  refine ps_imp (ps_set (i := i) hN hi hx he hs hf) fun D σ H ⟨F, sd, S, h⟩ => ?_
  exact ⟨F, sd, S, setN_post S h fun v F1 H1 s' f _ S1 l k => k F1 H1 _ S1 f l⟩
/-! ### [own list for ..] -/
def eCompN (fi : SS → R (List D)) (ft : FG) (vs : List Nat) (fc fe : SS → R D) : SS → R D := fun s => match fi s with
  | .ok ds => (match mapD (cStep ft vs fc fe s) ds with
    | .ok xs => if xs.length ≤ SZ ∧ (lls xs).isSome = true then .ok (.lst xs) else .bad
    | _ => .bad)
  | .ex c vs => .ex c vs
  | .bad => .bad
end
section
variable {X : Cx} {C : CT} {W : WX} {elt tg iter : Expr} {ifs : List Expr} {fi : SS → R (List D)} {pos : Pos} {ft : FG} {vs : List Nat} {fc fe : SS → R D}
theorem comp_runN {F1 H1 H₀ : Hp} {sd : SS} {σ : L2.St} {Q : VK} {ds : List D} {J : It} (S : StR C F1 H1 sd σ) (e₀ : Same H₀ H1) (ok : ItOk C.G F1 J ds)
    (h : PostE C W F1 H1 σ (pN C H₀) Q (match mapD (cStep ft vs fc fe sd) ds with | .ok xs => if xs.length ≤ SZ ∧ (lls xs).isSome = true then .ok (.lst xs) else .bad | _ => .bad)) :
    ∀ L, H1 L = none → ∃ Wv : Nat → Nat → Hp → Prop, (∃ m, Wv 0 m (upd H1 L (.lst []))) ∧ ∀ i m H, Wv i m H →
      (J.stop i H ∧ Q (.ref L) H) ∨ (J.go i H ∧ ∃ Nx : Hp → Prop, (∀ H', Nx H' → ∃ m', m' < m ∧ Wv (i + 1) m' H') ∧ ∀ x H', J.yld i H x H' → tG C ft vs x (wipe σ vs) H' fun σ2 H2 => wipe σ2 vs = wipe σ vs ∧ tT C WNo fc σ2 H2 fun b H3 =>
        if b = true then tF C WNo fe σ2 H3 fun y H4 => ∃ acc, H4 L = some (.lst acc) ∧ acc.length < sizeLine ∧ Nx (upd H4 L (.lst (acc ++ [y]))) else Nx H3) := by
  intro L hL
  obtain ⟨xs, hx, hz, hll, h⟩ : ∃ xs, mapD (cStep ft vs fc fe sd) ds = .ok xs ∧ xs.length ≤ SZ ∧ (lls xs).isSome = true ∧ PostE C W F1 H1 σ (pN C H₀) Q (.ok (.lst xs)) := by
    cases q : mapD (cStep ft vs fc fe sd) ds with
    | ok xs =>
      rw [q] at h
      have h : PostE C W F1 H1 σ (pN C H₀) Q (if xs.length ≤ SZ ∧ (lls xs).isSome = true then .ok (.lst xs) else .bad) := h
      by_cases hz : xs.length ≤ SZ ∧ (lls xs).isSome = true
      · rw [if_pos hz] at h
        exact ⟨xs, rfl, hz.1, hz.2, h⟩
      · rw [if_neg hz] at h
        exact h.elim
    | ex c vs => rw [q] at h; exact h.elim
    | bad => rw [q] at h; exact h.elim
  have hlls : ∀ d ∈ xs, ∃ es, d = .lst es := fun d hd => by
    obtain ⟨ess, he⟩ := Option.isSome_iff_exists.mp hll
    rw [lls_some he] at hd
    obtain ⟨es, -, rfl⟩ := List.mem_map.mp hd
    exact ⟨es, rfl⟩
  have hFL : F1 L = none := S.fh.free hL
  refine ⟨fun i m H => m = ds.length - i ∧ i ≤ ds.length ∧ ∃ F acc dacc rest M, Ext F1 H1 F H ∧ F L = none ∧ H L = some (.lst acc) ∧ ItL C.G F H dacc acc M ∧ M.Nodup ∧ (∀ b ∈ M, H1 b = none ∧ F b = none ∧ b ≠ L) ∧ mapD (cStep ft vs fc fe sd) (ds.drop i) = .ok rest ∧ xs = dacc ++ rest,
    ⟨ds.length, by omega, Nat.zero_le _, F1, [], [], xs, [], Ext.newOwn S.fh hL, hFL, upd_same, .nil, List.nodup_nil, fun b m => absurd m (List.not_mem_nil), hx, rfl⟩, ?_⟩
  rintro i m H ⟨rfl, hi, F, acc, dacc, rest, M, e1, f1, hl, ra, mnd, mfr, hm, hxs⟩
  by_cases hlt : i < ds.length
  · refine .inr ⟨ok.go i F H e1.ff e1.fh hlt, fun H' => ∃ F acc dacc rest M, Ext F1 H1 F H' ∧ F L = none ∧ H' L = some (.lst acc) ∧ ItL C.G F H' dacc acc M ∧ M.Nodup ∧ (∀ b ∈ M, H1 b = none ∧ F b = none ∧ b ≠ L) ∧ mapD (cStep ft vs fc fe sd) (ds.drop (i + 1)) = .ok rest ∧ xs = dacc ++ rest,
      fun H' n => ⟨ds.length - (i + 1), by omega, rfl, hlt, n⟩, fun x H' y => ?_⟩
    obtain ⟨F', d, e2, hd, r⟩ := ok.yld i F H x H' e1.ff e1.fh hlt y
    have hdr : ds.drop i = d :: ds.drop (i + 1) := by
      obtain ⟨hi', e⟩ := List.getElem?_eq_some_iff.mp hd
      rw [List.drop_eq_getElem_cons hi', e]
    rw [hdr] at hm
    unfold mapD at hm
    have hst : ∀ {q : R (Option D)}, cStep ft vs fc fe sd d = q → q ≠ .bad ∧ ∃ s', ft d (wipeS sd vs) = some s' ∧ ((∃ x, fc s' = .ok (.bl true) ∧ fe s' = .ok x ∧ q = .ok (some x)) ∨ (fc s' = .ok (.bl false) ∧ q = .ok none)) := by
      intro q hq
      subst hq
      unfold cStep at hm ⊢
      cases k : ft d (wipeS sd vs) with
      | none => rw [k] at hm; cases hm
      | some s' =>
        rw [k] at hm
        simp only at hm ⊢
        cases k2 : fc s' with
        | ok b =>
          rw [k2] at hm
          cases b with
          | bl b =>
            cases b with
            | true =>
              simp only at hm ⊢
              cases k3 : fe s' with
              | ok x => exact ⟨fun z => (by cases z), s', rfl, .inl ⟨x, k2, k3, rfl⟩⟩
              | ex c vs => rw [k3] at hm; cases hm
              | bad => rw [k3] at hm; cases hm
            | false => exact ⟨fun z => (by cases z), s', rfl, .inr ⟨k2, rfl⟩⟩
          | _ => cases hm
        | ex c vs => rw [k2] at hm; cases hm
        | bad => rw [k2] at hm; cases hm
    obtain ⟨_, s', k1, k2⟩ := hst rfl
    have S' : StR C F' H' (wipeS sd vs) (wipe σ vs) := ((S.mono e1).mono e2).wiped vs
    refine ⟨F', wipeS sd vs, d, s', S', r, k1, fun σ2 S2 l2 b2 => ⟨wipe_but b2, F', s', S2, ?_⟩⟩
    rcases k2 with ⟨y, c1, c2, c3⟩ | ⟨c1, c3⟩
    · rw [c1]
      intro F3 H3 e3
      rw [if_pos rfl]
      refine ⟨F3, s', S2.mono e3, ?_⟩
      rw [c2]
      rintro u F4 H4 e4 ⟨b4, rfl, n4, f4b, ow4⟩
      have e23 : Ext F H F3 H3 := e2.trans e3
      have e24 : Ext F H F4 H4 := e23.trans e4
      have f4 : F4 L = none := e24.ow L _ hl f1
      rw [c3] at hm
      have hm : (match mapD (cStep ft vs fc fe sd) (ds.drop (i + 1)) with | .ok xs => R.ok (y :: xs) | _ => R.bad) = .ok rest := hm
      cases k5 : mapD (cStep ft vs fc fe sd) (ds.drop (i + 1)) with
      | ok rest' =>
        rw [k5] at hm
        have hm : R.ok (y :: rest') = .ok rest := hm
        cases hm
        obtain ⟨es, rfl⟩ := hlls y (by rw [hxs]; simp)
        obtain ⟨zs, hz4, rz⟩ := ow4
        have hlen : acc.length < sizeLine := by
          rw [ra.length, sizeLine_eq]
          have : xs.length = dacc.length + (rest'.length + 1) := by rw [hxs]; simp
          have hz' : xs.length ≤ 16777216 := (sz_is ▸ hz)
          omega
        have hb4L : b4 ≠ L := fun z => by subst z; rw [e23.hh _ _ hl] at n4; cases n4
        have hb4M : b4 ∉ M := fun z => by
          obtain ⟨o, ho⟩ := ra.there b4 z
          rw [e23.hh _ _ ho] at n4
          cases n4
        refine ⟨acc, e24.hh _ _ hl, hlen, F4, acc ++ [.ref b4], dacc ++ [.lst es], rest', M ++ [b4], ?_, f4, upd_same, ?_, ?_, ?_, rfl, by rw [hxs]; simp⟩
        · have e14 := e1.trans e24
          refine ⟨e14.ff, fun b o z => ?_, fun b o z => ?_, fun b o z1 z2 => e14.ow b o z1 z2⟩
          · have hb : b ≠ L := ne_of_none z hL
            rw [upd_ne hb]
            exact e14.hh _ _ z
          · have hb : b ≠ L := ne_of_none z f4
            rw [upd_ne hb]
            exact e14.fh _ _ z
        · refine (ra.mono e24.ff fun b o m z => ?_).append (.ow (by rw [upd_ne hb4L]; exact hz4) rz .nil)
          rw [upd_ne (mfr b m).2.2]
          exact e24.hh _ _ z
        · refine List.nodup_append.mpr ⟨mnd, by simp, fun c hc d hd => ?_⟩
          rw [List.mem_singleton.mp hd]
          exact fun z => by subst z; exact hb4M hc
        · intro b m
          rcases List.mem_append.mp m with m | m
          · obtain ⟨o, ho⟩ := ra.there b m
            exact ⟨(mfr b m).1, e24.ow b o ho (mfr b m).2.1, (mfr b m).2.2⟩
          · rw [List.mem_singleton.mp m]
            exact ⟨(e1.trans e23).hh.free n4, f4b, hb4L⟩
      | ex c vs => rw [k5] at hm; cases hm
      | bad => rw [k5] at hm; cases hm
    · rw [c1]
      intro F3 H3 e3
      rw [if_neg Bool.false_ne_true]
      rw [c3] at hm
      have e23 : Ext F H F3 H3 := e2.trans e3
      exact ⟨F3, acc, dacc, rest, M, e1.trans e23, e23.ow L _ hl f1, e23.hh _ _ hl, ra.mono e23.ff fun b o _ z => e23.hh _ _ z, mnd, fun b m => by
        obtain ⟨o, ho⟩ := ra.there b m
        exact ⟨(mfr b m).1, e23.ow b o ho (mfr b m).2.1, (mfr b m).2.2⟩, hm, hxs⟩
  · have e : i = ds.length := by omega
    subst e
    rw [List.drop_length] at hm
    cases hm
    rw [List.append_nil] at hxs
    subst hxs
    refine .inl ⟨ok.stop _ F H e1.ff e1.fh (Nat.le_refl _), h _ F H e1 ⟨L, M, rfl, ⟨acc, hl, ra⟩, List.nodup_cons.mpr ⟨fun m => (mfr L m).2.2 rfl, mnd⟩, fun b m => ?_⟩⟩
    rcases List.mem_cons.mp m with rfl | m
    · exact ⟨e₀.free hL, f1⟩
    · exact ⟨e₀.free (mfr b m).1, (mfr b m).2.1⟩
theorem comp_readN {σ : L2.St} {H : Hp} {Q : VK} (h : tN C W (eCompN fi ft vs fc fe) σ H Q) : tLc (tI C W fi) (tG C ft vs) (tT C WNo fc) (tF C WNo fe) vs σ H Q := by
  obtain ⟨F, sd, S, h⟩ := h
  refine ⟨F, sd, S, ?_⟩
  unfold eCompN at h
  cases q : fi sd with
  | ok ds =>
    rw [q] at h
    exact fun J F1 H1 e1 ok => comp_runN (S.mono e1) e1.hh ok (PostE.ext e1 h)
  | ex c vs => rw [q] at h; exact h
  | bad => rw [q] at h; exact h
/-- y = [elt for ..], elt a new list -/
theorem s_setcN (v : Pl X C W) (i : Nat) {y : Str} {py spos : Pos} {scope : Scope} {own : List (Str × Nat)} (hN : X.N.Nodup) (hi : PI X tg iter (tI C W fi)) (hv : own.map (·.2) = vs)
    (hg : ∀ (s : Shared) (H : Hp) (Ca : Addr) (cl : List (Str × Addr)) (fp : List Addr), Pl (X.blk s H scope (compEnvC scope cl Ca X.env) fp) C WNo → PG (X.blk s H scope (compEnvC scope cl Ca X.env) fp) tg (tG C ft vs))
    (ht : ∀ (s : Shared) (H : Hp) (Ca : Addr) (cl : List (Str × Addr)) (fp : List Addr), Pl (X.blk s H scope (compEnvC scope cl Ca X.env) fp) C WNo → PTs (X.blk s H scope (compEnvC scope cl Ca X.env) fp) ifs (tT C WNo fc))
    (he : ∀ (s : Shared) (H : Hp) (Ca : Addr) (cl : List (Str × Addr)) (fp : List Addr), Pl (X.blk s H scope (compEnvC scope cl Ca X.env) fp) C WNo → PE (X.blk s H scope (compEnvC scope cl Ca X.env) fp) elt (tF C WNo fe))
    (hy : X.N[i]? = some y := by rfl) (hyl : X.env.scope.names.lookup y = some .local := by rfl)
    (hsw : swapsWith (.ListComp elt [⟨tg, iter, ifs, 0⟩] scope pos) (some (.Name y py)) spos.line X.env = pure true := by exact sw_true rfl rfl rfl (by decide +kernel))
    (ok : BlkOk X.N X.env.scope scope own := by exact blkOk_by (by decide +kernel))
    (hs : ∀ x, foldedSetIterable iter X.env x = pure x := by intro _; rfl) : PS X (.Assign [.Name y py] (.ListComp elt [⟨tg, iter, ifs, 0⟩] scope pos) spos) (tS C W (sSetN i (eCompN fi ft vs fc fe))) := by
  subst hv
  refine ps_imp (ps_setLc v.calm hN hy hyl hsw hi ok (fun s H Ca cl fp => hg s H Ca cl fp (v.blk ..)) (fun s H Ca cl fp => ht s H Ca cl fp (v.blk ..)) (fun s H Ca cl fp => he s H Ca cl fp (v.blk ..)) hs) fun En σ H ⟨F, sd, S, h⟩ => ?_
  exact comp_readN (W := W) ⟨F, sd, S, setN_post S h fun v F1 H1 s' f _ S1 l k => k F1 H1 _ S1 f l⟩
end
end
end Z
namespace Z
noncomputable section
open PySem PySem.Spec PySem.P PyProof.Rows L2
/-! ### own lists of own lists: read, changed -/
theorem nodup_ix {α : Type} {L : List α} (h : L.Nodup) {i j : Nat} {b : α} (h1 : L[i]? = some b) (h2 : L[j]? = some b) : i = j := by
  obtain ⟨p1, p2⟩ := List.getElem?_eq_some_iff.mp h1
  obtain ⟨q1, q2⟩ := List.getElem?_eq_some_iff.mp h2
  have hp := List.pairwise_iff_getElem.mp h
  rcases Nat.lt_trichotomy i j with c | c | c
  · exact absurd (p2.trans q2.symm) (hp i j p1 q1 c)
  · exact c
  · exact absurd (q2.trans p2.symm) (hp j i q1 p1 c)
/-- slot i opened -/
theorem StR.openLL {C : CT} {F H : Hp} {s : SS} {σ : L2.St} {i : Nat} {k : Bool} {ess : List (List D)} (S : StR C F H s σ) (hs : s[i]? = some (nll k ess)) :
    ∃ a L, σ[i]? = some (some (.ref a)) ∧ H a = some (.lst (L.map V.ref)) ∧ L.length = ess.length ∧ (a :: L).Nodup ∧ (∀ b ∈ a :: L, C.H0 b = none ∧ F b = none) ∧
      (∀ (j : Nat) (es : List D) (b : Addr), ess[j]? = some es → L[j]? = some b → ∃ xs, H b = some (.lst xs) ∧ RepL C.G F es xs) ∧
      (∀ (r j : Nat), s[r]? = some (Sl.pt i j) → ∃ b, L[j]? = some b ∧ σ[r]? = some (some (V.ref b))) ∧
      (∀ (j : Nat) (es : List D) (b : Addr) (us : List V), L[j]? = some b → RepL C.G F es us → StR C F (upd H b (.lst us)) (s.set i (nll k (ess.set j es))) σ) ∧
      (∀ (H' : Hp) (ess' : List (List D)) (L' : List Addr), (∀ b o, H b = some o → b ∉ a :: L → H' b = some o) → H' a = some (.lst (L'.map V.ref)) → L'.length = ess'.length →
        (∀ (j : Nat) (es : List D) (b : Addr), ess'[j]? = some es → L'[j]? = some b → ∃ xs, H' b = some (.lst xs) ∧ RepL C.G F es xs) → (a :: L').Nodup → (∀ b ∈ L', b ∈ L) → ptFree i s = true → StR C F H' (s.set i (nll k ess')) σ) ∧
      (∀ x : Sl, (x = .no ∨ x = .sh (.lst (ess.map .lst))) → StR C (grow F H (a :: L)) H (s.set i x) σ) := by
  obtain ⟨a, L, k1, ⟨xs, k2, k3⟩, k4, k5, k6, k7, k8⟩ := S.openNt hs
  obtain ⟨rfl, l1, l2⟩ := ll_iff.mp k3
  refine ⟨a, L, k1, k2, l1, k4, k5, l2, k6, fun j es b us hb r => ?_, fun H' ess' L' c1 c2 c3 c4 c5 c6 c7 => ?_, fun x hx => ?_⟩
  · have hbm : b ∈ L := List.mem_of_getElem? hb
    have hba : a ≠ b := fun z => by subst z; exact (List.nodup_cons.mp k4).1 hbm
    refine k7 _ (.lst ((ess.set j es).map .lst)) L (fun c o z m => by rw [upd_ne (fun q => m (by rw [q]; exact List.mem_cons_of_mem _ hbm))]; exact z) ⟨_, by rw [upd_ne hba]; exact k2, ?_⟩ k4 (fun b m => .inl m) (.inl fun _ _ h => h)
    rw [ll_iff]
    refine ⟨rfl, by rw [List.length_set]; exact l1, fun j' es' b' h1 h2 => ?_⟩
    by_cases hj : j = j'
    · subst hj
      rw [hb] at h2
      cases h2
      rw [List.getElem?_set_self (by have := (List.getElem?_eq_some_iff.mp hb).1; omega)] at h1
      cases h1
      exact ⟨us, upd_same, r⟩
    · rw [List.getElem?_set_ne hj] at h1
      obtain ⟨xs, g1, g2⟩ := l2 j' es' b' h1 h2
      refine ⟨xs, ?_, g2⟩
      rw [upd_ne]
      · exact g1
      · intro z
        subst z
        exact hj (nodup_ix (List.nodup_cons.mp k4).2 hb h2)
  · exact k7 H' (.lst (ess'.map .lst)) L' c1 ⟨_, c2, ll_iff.mpr ⟨rfl, c3, c4⟩⟩ c5 (fun b m => .inl (c6 b m)) (.inr c7)
  · have g1 : Same F (grow F H (a :: L)) := grow_same fun b m => (k5 b m).2
    refine k8 _ H x g1 (grow_sub S.fh fun _ _ => rfl) (fun b o z _ => z) (fun b o z1 z2 m => by rw [grow_out m]; exact z2) ?_
    rcases hx with rfl | rfl
    · exact .inl rfl
    · refine .inr (.inl ⟨_, rfl, rep_lst.mpr ⟨a, _, rfl, .inl (.inl (by rw [grow_in (List.mem_cons_self ..)]; exact k2)), ?_⟩⟩)
      exact k3.rep g1 fun b o m z => by rw [grow_in (List.mem_cons_of_mem _ m)]; exact z
def ntL (s : SS) (i : Nat) : Option (Bool × List (List D)) := getNl s[i]?
theorem ntL_some {s : SS} {i : Nat} {k : Bool} {ess : List (List D)} (h : ntL s i = some (k, ess)) : s[i]? = some (nll k ess) := getNl_some h
/-! lent for reading -/
theorem Ext.ungrow {F H F' H' : Hp} {T : List Addr} (h0 : ∀ b ∈ T, F b = none) (e : Ext (grow F H T) H F' H') : Ext F H (fun b => if b ∈ T then none else F' b) H' := by
  refine ⟨fun b u z => ?_, e.hh, fun b u z => ?_, fun b u z1 z2 => ?_⟩
  · have hb : b ∉ T := fun m => by rw [h0 b m] at z; cases z
    show (if b ∈ T then none else F' b) = some u
    rw [if_neg hb]
    exact e.ff _ _ (by rw [grow_out hb]; exact z)
  · have z : (if b ∈ T then none else F' b) = some u := z
    split at z
    · cases z
    · exact e.fh _ _ z
  · show (if b ∈ T then none else F' b) = none
    split
    · rfl
    · rename_i hb
      exact e.ow b u z1 (by rw [grow_out hb]; exact z2)
def eBrwN (i : Nat) (fe : SS → R D) : SS → R D := fun s => match ntL s i with
  | some (_, ess) => flR (fe (s.set i (.sh (.lst (ess.map .lst)))))
  | none => .bad
section
variable {X : Cx} {C : CT} {W : WX} {a b c e ea eb : Expr} {fa fb fc fe fi f : SS → R D} {pos pos' p p1 p2 p3 apos : Pos} {x y z : Str} {i j r : Nat}
theorem flat_post {F F1 H : Hp} {σ : L2.St} {T : List Addr} {Q : VK} {q : R D} (h0 : ∀ b ∈ T, F b = none) (hF : F1 = grow F H T) (h : PostE C W F H σ (pD C) Q (flR q)) : PostE C W F1 H σ (pD C) Q q := by
  subst hF
  cases q with
  | ok d =>
    unfold flR at h
    dsimp only at h
    split at h
    · rename_i hf
      exact fun v F' H' e r => h v _ H' (Ext.ungrow h0 e) (Rep.flat hf r)
    · exact h.elim
  | ex c vs => exact h.elim
  | bad => exact h.elim
theorem s_brwN (i : Nat) (he : PE X e (tD C W fe)) : PE X e (tD C W (eBrwN i fe)) := by
  refine pe_imp he fun σ H Q ⟨F, sd, S, h⟩ => ?_
  unfold eBrwN at h
  cases hx : ntL sd i with
  | none => rw [hx] at h; exact h.elim
  | some ke =>
    obtain ⟨kb, ess⟩ := ke
    rw [hx] at h
    obtain ⟨a, L, k1, k2, k3, k4, k5, k6, k7, k8, k9, k10⟩ := S.openLL (ntL_some hx)
    exact ⟨_, _, k10 _ (.inr rfl), flat_post (fun b m => (k5 b m).2) rfl h⟩
/-! rows[a][b] = e -/
def rowAt (ess : List (List D)) (x : D) : Option (Nat × List D) := match x with
  | .int m => (ixN ess.length m).bind fun j => ess[j]?.map fun es => (j, es)
  | _ => none
def putAt (es : List D) (y d : D) : Option (List D) := match y with
  | .int n => (ixN es.length n).map fun k => es.set k d
  | _ => none
theorem rowAt_some {ess : List (List D)} {x : D} {j : Nat} {es : List D} (h : rowAt ess x = some (j, es)) : ∃ m, x = .int m ∧ ixN ess.length m = some j ∧ ess[j]? = some es := by
  unfold rowAt at h
  split at h
  · rename_i m
    cases q : ixN ess.length m with
    | none => rw [q] at h; cases h
    | some k =>
      rw [q] at h
      have h : (ess[k]?.map fun es => (k, es)) = some (j, es) := h
      cases q2 : ess[k]? with
      | none => rw [q2] at h; cases h
      | some es' =>
        rw [q2] at h
        cases h
        exact ⟨m, rfl, q, q2⟩
  · cases h
theorem putAt_some {es es' : List D} {y d : D} (h : putAt es y d = some es') : ∃ n k, y = .int n ∧ ixN es.length n = some k ∧ es' = es.set k d := by
  unfold putAt at h
  split at h
  · rename_i n
    cases q : ixN es.length n with
    | none => rw [q] at h; cases h
    | some k =>
      rw [q] at h
      cases h
      exact ⟨n, k, rfl, q, rfl⟩
  · cases h
def sSetII (i : Nat) (fa fb fe : SS → R D) : SS → RS := fun s => match ntL s i with
  | some (kb, ess) => sE fe (fun d s => sE fa (fun x s => match rowAt ess x with
    | some (j, es) => sE fb (fun y s => match putAt es y d with
      | some es' => .nx (s.set i (nll kb (ess.set j es')))
      | none => .bad) s
    | none => .bad) s) s
  | none => .bad
theorem atI_map {L : List Addr} {n : Int} {j : Nat} {b : Addr} (h : ixN L.length n = some j) (hb : L[j]? = some b) : atI (L.map V.ref) n = some (.ref b) := by
  unfold atI
  rw [List.length_map, h]
  show (L.map V.ref)[j]? = _
  rw [List.getElem?_map, hb]
  rfl
theorem s_setII (i : Nat) (ha : PE X a (tB C W fa)) (hb : PE X b (tB C W fb)) (he : PE X e (tD C W fe)) (hN : X.N[i]? = some x := by rfl) (hv : Vis X.env.scope x := by first | exact Or.inl rfl | exact Or.inr (Or.inl rfl) | exact Or.inr (Or.inr rfl)) (hd : (x == ("__debug__" : Str)) = false := by decide)
    (hcd : (x == ("__classdict__" : Str)) = false := by decide) (hpl : PlainIx a := by exact fun _ _ => rfl)
    (hassign : ∀ v, assign (.Subscript (.Subscript (.Name x p) a p1) b pos) X.env v = (do
      let ov ← holding [v] (eval (.Subscript (.Name x p) a p1) X.env)
      let iv ← holding [v, ov] (eval b X.env)
      standAt pos
      holding [v, ov, iv] (setItem ov iv v)
      release [v, ov, iv] []) := by intro _; rfl)
    (hs : swapsWithSole [.Subscript (.Subscript (.Name x p) a p1) b pos] e pos'.line X.env = pure false := by rfl) (hw : swappedStores [.Subscript (.Subscript (.Name x p) a p1) b pos] e X.env = pure none := by rfl)
    (h1 : (assignEach [.Subscript (.Subscript (.Name x p) a p1) b pos] X.env).map (·.2) = [assign (.Subscript (.Subscript (.Name x p) a p1) b pos) X.env] := by rfl) :
    PS X (.Assign [.Subscript (.Subscript (.Name x p) a p1) b pos] e pos') (tS C W (sSetII i fa fb fe)) := by
  refine ps_imp (ps_asg he (pg_sub (pe_ix ix_list (pe_var (i := i) hN hv hd hcd) ha hpl) hb set_list hassign) hs hw h1) fun En σ H ⟨F, sd, S, h⟩ => ?_
  unfold sSetII at h
  cases hx : ntL sd i with
  | none => rw [hx] at h; exact h.elim
  | some ke =>
    obtain ⟨kb, ess⟩ := ke
    rw [hx] at h
    have ho := ntL_some hx
    refine ⟨F, sd, S, postS_E S h fun d v F1 H1 e1 r1 h1 => ?_⟩
    have S1 := S.mono e1
    obtain ⟨l, L1, q1, -⟩ := S1.openLL ho
    refine ⟨_, q1, F1, sd, S1, postS_E S1 (PostS.mono e1.ff Lk.refl h1) fun m u F2 H2 e2 b2 h2 => ?_⟩
    have S2 := S1.mono e2
    cases q : rowAt ess m with
    | none => rw [q] at h2; exact h2.elim
    | some je =>
      obtain ⟨j, es⟩ := je
      rw [q] at h2
      obtain ⟨n, rfl, hj, hes⟩ := rowAt_some q
      obtain ⟨l2, L2, q2, hl2, len2, -, -, rows2, -, -⟩ := S2.openLL ho
      rw [q1] at q2
      cases q2
      obtain ⟨bj, hbj⟩ : ∃ bj, L2[j]? = some bj := ⟨L2[j]'(by have := (List.getElem?_eq_some_iff.mp hes).1; omega), List.getElem?_eq_getElem _⟩
      obtain ⟨xs2, hxs2, -⟩ := rows2 j es bj hes hbj
      refine ⟨l, _, n, .ref bj, rfl, bor_int b2, SqL.of hl2, atI_map (by rw [len2]; exact hj) hbj, ?_⟩
      refine ⟨F2, sd, S2, postS_E S2 (PostS.mono e2.ff Lk.refl h2) fun y w F3 H3 e3 b3 h3 => ?_⟩
      have S3 := S2.mono e3
      cases q3 : putAt es y d with
      | none => rw [q3] at h3; exact h3.elim
      | some es' =>
        rw [q3] at h3
        obtain ⟨n3, k3, rfl, hk3, rfl⟩ := putAt_some q3
        obtain ⟨l3, L3, q4, hl3, len3, -, -, rows3, -, put3, -⟩ := S3.openLL ho
        rw [q1] at q4
        cases q4
        have hl3' := e3.hh _ _ hl2
        rw [hl3] at hl3'
        injection hl3' with hl3'
        injection hl3' with hl3'
        have hbj3 : L3[j]? = some bj := by
          have g : (L3.map V.ref)[j]? = (L2.map V.ref)[j]? := by rw [hl3']
          rw [List.getElem?_map, List.getElem?_map, hbj] at g
          cases q5 : L3[j]? with
          | none => rw [q5] at g; cases g
          | some c => rw [q5] at g; cases g; rfl
        obtain ⟨xs3, hxs3, r3⟩ := rows3 j es bj hes hbj3
        refine ⟨bj, xs3, n3, k3, rfl, bor_int b3, hxs3, by rw [r3.length]; exact hk3, ?_⟩
        exact h3 F3 _ σ (put3 j _ bj _ hbj3 (RepL.setI r3 (Rep.mono (e2.ff.trans e3.ff) r1))) e3.ff (lk_ntk ho)
end
/-! ### row = rows[k]: a slot that points into another one's list -/
theorem StR.setNo {C : CT} {F H : Hp} {s s' : SS} {σ : L2.St} {i : Nat} {v : V} (S : StR C F H s σ) (h : setS s i .no = some s') : StR C F H s' (σ.set i (some v)) := by
  obtain ⟨rfl, hi, hl⟩ := setS_some h
  have hiσ : i < σ.length := by rw [← S.len]; exact hi
  have ne : ∀ {j : Nat} {x : Sl}, x ≠ .no → (s.set i .no)[j]? = some x → i ≠ j ∧ s[j]? = some x := fun {j x} hx q => by
    by_cases hij : i = j
    · subst hij
      rw [List.getElem?_set_self hi] at q
      cases q
      exact (hx rfl).elim
    · rw [List.getElem?_set_ne hij] at q
      exact ⟨hij, q⟩
  have ne2 : ∀ {j : Nat} {e : D}, (s.set i .no)[j]? = some (.ow e) ∨ (s.set i .no)[j]? = some (.lk e) → i ≠ j ∧ (s[j]? = some (.ow e) ∨ s[j]? = some (.lk e)) := fun {j e} q => by
    rcases q with q | q
    · exact ⟨(ne (fun z => by cases z) q).1, .inl (ne (fun z => by cases z) q).2⟩
    · exact ⟨(ne (fun z => by cases z) q).1, .inr (ne (fun z => by cases z) q).2⟩
  refine ⟨S.ext, by rw [List.length_set, List.length_set]; exact S.len, fun j e q => ?_, fun j e q => ?_, fun j k e e' b q1 q2 q3 q4 => ?_, S.nt.step (fun j k e q => ?_) (fun j k l q => ?_) (fun j e b q z => ?_) (Same.refl F) fun b o h1 h2 _ => ⟨h1, h2⟩⟩
  · obtain ⟨h1, h2⟩ := ne (fun z => by cases z) q
    rw [List.getElem?_set_ne h1]
    exact S.sh j e h2
  · obtain ⟨h1, h2⟩ := ne2 q
    rw [List.getElem?_set_ne h1]
    exact S.ow j e h2
  · obtain ⟨h1, h2⟩ := ne2 q1
    obtain ⟨h3, h4⟩ := ne2 q2
    rw [List.getElem?_set_ne h1] at q3
    rw [List.getElem?_set_ne h3] at q4
    exact S.dis j k e e' b h2 h4 q3 q4
  · obtain ⟨h1, h2⟩ := ne (fun z => by cases z) q
    rw [List.getElem?_set_ne h1]
    exact ⟨h2, rfl⟩
  · obtain ⟨h1, h2⟩ := ne (fun z => by cases z) q
    rw [List.getElem?_set_ne h1]
    exact ⟨h2, rfl⟩
  · obtain ⟨h1, h2⟩ := ne2 q
    rw [List.getElem?_set_ne h1] at z
    exact .inl ⟨j, e, h2, z⟩
theorem StR.setPt {C : CT} {F H : Hp} {s s' : SS} {σ : L2.St} {i j r : Nat} {kb : Bool} {ess : List (List D)} {a b : Addr} {xs : List V} (S : StR C F H s σ) (hs : s[i]? = some (nll kb ess)) (ha : σ[i]? = some (some (.ref a))) (hx : H a = some (.lst xs)) (hb : xs[j]? = some (.ref b)) (h : setS s r (.pt i j) = some s') : StR C F H s' (σ.set r (some (.ref b))) := by
  obtain ⟨rfl, hi, hl⟩ := setS_some h
  have hiσ : r < σ.length := by rw [← S.len]; exact hi
  have ne : ∀ {j' : Nat} {x : Sl}, (∀ k l, x ≠ .pt k l) → (s.set r (.pt i j))[j']? = some x → r ≠ j' ∧ s[j']? = some x := fun {j' x} hx q => by
    by_cases hij : r = j'
    · subst hij
      rw [List.getElem?_set_self hi] at q
      cases q
      exact (hx _ _ rfl).elim
    · rw [List.getElem?_set_ne hij] at q
      exact ⟨hij, q⟩
  have ne2 : ∀ {j' : Nat} {e : D}, (s.set r (.pt i j))[j']? = some (.ow e) ∨ (s.set r (.pt i j))[j']? = some (.lk e) → r ≠ j' ∧ (s[j']? = some (.ow e) ∨ s[j']? = some (.lk e)) := fun {j' e} q => by
    rcases q with q | q
    · exact ⟨(ne (fun _ _ z => by cases z) q).1, .inl (ne (fun _ _ z => by cases z) q).2⟩
    · exact ⟨(ne (fun _ _ z => by cases z) q).1, .inr (ne (fun _ _ z => by cases z) q).2⟩
  refine ⟨S.ext, by rw [List.length_set, List.length_set]; exact S.len, fun j e q => ?_, fun j e q => ?_, fun j k e e' b q1 q2 q3 q4 => ?_, ?_⟩
  · obtain ⟨h1, h2⟩ := ne (fun _ _ z => by cases z) q
    rw [List.getElem?_set_ne h1]
    exact S.sh _ e h2
  · obtain ⟨h1, h2⟩ := ne2 q
    rw [List.getElem?_set_ne h1]
    exact S.ow _ e h2
  · obtain ⟨h1, h2⟩ := ne2 q1
    obtain ⟨h3, h4⟩ := ne2 q2
    rw [List.getElem?_set_ne h1] at q3
    rw [List.getElem?_set_ne h3] at q4
    exact S.dis _ k e e' b h2 h4 q3 q4
  · obtain ⟨O, g1, g2⟩ := S.nt
    refine ⟨O, fun i' k' d q => ?_, fun j' e b' q z => ?_⟩
    · obtain ⟨h1, h2⟩ := ne (fun _ _ z => by cases z) q
      obtain ⟨a', L, m1, m2, m3, m4, m5⟩ := g1 i' k' d h2
      refine ⟨a', L, by rw [List.getElem?_set_ne h1]; exact m1, m2, m3, m4, fun r' l q' => ?_⟩
      by_cases hr : r = r'
      · subst hr
        rw [List.getElem?_set_self hi] at q'
        cases q'
        rw [hs] at h2
        cases h2
        rw [ha] at m1
        cases m1
        obtain ⟨ys, y1, y2⟩ := m2
        rw [hx] at y1
        cases y1
        have y3 := (ll_iff.mp y2).1
        rw [y3, List.getElem?_map] at hb
        refine ⟨b, ?_, List.getElem?_set_self hiσ⟩
        cases q5 : L[j]? with
        | none => rw [q5] at hb; cases hb
        | some c => rw [q5] at hb; cases hb; rfl
      · rw [List.getElem?_set_ne hr] at q' ⊢
        exact m5 r' l q'
    · obtain ⟨h1, h2⟩ := ne2 q
      rw [List.getElem?_set_ne h1] at z
      exact g2 j' e b' h2 z
section
variable {X : Cx} {C : CT} {W : WX} {a b c e ea eb : Expr} {fa fb fc fe fi f : SS → R D} {pos pos' p p1 p2 p3 apos : Pos} {x y z : Str} {i j r : Nat}
def sPtr (r i : Nat) (fb : SS → R D) : SS → RS := fun s => match ntL s i with
  | some (_, ess) => sE fb (fun m s => match rowAt ess m with
    | some (j, _) => optS (setS s r (.pt i j))
    | none => .bad) s
  | none => .bad
theorem s_ptr (r i : Nat) (hb : PE X b (tB C W fb)) (hN : X.N.Nodup) (hi : X.N[i]? = some x := by rfl) (hv : Vis X.env.scope x := by first | exact Or.inl rfl | exact Or.inr (Or.inl rfl) | exact Or.inr (Or.inr rfl)) (hd : (x == ("__debug__" : Str)) = false := by decide)
    (hcd : (x == ("__classdict__" : Str)) = false := by decide) (hpl : PlainIx b := by exact fun _ _ => rfl) (hr : X.N[r]? = some y := by rfl) (hx : Loc X.env.scope y := by first | exact Or.inl rfl | exact Or.inr rfl) (hs : swapsWith (.Subscript (.Name x p) b p1) (some (.Name y pos')) pos.line X.env = pure false := by rfl)
    (hf : X.fn y = true ∨ X.env.scope.names.lookup y = some .local := by first | exact .inl rfl | exact .inr rfl) : PS X (.Assign [.Name y pos'] (.Subscript (.Name x p) b p1) pos) (tS C W (sPtr r i fb)) := by
  refine ps_imp (ps_set (i := r) hN hr hx (pe_ix ix_list (pe_var (i := i) hi hv hd hcd) hb hpl) hs hf) fun D σ H ⟨F, sd, S, h⟩ => ?_
  unfold sPtr at h
  cases hx : ntL sd i with
  | none => rw [hx] at h; exact h.elim
  | some ke =>
    obtain ⟨kb, ess⟩ := ke
    rw [hx] at h
    have ho := ntL_some hx
    obtain ⟨l, L1, q1, -⟩ := S.openLL ho
    refine ⟨_, q1, F, sd, S, postS_E S h fun m u F2 H2 e2 b2 h2 => ?_⟩
    have S2 := S.mono e2
    cases q : rowAt ess m with
    | none => rw [q] at h2; exact h2.elim
    | some je =>
      obtain ⟨j, es⟩ := je
      rw [q] at h2
      obtain ⟨n, rfl, hj, hes⟩ := rowAt_some q
      obtain ⟨l2, L2, q2, hl2, len2, -⟩ := S2.openLL ho
      rw [q1] at q2
      cases q2
      obtain ⟨bj, hbj⟩ : ∃ bj, L2[j]? = some bj := ⟨L2[j]'(by have := (List.getElem?_eq_some_iff.mp hes).1; omega), List.getElem?_eq_getElem _⟩
      refine ⟨l, _, n, .ref bj, rfl, bor_int b2, SqL.of hl2, atI_map (by rw [len2]; exact hj) hbj, ?_⟩
      dsimp only at h2
      cases q3 : setS sd r (.pt i j) with
      | none => rw [q3] at h2; exact h2.elim
      | some s' =>
        rw [q3] at h2
        exact h2 F2 H2 _ (S2.setPt ho q1 hl2 (by rw [List.getElem?_map, hbj]; rfl) q3) e2.ff (lk_set q3)
/-- what a pointer tells -/
def ptL (s : SS) (r : Nat) : Option (Nat × Nat × Bool × List (List D) × List D) := match s[r]? with
  | some (.pt i j) => (ntL s i).bind fun ke => ke.2[j]?.map fun es => (i, j, ke.1, ke.2, es)
  | _ => none
theorem ptL_some {s : SS} {r i j : Nat} {kb : Bool} {ess : List (List D)} {es : List D} (h : ptL s r = some (i, j, kb, ess, es)) : s[r]? = some (.pt i j) ∧ s[i]? = some (nll kb ess) ∧ ess[j]? = some es := by
  unfold ptL at h
  split at h
  · rename_i i' j' hq
    cases q : ntL s i' with
    | none => rw [q] at h; cases h
    | some ke =>
      obtain ⟨kb', ess'⟩ := ke
      rw [q] at h
      have h : (ess'[j']?.map fun es => (i', j', kb', ess', es)) = some (i, j, kb, ess, es) := h
      cases q2 : ess'[j']? with
      | none => rw [q2] at h; cases h
      | some es' =>
        rw [q2] at h
        cases h
        exact ⟨hq, ntL_some q, q2⟩
  · cases h
def sSetP (r : Nat) (fb fe : SS → R D) : SS → RS := fun s => match ptL s r with
  | some (i, j, kb, ess, es) => sE fe (fun d s => sE fb (fun y s => match putAt es y d with
    | some es' => .nx (s.set i (nll kb (ess.set j es')))
    | none => .bad) s) s
  | none => .bad
theorem s_setP (r : Nat) (hb : PE X b (tB C W fb)) (he : PE X e (tD C W fe)) (hN : X.N[r]? = some x := by rfl) (hv : Vis X.env.scope x := by first | exact Or.inl rfl | exact Or.inr (Or.inl rfl) | exact Or.inr (Or.inr rfl)) (hd : (x == ("__debug__" : Str)) = false := by decide)
    (hcd : (x == ("__classdict__" : Str)) = false := by decide)
    (ha : ∀ v, assign (.Subscript (.Name x p) b pos) X.env v = (do
      let ov ← holding [v] (eval (.Name x p) X.env)
      let iv ← holding [v, ov] (eval b X.env)
      standAt pos
      holding [v, ov, iv] (setItem ov iv v)
      release [v, ov, iv] []) := by intro _; rfl)
    (hs : swapsWithSole [.Subscript (.Name x p) b pos] e pos'.line X.env = pure false := by rfl) (hw : swappedStores [.Subscript (.Name x p) b pos] e X.env = pure none := by rfl)
    (h1 : (assignEach [.Subscript (.Name x p) b pos] X.env).map (·.2) = [assign (.Subscript (.Name x p) b pos) X.env] := by rfl) :
    PS X (.Assign [.Subscript (.Name x p) b pos] e pos') (tS C W (sSetP r fb fe)) := by
  refine ps_imp (ps_asg he (pg_sub (pe_var (i := r) hN hv hd hcd) hb set_list ha) hs hw h1) fun En σ H ⟨F, sd, S, h⟩ => ?_
  unfold sSetP at h
  cases hx : ptL sd r with
  | none => rw [hx] at h; exact h.elim
  | some q =>
    obtain ⟨i, j, kb, ess, es⟩ := q
    rw [hx] at h
    obtain ⟨hp, ho, hes⟩ := ptL_some hx
    refine ⟨F, sd, S, postS_E S h fun d v F1 H1 e1 r1 h1 => ?_⟩
    have S1 := S.mono e1
    obtain ⟨l, L1, q1, hl1, len1, -, -, -, pts1, -, -⟩ := S1.openLL ho
    obtain ⟨bj, hbj, hσ⟩ := pts1 r j hp
    refine ⟨_, hσ, F1, sd, S1, postS_E S1 (PostS.mono e1.ff Lk.refl h1) fun y w F2 H2 e2 b2 h2 => ?_⟩
    have S2 := S1.mono e2
    cases q3 : putAt es y d with
    | none => rw [q3] at h2; exact h2.elim
    | some es' =>
      rw [q3] at h2
      obtain ⟨n3, k3, rfl, hk3, rfl⟩ := putAt_some q3
      obtain ⟨l2, L2, q2, hl2, len2, -, -, rows2, pts2, put2, -⟩ := S2.openLL ho
      obtain ⟨bj2, hbj2, hσ2⟩ := pts2 r j hp
      rw [hσ] at hσ2
      cases hσ2
      obtain ⟨xs2, hxs2, r2⟩ := rows2 j es bj hes hbj2
      refine ⟨bj, xs2, n3, k3, rfl, bor_int b2, hxs2, by rw [r2.length]; exact hk3, ?_⟩
      exact h2 F2 _ σ (put2 j _ bj _ hbj2 (RepL.setI r2 (Rep.mono e2.ff r1))) e2.ff (lk_ntk ho)
def eBrwP (r : Nat) (fe : SS → R D) : SS → R D := fun s => match ptL s r with
  | some (i, j, kb, ess, es) => flR (fe ((s.set i (.sh (.lst (ess.map .lst)))).set r (.sh (.lst es))))
  | none => .bad
theorem s_brwP (r : Nat) (he : PE X e (tD C W fe)) : PE X e (tD C W (eBrwP r fe)) := by
  refine pe_imp he fun σ H Q ⟨F, sd, S, h⟩ => ?_
  unfold eBrwP at h
  cases hx : ptL sd r with
  | none => rw [hx] at h; exact h.elim
  | some q =>
    obtain ⟨i, j, kb, ess, es⟩ := q
    rw [hx] at h
    obtain ⟨hp, ho, hes⟩ := ptL_some hx
    obtain ⟨a, L, k1, k2, k3, k4, k5, k6, k7, k8, k9, k10⟩ := S.openLL ho
    obtain ⟨bj, hbj, hσ⟩ := k7 r j hp
    obtain ⟨xs, hxs, rr⟩ := k6 j es bj hes hbj
    have S1 := k10 (.sh (.lst (ess.map .lst))) (.inr rfl)
    have hir : i ≠ r := fun z => by subst z; rw [ho] at hp; cases hp
    have hrl : r < sd.length := (List.getElem?_eq_some_iff.mp hp).1
    have q1 : setS (sd.set i (.sh (.lst (ess.map .lst)))) r (.sh (.lst es)) = some ((sd.set i (.sh (.lst (ess.map .lst)))).set r (.sh (.lst es))) := by
      unfold setS
      rw [List.getElem?_set_ne hir, hp]
    have g1 : Same F (grow F H (a :: L)) := grow_same fun b m => (k5 b m).2
    have S2 := S1.setSh (v := .ref bj) q1 (rep_lst.mpr ⟨bj, xs, rfl, .inl (.inl (by rw [grow_in (List.mem_cons_of_mem _ (List.mem_of_getElem? hbj))]; exact hxs)), RepL.mono g1 rr⟩)
    have e3 : σ.set r (some (.ref bj)) = σ := by
      refine List.ext_getElem? fun k => ?_
      by_cases hk : r = k
      · subst hk
        rw [List.getElem?_set_self (List.getElem?_eq_some_iff.mp hσ).1, hσ]
      · rw [List.getElem?_set_ne hk]
    rw [e3] at S2
    exact ⟨_, _, S2, flat_post (fun b m => (k5 b m).2) rfl h⟩
end
end
end Z
namespace Z
noncomputable section
open PySem PySem.Spec PySem.P PyProof.Rows L2
/-! ### defs that change their first argument, a nested own object -/
def lessH (H : Hp) (T : List Addr) : Hp := fun b => if b ∈ T then none else H b
theorem lessH_in {H : Hp} {T : List Addr} {b : Addr} (h : b ∈ T) : lessH H T b = none := if_pos h
theorem lessH_out {H : Hp} {T : List Addr} {b : Addr} (h : b ∉ T) : lessH H T b = H b := if_neg h
theorem lessH_same {H : Hp} {T : List Addr} : Same (lessH H T) H := fun b o z => by
  by_cases m : b ∈ T
  · rw [lessH_in m] at z; cases z
  · rw [lessH_out m] at z; exact z
theorem lessH_sub {F H : Hp} {T : List Addr} (s : Same F H) (h : ∀ b ∈ T, F b = none) : Same F (lessH H T) := fun b o z => by
  rw [lessH_out (fun m => by rw [h b m] at z; cases z)]
  exact s _ _ z
/-- a nested object handed to a callee that changes it -/
theorem StR.callNt {C : CT} {F H : Hp} {s : SS} {σ : L2.St} {i : Nat} {k : Bool} {d : D} (S : StR C F H s σ) (hs : s[i]? = some (.nt k d)) (hp : ptFree i s = true) :
    ∃ a L, σ[i]? = some (some (.ref a)) ∧ NtR C.G F H a d L ∧ (a :: L).Nodup ∧ (∀ b ∈ a :: L, C.H0 b = none ∧ F b = none) ∧
      ∀ (F' H' : Hp) (d' : D) (L' : List Addr), Ext F (lessH H (a :: L)) F' H' → NtR C.G F' H' a d' L' → (a :: L').Nodup → (∀ b ∈ a :: L', F' b = none ∧ lessH H (a :: L) b = none) → StR C F' H' (s.set i (.nt k d')) σ := by
  have hi : i < s.length := (List.getElem?_eq_some_iff.mp hs).1
  obtain ⟨O, g1, g2⟩ := S.nt
  obtain ⟨a, L, k1, k2, k3, k4, k5⟩ := g1 i k d hs
  have other : ∀ (j : Nat) (e : D) (b : Addr), s[j]? = some (.ow e) ∨ s[j]? = some (.lk e) → σ[j]? = some (some (.ref b)) → b ∉ a :: L := fun j e b q z m => by
    have h1 := g2 j e b q z
    rw [(k4 b m).2.2.2] at h1
    cases h1
  refine ⟨a, L, k1, k2, k3, fun b m => ⟨(k4 b m).1, (k4 b m).2.1⟩, fun F' H' d' L' e r nd fr => ?_⟩
  have c1 : ∀ b o, H b = some o → b ∉ a :: L → H' b = some o := fun b o z m => e.hh b o (by rw [lessH_out m]; exact z)
  have c2 : ∀ b o, H b = some o → F b = none → b ∉ a :: L → F' b = none := fun b o z1 z2 m => e.ow b o (by rw [lessH_out m]; exact z1) z2
  have new : ∀ b ∈ a :: L', C.H0 b = none := fun b m => by
    by_cases m' : b ∈ a :: L
    · exact (k4 b m').1
    · have := (fr b m).2
      rw [lessH_out m'] at this
      exact S.ext.hh.free this
  have ne : ∀ {j : Nat} {x : Sl}, (∀ k d, x ≠ .nt k d) → (s.set i (.nt k d'))[j]? = some x → i ≠ j ∧ s[j]? = some x := fun {j x} hx q => by
    by_cases hij : i = j
    · subst hij
      rw [List.getElem?_set_self hi] at q
      cases q
      exact (hx _ _ rfl).elim
    · rw [List.getElem?_set_ne hij] at q
      exact ⟨hij, q⟩
  have ne2 : ∀ {j : Nat} {e : D}, (s.set i (.nt k d'))[j]? = some (.ow e) ∨ (s.set i (.nt k d'))[j]? = some (.lk e) → i ≠ j ∧ (s[j]? = some (.ow e) ∨ s[j]? = some (.lk e)) := fun {j e} q => by
    rcases q with q | q
    · exact ⟨(ne (fun _ _ z => by cases z) q).1, .inl (ne (fun _ _ z => by cases z) q).2⟩
    · exact ⟨(ne (fun _ _ z => by cases z) q).1, .inr (ne (fun _ _ z => by cases z) q).2⟩
  have old : ∀ b o, H b = some o → b ∉ a :: L → b ∉ a :: L' := fun b o z m m' => by
    have := (fr b m').2
    rw [lessH_out m, z] at this
    cases this
  refine ⟨⟨S.ext.ff.trans e.ff, fun b o z => ?_, e.fh, fun b o z1 z2 => ?_⟩, by rw [List.length_set]; exact S.len, fun j e' q => ?_, fun j e' q => ?_, fun j k e1 e2 b q1 q2 q3 q4 => ?_, ?_⟩
  · exact c1 b o (S.ext.hh _ _ z) fun m => by have := (k4 b m).1; rw [z] at this; cases this
  · exact c2 b o (S.ext.hh _ _ z1) (S.ext.ow b o z1 z2) fun m => by have := (k4 b m).1; rw [z1] at this; cases this
  · obtain ⟨v, e1, e2⟩ := S.sh j e' (ne (fun _ _ z => by cases z) q).2
    exact ⟨v, e1, Rep.mono e.ff e2⟩
  · obtain ⟨h1, h2⟩ := ne2 q
    obtain ⟨b, e1, e2, e3, e4⟩ := S.ow j e' h2
    have hb := other j e' b h2 e1
    obtain ⟨o, ho⟩ := e4.there
    exact ⟨b, e1, e2, c2 b o ho e3 hb, e4.mono e.ff fun o z => c1 b o z hb⟩
  · exact S.dis j k e1 e2 b (ne2 q1).2 (ne2 q2).2 q3 q4
  · refine ⟨fun b => if b ∈ a :: L' then some i else if b ∈ a :: L then none else O b, fun j k2 e' q => ?_, fun j e' b q z => ?_⟩
    · by_cases hij : i = j
      · subst hij
        rw [List.getElem?_set_self hi] at q
        cases q
        exact ⟨a, L', k1, r, nd, fun b m => ⟨new b m, (fr b m).1, r.there b m, if_pos m⟩, fun r' j' q' => absurd (ne (fun _ _ z => by cases z) q').2 (ptFree_get hp)⟩
      · rw [List.getElem?_set_ne hij] at q
        obtain ⟨a', L2, m1, m2, m3, m4, m5⟩ := g1 j k2 e' q
        have dis : ∀ b ∈ a' :: L2, b ∉ a :: L := fun b m m' => by
          have h1 := (m4 b m).2.2.2
          rw [(k4 b m').2.2.2] at h1
          cases h1
          exact hij rfl
        have m2' : NtR C.G F' H' a' e' L2 := m2.mono e.ff fun b o m z => c1 b o z (dis b m)
        refine ⟨a', L2, m1, m2', m3, fun b m => ⟨(m4 b m).1, ?_, m2'.there b m, ?_⟩, fun r' j' q' => m5 r' j' (ne (fun _ _ z => by cases z) q').2⟩
        · obtain ⟨o, ho⟩ := m2.there b m
          exact c2 b o ho (m4 b m).2.1 (dis b m)
        · obtain ⟨o, ho⟩ := m2.there b m
          show (if b ∈ a :: L' then some i else if b ∈ a :: L then none else O b) = some j
          rw [if_neg (old b o ho (dis b m)), if_neg (dis b m)]
          exact (m4 b m).2.2.2
    · obtain ⟨h1, h2⟩ := ne2 q
      obtain ⟨o, ho⟩ := S.owns j e' b h2 z
      have hb := other j e' b h2 z
      show (if b ∈ a :: L' then some i else if b ∈ a :: L then none else O b) = none
      rw [if_neg (old b o ho hb), if_neg hb]
      exact g2 j e' b h2 z
/-- what a def gives that changes its first argument -/
inductive RM where
  | ok (d d' : D) | ex (c : Nat) (vs : List D) (d' : D) | bad
def nt0 (s : SS) : Option D := match (s[0]? : Option Sl) with
  | some (.nt true d) => some d
  | _ => none
theorem nt0_some {s : SS} {d : D} (h : nt0 s = some d) : s[0]? = some (.nt true d) := by
  unfold nt0 at h
  split at h
  · rename_i e
    cases h
    exact e
  · cases h
def finM : RS → RM
  | .rm d s => (match nt0 s with | some d' => .ok d d' | none => .bad)
  | .nx s => (match nt0 s with | some d' => .ok .non d' | none => .bad)
  | .ex c vs s => (match nt0 s with | some d' => .ex c vs d' | none => .bad)
  | _ => .bad
def runM (m : Nat) (f : SS → RS) : List D → RM
  | d0 :: ds => finM (f (.nt true d0 :: (ds.map Sl.sh ++ List.replicate (m - 1 - ds.length) .no)))
  | [] => .bad
def PostM (G : GE) (F H0 : Hp) (x : Addr) (Q : VK) (E : XK) : RM → Prop
  | .ok d d' => ∀ v F' H' L', Ext F H0 F' H' → Rep G F' d v → NtR G F' H' x d' L' → (x :: L').Nodup → (∀ b ∈ x :: L', F' b = none ∧ H0 b = none) → Q v H'
  | .ex c us d' => ∀ cls dx F' H' L', Ext F H0 F' H' → XR G F' c us cls dx → NtR G F' H' x d' L' → (x :: L').Nodup → (∀ b ∈ x :: L', F' b = none ∧ H0 b = none) → E cls dx H'
  | .bad => False
def spM (G : GE) (n : Nat) (g : List D → RM) : Sp := fun vs H Q E => ∃ F H0 d0 ds x L ws, vs = .ref x :: ws ∧ Same H0 H ∧ (∀ b ∈ x :: L, H0 b = none ∧ F b = none) ∧ Same F H ∧ NtR G F H x d0 L ∧ (x :: L).Nodup ∧ ds.length = n ∧ RepL G F ds ws ∧ PostM G F H0 x Q E (g (d0 :: ds))
theorem start_nt {G : GE} {F H H0 : Hp} {ds : List D} {vs : List V} {N : List Str} {x : Addr} {L : List Addr} {d0 : D} (s0 : Same H0 H) (hx0 : ∀ b ∈ x :: L, H0 b = none ∧ F b = none) (s : Same F H) (r : RepL G F ds vs) (r0 : NtR G F H x d0 L) (nd : (x :: L).Nodup) (hn : ds.length + 1 ≤ N.length) :
    StR ⟨G, F, H0⟩ F H (.nt true d0 :: (ds.map Sl.sh ++ List.replicate (N.length - 1 - ds.length) .no)) (L2.start N (.ref x :: vs)) := by
  have hl := r.length
  have hst : L2.start N (.ref x :: vs) = some (.ref x) :: (vs.map some ++ List.replicate (N.length - (vs.length + 1)) none) := by
    unfold L2.start
    simp
  rw [hst]
  have no : ∀ {i : Nat} {z : Sl}, z ≠ .no → (∀ d, z ≠ .sh d) → (ds.map Sl.sh ++ List.replicate (N.length - 1 - ds.length) Sl.no)[i]? ≠ some z := fun {i z} h1 h2 e => by
    by_cases hi : i < ds.length
    · rw [List.getElem?_append_left (by simpa using hi), List.getElem?_map, List.getElem?_eq_getElem hi] at e
      cases e
      exact h2 _ rfl
    · rw [List.getElem?_append_right (by simpa using hi), List.getElem?_replicate] at e
      split at e <;> cases e
      exact h1 rfl
  have noo : ∀ {i : Nat} {d : D}, ¬ ((Sl.nt true d0 :: (ds.map Sl.sh ++ List.replicate (N.length - 1 - ds.length) Sl.no))[i]? = some (.ow d) ∨ (Sl.nt true d0 :: (ds.map Sl.sh ++ List.replicate (N.length - 1 - ds.length) Sl.no))[i]? = some (.lk d)) := fun {i d} h => by
    cases i with
    | zero => rcases h with h | h <;> cases h
    | succ i =>
      rw [List.getElem?_cons_succ] at h
      rcases h with h | h
      · exact (no (by intro z; cases z) (fun d z => by cases z) h).elim
      · exact (no (by intro z; cases z) (fun d z => by cases z) h).elim
  refine ⟨⟨Same.refl F, s0, s, fun _ _ _ h => h⟩, ?_, fun i d h => ?_, fun i d h => (noo h).elim, fun i j d e a h h' _ _ => (noo h).elim, ?_⟩
  · simp only [List.length_cons, List.length_append, List.length_map, List.length_replicate]
    omega
  · cases i with
    | zero => cases h
    | succ i =>
      rw [List.getElem?_cons_succ] at h
      by_cases hi : i < ds.length
      · rw [List.getElem?_append_left (by simpa using hi), List.getElem?_map, List.getElem?_eq_getElem hi] at h
        cases h
        obtain ⟨v, h1, h2⟩ := r.get (List.getElem?_eq_getElem hi)
        refine ⟨v, ?_, h2⟩
        rw [List.getElem?_cons_succ, List.getElem?_append_left (by simpa [hl] using hi), List.getElem?_map, h1]
        rfl
      · rw [List.getElem?_append_right (by simpa using hi), List.getElem?_replicate] at h
        split at h <;> cases h
  · refine ⟨fun b => some 0, fun i k d h => ?_, fun j e b q _ => (noo q).elim⟩
    cases i with
    | zero =>
      cases h
      refine ⟨x, L, rfl, r0, nd, fun b m => ⟨(hx0 b m).1, (hx0 b m).2, r0.there b m, rfl⟩, fun r' j q => ?_⟩
      cases r' with
      | zero => cases q
      | succ r' =>
        rw [List.getElem?_cons_succ] at q
        exact (no (by intro z; cases z) (fun d z => by cases z) q).elim
    | succ i =>
      rw [List.getElem?_cons_succ] at h
      exact (no (by intro z; cases z) (fun d z => by cases z) h).elim
/-- a callee's end: its first slot's object stands at the same address -/
theorem end_nt {C : CT} {F' H' : Hp} {sd s' : SS} {σ σ' : L2.St} {x : Addr} {d0 d' : D} (S : StR C F' H' s' σ') (l : Lk sd σ s' σ') (h0 : sd[0]? = some (.nt true d0)) (hx : σ[0]? = some (some (.ref x))) (h : nt0 s' = some d') :
    ∃ L', NtR C.G F' H' x d' L' ∧ (x :: L').Nodup ∧ ∀ b ∈ x :: L', F' b = none ∧ C.H0 b = none := by
  obtain ⟨a, L, k1, k2, k3, k4, -⟩ := S.openNt (nt0_some h)
  have := (l.getN h0).2
  rw [k1, hx] at this
  cases this
  exact ⟨L, k2, k3, fun b m => ⟨(k4 b m).2, (k4 b m).1⟩⟩
theorem fn_okM {P : Program} {w : World} {K : PySem.W.Frag} {mg : Str → Option Value} {base : Heap} {G : GE} {x qual : Str} {st : Stmt} {f : Addr} {fd : FuncData} {N ps : List Str} {k n : Nat} {g : List D → RM} {body : SS → RS}
    (Fu : Fun K x qual st f fd) (S : FnScope N ps (defScope st)) (hK : K = G.K) (hps : ps.length = n + 1) (hN : ps.length ≤ N.length)
    (hb : ∀ (cdv : Value) (A : Around) (outer : List PySem.Env) (s : Shared) (H F H0 : Hp) (E : XK), Room k (A.deeper (envOfC qual (defScope st) s.heap.objs.size f cdv)) →
      Pl (cxOf (L2.CX P w) P w K mg base N qual (defScope st) f cdv A outer s H E) ⟨G, F, H0⟩ (fun cls d _ H => E cls d H) →
      PSs (cxOf (L2.CX P w) P w K mg base N qual (defScope st) f cdv A outer s H E) (defBody st) (tS ⟨G, F, H0⟩ (fun cls d _ H => E cls d H) body))
    (hg : ∀ d ds, ds.length = n → runM N.length body (d :: ds) = g (d :: ds)) : FnOk P w K mg base (L2.CX P w) (k + 1) f fd ps (spM G n g) := by
  refine Fu.okX S (fun vs H Q E h => ?_) (fun cdv A outer s H vs Q E hr h => ?_)
  · obtain ⟨F, H0, d0, ds, x, L, ws, rfl, _, _, _, _, _, hl, r, _⟩ := h
    rw [List.length_cons, r.length, hl, hps]
  · obtain ⟨F, H0, d0, ds, x, L, ws, rfl, s0, hx0, sm, r0, nd, hl, r, h⟩ := h
    have tk : Takes (cxOf (L2.CX P w) P w K mg base N qual (defScope st) f cdv A outer s H E) (fun cls d _ H => E cls d H) := takes_of rfl rfl rfl rfl
    have v : Pl (cxOf (L2.CX P w) P w K mg base N qual (defScope st) f cdv A outer s H E) ⟨G, F, H0⟩ (fun cls d _ H => E cls d H) := by
      refine ⟨⟨hK, ?_, tk, ?_⟩, rfl⟩
      · have := hr.un
        show Around.units (A.deeper _) + 65 < _
        omega
      · exact passes_of rfl
    refine ⟨_, hb cdv A outer s H F H0 E hr v, ?_⟩
    have hst := start_nt (N := N) s0 hx0 sm r r0 nd (by omega)
    have h00 : (L2.start N (.ref x :: ws))[0]? = some (some (.ref x)) := by
      unfold L2.start
      rfl
    refine ⟨F, .nt true d0 :: (ds.map Sl.sh ++ List.replicate (N.length - 1 - ds.length) .no), hst, ?_⟩
    have hrun := hg d0 ds hl
    have hne : g (d0 :: ds) ≠ .bad := fun z => by rw [z] at h; exact h
    unfold runM at hrun
    dsimp only at hrun
    cases q : body (.nt true d0 :: (ds.map Sl.sh ++ List.replicate (N.length - 1 - ds.length) .no)) with
    | nx s' =>
      rw [q] at hrun
      have hrun : (match nt0 s' with | some d' => RM.ok .non d' | none => .bad) = g (d0 :: ds) := hrun
      cases q2 : nt0 s' with
      | none => rw [q2] at hrun; exact (hne hrun.symm).elim
      | some d' =>
        rw [q2] at hrun
        dsimp only at hrun
        rw [← hrun] at h
        intro F' H' σ' S' f' l'
        obtain ⟨L', e1, e2, e3⟩ := end_nt S' l' rfl h00 q2
        exact h .non F' H' L' S'.ext (rep_non.mpr rfl) e1 e2 e3
    | rm d s' =>
      rw [q] at hrun
      have hrun : (match nt0 s' with | some d' => RM.ok d d' | none => .bad) = g (d0 :: ds) := hrun
      cases q2 : nt0 s' with
      | none => rw [q2] at hrun; exact (hne hrun.symm).elim
      | some d' =>
        rw [q2] at hrun
        dsimp only at hrun
        rw [← hrun] at h
        intro u F' H' σ' S' f' l' r'
        obtain ⟨L', e1, e2, e3⟩ := end_nt S' l' rfl h00 q2
        exact h u F' H' L' S'.ext r' e1 e2 e3
    | ex c vs s' =>
      rw [q] at hrun
      have hrun : (match nt0 s' with | some d' => RM.ex c vs d' | none => .bad) = g (d0 :: ds) := hrun
      cases q2 : nt0 s' with
      | none => rw [q2] at hrun; exact (hne hrun.symm).elim
      | some d' =>
        rw [q2] at hrun
        dsimp only at hrun
        rw [← hrun] at h
        intro cls dx F' H' σ' S' f' l' xr
        obtain ⟨L', e1, e2, e3⟩ := end_nt S' l' rfl h00 q2
        exact h cls dx F' H' L' S'.ext xr e1 e2 e3
    | rt b d => rw [q] at hrun; exact (hne hrun.symm).elim
    | rn j s' => rw [q] at hrun; exact (hne hrun.symm).elim
    | bk s' => rw [q] at hrun; exact (hne hrun.symm).elim
    | ct s' => rw [q] at hrun; exact (hne hrun.symm).elim
    | bad => rw [q] at hrun; exact (hne hrun.symm).elim
structure KnM (P : Program) (w : World) (K : PySem.W.Frag) (mg : Str → Option Value) (base : Heap) (G : GE) (x : Str) (n : Nat) (g : List D → RM) (k : Nat) : Prop where
  ex : ∃ f fd ps, FnOk P w K mg base (L2.CX P w) k f fd ps (spM G n g) ∧ mg x = some (.ref f) ∧ PySem.W.keepIn K (.ref f) = true ∧ Binds K fd ps []
theorem kn_mkM {P : Program} {w : World} {K : PySem.W.Frag} {mg : Str → Option Value} {base : Heap} {G : GE} {x : Str} {f : Addr} {fd : FuncData} {ps : List Str} {n k : Nat} {g : List D → RM} (h : FnOk P w K mg base (L2.CX P w) k f fd ps (spM G n g))
    (hm : mg x = some (.ref f)) (hk : PySem.W.keepIn K (.ref f) = true) (hb : Binds K fd ps []) : KnM P w K mg base G x n g k := ⟨⟨f, fd, ps, h, hm, hk, hb⟩⟩
section
variable {X : Cx} {C : CT} {W : WX} {a b c e : Expr} {fa fb fc fe fi f : SS → R D} {pos pos' p p1 p2 px py pz pf apos : Pos} {x y z xf : Str} {i j r k n : Nat} {fs : SS → R (List D)}
/-- return e, with the state -/
def sRetM (fe : SS → R D) : SS → RS := sE fe fun d s => .rm d s
theorem s_retm (he : PE X e (tD C W fe)) : PS X (.Return (some e) pos) (tS C W (sRetM fe)) := by
  refine ps_imp (ps_ret he) fun D σ H ⟨F, sd, S, h⟩ => ?_
  exact ⟨F, sd, S, postS_E S h fun d v F1 H1 e1 r h1 => h1 v F1 H1 σ (S.mono e1) e1.ff Lk.refl r⟩
/-! ### a call that changes a slot's nested object -/
def ntD (s : SS) (i : Nat) : Option (Bool × D) := match (s[i]? : Option Sl) with
  | some (.nt k d) => some (k, d)
  | _ => none
theorem ntD_some {s : SS} {i : Nat} {k : Bool} {d : D} (h : ntD s i = some (k, d)) : s[i]? = some (.nt k d) := by
  unfold ntD at h
  split at h
  · rename_i e
    cases h
    exact e
  · cases h
/-- the call's result and the slot's new object -/
def callM (i : Nat) (g : List D → RM) (fs : SS → R (List D)) (s : SS) : RS := match ntD s i with
  | some (k, d0) => if ptFree i s = true then (match fs s with
    | .ok ds => (match g (d0 :: ds) with
      | .ok d d' => .rm d (s.set i (.nt k d'))
      | .ex c vs d' => .ex c vs (s.set i (.nt k d'))
      | .bad => .bad)
    | .ex c vs => .ex c vs s
    | .bad => .bad) else .bad
  | none => .bad
/-- an expression that changes the state -/
def PostX (C : CT) (W : WX) (F : Hp) (sd : SS) (σ : L2.St) (Q : VK) : RS → Prop
  | .rm d s' => ∀ v F' H', StR C F' H' s' σ → Same F F' → Lk sd σ s' σ → Rep C.G F' d v → Q v H'
  | .ex c vs s' => ∀ cls dx F' H', StR C F' H' s' σ → Same F F' → Lk sd σ s' σ → XR C.G F' c vs cls dx → W cls dx σ H'
  | _ => False
def tX (C : CT) (W : WX) (f : SS → RS) : TE := fun σ H Q => ∃ F sd, StR C F H sd σ ∧ PostX C W F sd σ Q (f sd)
theorem paired_rep {F H : Hp} {ds : List D} {vs : List V} (h : Paired (pD C F H) ds vs) : RepL C.G F ds vs := by
  induction h with
  | nil => exact RepL.nil
  | cons p t ih => exact RepL.cons p ih
theorem s_callX {g : List D → RM} {es : List Expr} (v : Pq X C W) (i : Nat) (F : KnM X.prog X.w X.K X.mg X.base C.G xf n g k) (hr : Room k X.A) (hg : Gl X xf) (hn : ∀ s ds, fs s = .ok ds → ds.length = n) (hs : PA X es (tA C W fs)) (hN : X.N[i]? = some x := by rfl) (hv : Vis X.env.scope x := by first | exact Or.inl rfl | exact Or.inr (Or.inl rfl) | exact Or.inr (Or.inr rfl)) (hd : (x == ("__debug__" : Str)) = false := by decide)
    (hcd : (x == ("__classdict__" : Str)) = false := by decide) (hdb : (xf == ("__debug__" : Str)) = false := by decide)
    (he : starEach (.Name x px :: es) X.env = (false, eval (.Name x px) X.env) :: starEach es X.env := by rfl) (hpl : (backTo pos (starEach es X.env)).any (·.1) = false := by rfl) : PE X (.Call (.Name xf pf) (.Name x px :: es) [] pos) (tX C W (callM i g fs)) := by
  obtain ⟨f, fd, ps, F1, F2, F3, F4⟩ := F.ex
  refine pe_imp (pe_callS F1 hr hg F2 F3 F4 (fun σ => passAt v.tk σ) (pa_cons (pe_var (i := i) hN hv hd hcd) hs he) hdb he hpl) fun σ H Q ⟨F, sd, S, h⟩ => ?_
  unfold callM at h
  cases q1 : ntD sd i with
  | none => rw [q1] at h; exact h.elim
  | some kd =>
    obtain ⟨kb, d0⟩ := kd
    rw [q1] at h
    dsimp only at h
    by_cases hp : ptFree i sd = true
    · rw [if_pos hp] at h
      have ho := ntD_some q1
      obtain ⟨a, L, k1, -⟩ := S.callNt ho hp
      refine ⟨_, k1, F, sd, S, ?_⟩
      cases q2 : fs sd with
      | ok ds =>
        rw [q2] at h
        dsimp only at h
        intro vs F2' H2 e2 pr
        have S2 := S.mono e2
        obtain ⟨a2, L2, m1, m2, m3, m4, m5⟩ := S2.callNt ho hp
        rw [k1] at m1
        cases m1
        refine ⟨F2', lessH H2 (a :: L2), d0, ds, a, L2, vs, rfl, lessH_same, fun b m => ⟨lessH_in m, (m4 b m).2⟩, e2.fh, m2, m3, hn _ _ q2, ?_, ?_⟩
        · exact paired_rep pr
        · cases q3 : g (d0 :: ds) with
          | ok d d' =>
            rw [q3] at h
            exact fun v F' H' L' e r nr nd fr => h v F' H' (m5 F' H' d' L' e nr nd fr) (e2.ff.trans e.ff) (lk_ntk ho) r
          | ex c us d' =>
            rw [q3] at h
            exact fun cls dx F' H' L' e x nr nd fr => h cls dx F' H' (m5 F' H' d' L' e nr nd fr) (e2.ff.trans e.ff) (lk_ntk ho) x
          | bad => rw [q3] at h; exact h.elim
      | ex c us =>
        rw [q2] at h
        exact fun cls dx F' H' e x => h cls dx F' H' (S.mono e) e.ff Lk.refl x
      | bad => rw [q2] at h; exact h.elim
    · rw [if_neg hp] at h
      exact h.elim
/-! statements with such a call -/
def xE (f : SS → RS) (k : D → SS → RS) : SS → RS := fun s => match f s with
  | .rm d s' => k d s'
  | .ex c vs s' => .ex c vs s'
  | _ => .bad
theorem postS_X {f : SS → RS} {F H : Hp} {sd : SS} {σ : L2.St} {En : Ends} {k : D → SS → RS} {Q : VK} (S : StR C F H sd σ) (h : PostS C W F sd σ En (xE f k sd))
    (hk : ∀ d v s' F1 H1, StR C F1 H1 s' σ → Same F F1 → Lk sd σ s' σ → Rep C.G F1 d v → PostS C W F1 s' σ En (k d s') → Q v H1) : PostX C W F sd σ Q (f sd) := by
  unfold xE at h
  cases q : f sd with
  | rm d s' =>
    rw [q] at h
    exact fun v F' H' S' f' l' r => hk d v s' F' H' S' f' l' r (PostS.mono f' l' h)
  | ex c vs s' =>
    rw [q] at h
    exact fun cls dx F' H' S' f' l' x => h cls dx F' H' σ S' f' l' x
  | nx s => rw [q] at h; exact h.elim
  | rt b d => rw [q] at h; exact h.elim
  | bk s => rw [q] at h; exact h.elim
  | ct s => rw [q] at h; exact h.elim
  | rn j s => rw [q] at h; exact h.elim
  | bad => rw [q] at h; exact h.elim
/-- the call alone -/
def sExpX (f : SS → RS) : SS → RS := xE f fun _ s => .nx s
theorem s_expX {f : SS → RS} (he : PE X e (tX C W f)) (hs : swapsWith e none pos.line X.env = pure false := by rfl) : PS X (.Expr e pos) (tS C W (sExpX f)) := by
  refine ps_imp (ps_expr he hs) fun D σ H ⟨F, sd, S, h⟩ => ?_
  exact ⟨F, sd, S, postS_X S h fun d v s' F1 H1 S1 f1 l1 r1 h1 => h1 F1 H1 σ S1 (Same.refl _) Lk.refl⟩
/-- name = the call -/
def sAsgX (i : Nat) (f : SS → RS) : SS → RS := xE f fun d s => optS (setS s i (.sh d))
theorem s_asgX {f : SS → RS} (i : Nat) (he : PE X e (tX C W f)) (hN : X.N.Nodup) (hi : X.N[i]? = some x := by rfl) (hx : Loc X.env.scope x := by first | exact Or.inl rfl | exact Or.inr rfl) (hs : swapsWith e (some (.Name x pos')) pos.line X.env = pure false := by rfl)
    (hf : X.fn x = true ∨ X.env.scope.names.lookup x = some .local := by first | exact .inl rfl | exact .inr rfl) : PS X (.Assign [.Name x pos'] e pos) (tS C W (sAsgX i f)) := by
  refine ps_imp (ps_set (i := i) hN hi hx he hs hf) fun D σ H ⟨F, sd, S, h⟩ => ?_
  refine ⟨F, sd, S, postS_X S h fun d v s' F1 H1 S1 f1 l1 r1 h1 => ?_⟩
  cases q : setS s' i (.sh d) with
  | none => rw [q] at h1; exact h1.elim
  | some s2 =>
    rw [q] at h1
    exact h1 F1 H1 _ (S1.setSh q r1) (Same.refl _) (lk_set q)
/-- name = y * the call -/
def sMulX (i j : Nat) (f : SS → RS) : SS → RS := fun s => match (s[j]? : Option Sl) with
  | some (.sh (.int m)) => xE f (fun d s => sE (fun _ => mulD (.int m) d) (fun d s => optS (setS s i (.sh d))) s) s
  | _ => .bad
theorem s_mulX {f : SS → RS} (v : Pq X C W) (i j : Nat) (he : PE X e (tX C W f)) (hN : X.N.Nodup) (hj : X.N[j]? = some y := by rfl) (hvy : Vis X.env.scope y := by first | exact Or.inl rfl | exact Or.inr (Or.inl rfl) | exact Or.inr (Or.inr rfl)) (hdy : (y == ("__debug__" : Str)) = false := by decide)
    (hcy : (y == ("__classdict__" : Str)) = false := by decide) (hi : X.N[i]? = some x := by rfl) (hx : Loc X.env.scope x := by first | exact Or.inl rfl | exact Or.inr rfl) (hs : swapsWith (.BinOp (.Name y py) .Mult e p1) (some (.Name x pos')) pos.line X.env = pure false := by rfl)
    (hf : X.fn x = true ∨ X.env.scope.names.lookup x = some .local := by first | exact .inl rfl | exact .inr rfl) : PS X (.Assign [.Name x pos'] (.BinOp (.Name y py) .Mult e p1) pos) (tS C W (sMulX i j f)) := by
  refine ps_imp (ps_set (i := i) hN hi hx (pe_op (op_mulD v.K) (pe_var (i := j) hj hvy hdy hcy) he) hs hf) fun D σ H ⟨F, sd, S, h⟩ => ?_
  unfold sMulX at h
  split at h
  · rename_i m hm
    obtain ⟨u, e1, e2⟩ := S.sh j _ hm
    have := rep_int.mp e2
    subst this
    refine ⟨_, e1, F, sd, S, postS_X S h fun d v s' F1 H1 S1 f1 l1 r1 h1 => ?_⟩
    refine ⟨F1, .int m, d, S1.fh, .inl (rep_int.mpr rfl), .inl r1, ?_⟩
    unfold sE at h1
    cases q : mulD (.int m) d with
    | ok d2 =>
      rw [q] at h1
      dsimp only at h1
      intro v2 F2 H2 x2 r2
      cases q2 : setS s' i (.sh d2) with
      | none => rw [q2] at h1; exact h1.elim
      | some s2 =>
        rw [q2] at h1
        exact h1 F2 H2 _ ((S1.mono x2).setSh q2 r2) x2.ff (lk_set q2)
    | ex c vs => exact absurd q (mulD_ne _ _ _ _)
    | bad => rw [q] at h1; exact h1.elim
  · exact h.elim
end
end
end Z
namespace Z
noncomputable section
open PySem PySem.Spec PySem.P PyProof.Rows L2
/-! ### row = rows[p]; rows[p] = rows[q]; rows[q] = row -/
theorem nodup_of {α : Type} {L : List α} (h : ∀ (i j : Nat) (b : α), L[i]? = some b → L[j]? = some b → i = j) : L.Nodup := by
  refine List.pairwise_iff_getElem.mpr fun i j hi hj hij e => ?_
  have := h i j L[i] (List.getElem?_eq_getElem hi) (by rw [e]; exact List.getElem?_eq_getElem hj)
  omega
def swp (j l t : Nat) : Nat := if t = l then j else if t = j then l else t
theorem swp_inj {j l t u : Nat} (h : swp j l t = swp j l u) : t = u := by
  unfold swp at h
  split at h <;> split at h <;> (try split at h) <;> (try split at h) <;> omega
theorem set2_get {α : Type} {L : List α} {j l : Nat} {x y : α} (hj : L[j]? = some x) (hl : L[l]? = some y) (t : Nat) : ((L.set j y).set l x)[t]? = L[swp j l t]? := by
  have h1 := (List.getElem?_eq_some_iff.mp hj).1
  have h2 := (List.getElem?_eq_some_iff.mp hl).1
  unfold swp
  by_cases c : t = l
  · subst c
    rw [if_pos rfl, List.getElem?_set_self (by rw [List.length_set]; exact h2), hj]
  · rw [if_neg c, List.getElem?_set_ne (by omega)]
    by_cases c2 : t = j
    · subst c2
      rw [if_pos rfl, List.getElem?_set_self h1, hl]
    · rw [if_neg c2, List.getElem?_set_ne (by omega)]
def intS (s : SS) (j : Nat) : Option Int := match (s[j]? : Option Sl) with
  | some (.sh (.int m)) => some m
  | _ => none
theorem intS_some {s : SS} {j : Nat} {m : Int} (h : intS s j = some m) : s[j]? = some (.sh (.int m)) := by
  unfold intS at h
  split at h
  · rename_i e
    cases h
    exact e
  · cases h
def sSwap (i jp jq r : Nat) : SS → RS := fun s => match ntL s i, intS s jp, intS s jq with
  | some (kb, ess), some m, some n => (match rowAt ess (.int m), rowAt ess (.int n) with
    | some (j, es), some (l, fs) => if ptFree i s = true then optS (setS (s.set i (nll kb ((ess.set j fs).set l es))) r .no) else .bad
    | _, _ => .bad)
  | _, _, _ => .bad
section
variable {X : Cx} {C : CT} {W : WX} {f' : SS → RS} {x y p q : Str} {i jp jq r : Nat} {rest : List Stmt} {p1 p2 p3 p4 p5 p6 p7 p8 p9 pa pb pc pd pe pf : Pos}
theorem ss_swap (i jp jq r : Nat) (hr : PSs X rest (tS C W f')) (hN : X.N.Nodup) (hi : X.N[i]? = some x := by rfl) (hp : X.N[jp]? = some p := by rfl) (hq : X.N[jq]? = some q := by rfl) (hrN : X.N[r]? = some y := by rfl) (n1 : i ≠ r := by decide) (n2 : jp ≠ r := by decide) (n3 : jq ≠ r := by decide)
    (hv : Vis X.env.scope x := by first | exact Or.inl rfl | exact Or.inr (Or.inl rfl) | exact Or.inr (Or.inr rfl)) (hd : (x == ("__debug__" : Str)) = false := by decide) (hcd : (x == ("__classdict__" : Str)) = false := by decide)
    (hvp : Vis X.env.scope p := by first | exact Or.inl rfl | exact Or.inr (Or.inl rfl) | exact Or.inr (Or.inr rfl)) (hdp : (p == ("__debug__" : Str)) = false := by decide) (hcp : (p == ("__classdict__" : Str)) = false := by decide)
    (hvq : Vis X.env.scope q := by first | exact Or.inl rfl | exact Or.inr (Or.inl rfl) | exact Or.inr (Or.inr rfl)) (hdq : (q == ("__debug__" : Str)) = false := by decide) (hcq : (q == ("__classdict__" : Str)) = false := by decide)
    (hvy : Vis X.env.scope y := by first | exact Or.inl rfl | exact Or.inr (Or.inl rfl) | exact Or.inr (Or.inr rfl)) (hdy : (y == ("__debug__" : Str)) = false := by decide) (hcy : (y == ("__classdict__" : Str)) = false := by decide)
    (hly : Loc X.env.scope y := by first | exact Or.inl rfl | exact Or.inr rfl)
    (hs1 : swapsWith (.Subscript (.Name x p1) (.Name p p2) p3) (some (.Name y p4)) p5.line X.env = pure false := by rfl)
    (hf : X.fn y = true ∨ X.env.scope.names.lookup y = some .local := by first | exact .inl rfl | exact .inr rfl)
    (ha2 : ∀ v, assign (.Subscript (.Name x p6) (.Name p p7) p8) X.env v = (do
      let ov ← holding [v] (eval (.Name x p6) X.env)
      let iv ← holding [v, ov] (eval (.Name p p7) X.env)
      standAt p8
      holding [v, ov, iv] (setItem ov iv v)
      release [v, ov, iv] []) := by intro _; rfl)
    (hs2 : swapsWithSole [.Subscript (.Name x p6) (.Name p p7) p8] (.Subscript (.Name x p9) (.Name q pa) pb) pc.line X.env = pure false := by rfl) (hw2 : swappedStores [.Subscript (.Name x p6) (.Name p p7) p8] (.Subscript (.Name x p9) (.Name q pa) pb) X.env = pure none := by rfl)
    (h12 : (assignEach [.Subscript (.Name x p6) (.Name p p7) p8] X.env).map (·.2) = [assign (.Subscript (.Name x p6) (.Name p p7) p8) X.env] := by rfl)
    {q1 q2 q3 q4 q5 : Pos}
    (ha3 : ∀ v, assign (.Subscript (.Name x q1) (.Name q q2) q3) X.env v = (do
      let ov ← holding [v] (eval (.Name x q1) X.env)
      let iv ← holding [v, ov] (eval (.Name q q2) X.env)
      standAt q3
      holding [v, ov, iv] (setItem ov iv v)
      release [v, ov, iv] []) := by intro _; rfl)
    (hs3 : swapsWithSole [.Subscript (.Name x q1) (.Name q q2) q3] (.Name y q4) q5.line X.env = pure false := by rfl) (hw3 : swappedStores [.Subscript (.Name x q1) (.Name q q2) q3] (.Name y q4) X.env = pure none := by rfl)
    (h13 : (assignEach [.Subscript (.Name x q1) (.Name q q2) q3] X.env).map (·.2) = [assign (.Subscript (.Name x q1) (.Name q q2) q3) X.env] := by rfl) :
    PSs X (.Assign [.Name y p4] (.Subscript (.Name x p1) (.Name p p2) p3) p5 :: .Assign [.Subscript (.Name x p6) (.Name p p7) p8] (.Subscript (.Name x p9) (.Name q pa) pb) pc :: .Assign [.Subscript (.Name x q1) (.Name q q2) q3] (.Name y q4) q5 :: rest) (tS C W (sSeq (sSwap i jp jq r) f')) := by
  refine pss_imp (pss_cons (ps_set (i := r) hN hrN hly (pe_ix ix_list (pe_var (i := i) hi hv hd hcd) (pe_var (i := jp) hp hvp hdp hcp) (fun _ _ => rfl)) hs1 hf)
    (pss_cons (ps_asg (pe_ix ix_list (pe_var (i := i) hi hv hd hcd) (pe_var (i := jq) hq hvq hdq hcq) (fun _ _ => rfl)) (pg_sub (pe_var (i := i) hi hv hd hcd) (pe_var (i := jp) hp hvp hdp hcp) set_list ha2) hs2 hw2 h12)
      (pss_cons (ps_asg (pe_var (i := r) hrN hvy hdy hcy) (pg_sub (pe_var (i := i) hi hv hd hcd) (pe_var (i := jq) hq hvq hdq hcq) set_list ha3) hs3 hw3 h13) hr))) fun En σ H ⟨F, sd, S, h⟩ => ?_
  unfold sSeq sSwap at h
  cases e1 : ntL sd i with
  | none => rw [e1] at h; exact h.elim
  | some ke =>
    obtain ⟨kb, ess⟩ := ke
    cases e2 : intS sd jp with
    | none => rw [e1, e2] at h; exact h.elim
    | some m =>
      cases e3 : intS sd jq with
      | none => rw [e1, e2, e3] at h; exact h.elim
      | some n =>
        rw [e1, e2, e3] at h
        dsimp only at h
        cases e4 : rowAt ess (.int m) with
        | none => rw [e4] at h; exact h.elim
        | some je =>
          obtain ⟨j, es⟩ := je
          cases e5 : rowAt ess (.int n) with
          | none => rw [e4, e5] at h; exact h.elim
          | some lf =>
            obtain ⟨l, fs⟩ := lf
            rw [e4, e5] at h
            dsimp only at h
            by_cases hpf : ptFree i sd = true
            · rw [if_pos hpf] at h
              obtain ⟨m', em, hj, hes⟩ := rowAt_some e4
              cases em
              obtain ⟨n', en, hl, hfs⟩ := rowAt_some e5
              cases en
              have ho := ntL_some e1
              obtain ⟨a, L, k1, k2, k3, k4, k5, k6, k7, k8, k9, -⟩ := S.openLL ho
              obtain ⟨vp, vp1, vp2⟩ := S.sh jp _ (intS_some e2)
              obtain ⟨vq, vq1, vq2⟩ := S.sh jq _ (intS_some e3)
              have := rep_int.mp vp2
              subst this
              have := rep_int.mp vq2
              subst this
              have hjL := (List.getElem?_eq_some_iff.mp hes).1
              have hlL := (List.getElem?_eq_some_iff.mp hfs).1
              obtain ⟨bj, hbj⟩ : ∃ b, L[j]? = some b := ⟨L[j]'(by omega), List.getElem?_eq_getElem _⟩
              obtain ⟨bl, hbl⟩ : ∃ b, L[l]? = some b := ⟨L[l]'(by omega), List.getElem?_eq_getElem _⟩
              have hrl : r < σ.length := by
                cases q0 : setS (sd.set i (nll kb ((ess.set j fs).set l es))) r .no with
                | none => rw [q0] at h; exact h.elim
                | some s' =>
                  have := (setS_some q0).2.1
                  rw [List.length_set, S.len] at this
                  exact this
              have i1 : ixN (L.map V.ref).length m = some j := by rw [List.length_map, k3]; exact hj
              have i2 : ixN (L.map V.ref).length n = some l := by rw [List.length_map, k3]; exact hl
              refine ⟨_, k1, _, vp1, a, _, m, .ref bj, rfl, rfl, SqL.of k2, atI_map (by rw [k3]; exact hj) hbj, ?_⟩
              have g : ∀ {t : Nat}, t ≠ r → (σ.set r (some (.ref bj)))[t]? = σ[t]? := fun {t} ht => List.getElem?_set_ne (Ne.symm ht)
              refine ⟨_, (g n1).trans k1, _, (g n3).trans vq1, a, _, n, .ref bl, rfl, rfl, SqL.of k2, atI_map (by rw [k3]; exact hl) hbl, ?_⟩
              refine ⟨_, (g n1).trans k1, _, (g n2).trans vp1, a, _, m, j, rfl, rfl, k2, i1, ?_⟩
              refine ⟨_, List.getElem?_set_self hrl, _, (g n1).trans k1, _, (g n3).trans vq1, a, _, n, l, rfl, rfl, upd_same, by rw [List.length_set]; exact i2, ?_⟩
              have S2 := k9 (upd (upd H a (.lst ((L.map V.ref).set j (.ref bl)))) a (.lst (((L.map V.ref).set j (.ref bl)).set l (.ref bj)))) ((ess.set j fs).set l es) ((L.set j bl).set l bj)
                (fun b o z mm => by
                  have hb : b ≠ a := fun z2 => mm (by rw [z2]; exact List.mem_cons_self ..)
                  rw [upd_ne hb, upd_ne hb]; exact z)
                (by rw [upd_same, List.map_set, List.map_set]) (by rw [List.length_set, List.length_set, List.length_set, List.length_set]; exact k3)
                (fun t es' b h1 h2 => by
                  rw [set2_get hes hfs] at h1
                  rw [set2_get hbj hbl] at h2
                  obtain ⟨xs, x1, x2⟩ := k6 _ es' b h1 h2
                  have hb : b ≠ a := fun z2 => by subst z2; exact (List.nodup_cons.mp k4).1 (List.mem_of_getElem? h2)
                  exact ⟨xs, by rw [upd_ne hb, upd_ne hb]; exact x1, x2⟩)
                (by
                  refine List.nodup_cons.mpr ⟨fun mm => ?_, nodup_of fun t u b h1 h2 => ?_⟩
                  · obtain ⟨t, ht⟩ := List.mem_iff_getElem?.mp mm
                    rw [set2_get hbj hbl] at ht
                    exact (List.nodup_cons.mp k4).1 (List.mem_of_getElem? ht)
                  · rw [set2_get hbj hbl] at h1 h2
                    exact swp_inj (nodup_ix (List.nodup_cons.mp k4).2 h1 h2))
                (fun b mm => by
                  obtain ⟨t, ht⟩ := List.mem_iff_getElem?.mp mm
                  rw [set2_get hbj hbl] at ht
                  exact List.mem_of_getElem? ht) hpf
              cases q0 : setS (sd.set i (nll kb ((ess.set j fs).set l es))) r .no with
              | none => rw [q0] at h; exact h.elim
              | some s' =>
                rw [q0] at h
                have h : PostS C W F sd σ En (f' s') := h
                exact ⟨F, s', S2.setNo q0, PostS.mono (Same.refl F) ((lk_ntk ho).trans (lk_set q0)) h⟩
            · rw [if_neg hpf] at h
              exact h.elim
end
/-- a def that gives nothing keeps every promise of nothing -/
theorem fn_bad {P : Program} {w : World} {K : PySem.W.Frag} {mg : Str → Option Value} {base : Heap} {G : GE} {x qual : Str} {st : Stmt} {f : Addr} {fd : FuncData} {N ps : List Str} {k n : Nat} {fr : Bool}
    (Fu : Fun K x qual st f fd) (S : FnScope N ps (defScope st)) (hps : ps.length = n) : FnOk P w K mg base (L2.CX P w) (k + 1) f fd ps (spD G n (fun _ => .bad) fr) :=
  Fu.okX S (fun vs H Q E h => by
    obtain ⟨F, ds, _, _, _, h⟩ := h
    exact h.elim) (fun cdv A outer s H vs Q E hr h => by
    obtain ⟨F, ds, _, _, _, h⟩ := h
    exact h.elim)
/-! tests over lent lists -/
theorem flat_postT {C : CT} {W : WX} {F F1 H : Hp} {σ : L2.St} {T : List Addr} {Q : Bool → Hp → Prop} {q : R D} (h0 : ∀ b ∈ T, F b = none) (hF : F1 = grow F H T) (h : PostT C W F H σ Q (flR q)) : PostT C W F1 H σ Q q := by
  subst hF
  cases q with
  | ok d =>
    unfold flR at h
    dsimp only at h
    split at h
    · cases d with
      | bl b => exact fun F' H' e => h _ H' (Ext.ungrow h0 e)
      | _ => exact h.elim
    · exact h.elim
  | ex c vs => exact h.elim
  | bad => exact h.elim
section
variable {X : Cx} {C : CT} {W : WX} {e : Expr} {fe : SS → R D}
theorem t_brwN (i : Nat) (he : PT X e (tT C W fe)) : PT X e (tT C W (eBrwN i fe)) := by
  refine pt_imp he fun σ H Q ⟨F, sd, S, h⟩ => ?_
  unfold eBrwN at h
  cases hx : ntL sd i with
  | none => rw [hx] at h; exact h.elim
  | some ke =>
    obtain ⟨kb, ess⟩ := ke
    rw [hx] at h
    obtain ⟨a, L, k1, k2, k3, k4, k5, k6, k7, k8, k9, k10⟩ := S.openLL (ntL_some hx)
    exact ⟨_, _, k10 _ (.inr rfl), flat_postT (fun b m => (k5 b m).2) rfl h⟩
theorem t_brwP (r : Nat) (he : PT X e (tT C W fe)) : PT X e (tT C W (eBrwP r fe)) := by
  refine pt_imp he fun σ H Q ⟨F, sd, S, h⟩ => ?_
  unfold eBrwP at h
  cases hx : ptL sd r with
  | none => rw [hx] at h; exact h.elim
  | some q =>
    obtain ⟨i, j, kb, ess, es⟩ := q
    rw [hx] at h
    obtain ⟨hp, ho, hes⟩ := ptL_some hx
    obtain ⟨a, L, k1, k2, k3, k4, k5, k6, k7, k8, k9, k10⟩ := S.openLL ho
    obtain ⟨bj, hbj, hσ⟩ := k7 r j hp
    obtain ⟨xs, hxs, rr⟩ := k6 j es bj hes hbj
    have S1 := k10 (.sh (.lst (ess.map .lst))) (.inr rfl)
    have hir : i ≠ r := fun z => by subst z; rw [ho] at hp; cases hp
    have q1 : setS (sd.set i (.sh (.lst (ess.map .lst)))) r (.sh (.lst es)) = some ((sd.set i (.sh (.lst (ess.map .lst)))).set r (.sh (.lst es))) := by
      unfold setS
      rw [List.getElem?_set_ne hir, hp]
    have g1 : Same F (grow F H (a :: L)) := grow_same fun b m => (k5 b m).2
    have S2 := S1.setSh (v := .ref bj) q1 (rep_lst.mpr ⟨bj, xs, rfl, .inl (.inl (by rw [grow_in (List.mem_cons_of_mem _ (List.mem_of_getElem? hbj))]; exact hxs)), RepL.mono g1 rr⟩)
    have e3 : σ.set r (some (.ref bj)) = σ := by
      refine List.ext_getElem? fun k => ?_
      by_cases hk : r = k
      · subst hk
        rw [List.getElem?_set_self (List.getElem?_eq_some_iff.mp hσ).1, hσ]
      · rw [List.getElem?_set_ne hk]
    rw [e3] at S2
    exact ⟨_, _, S2, flat_postT (fun b m => (k5 b m).2) rfl h⟩
end
/-! ### plain side -/
section
variable {s : SS} {fa fb fc fe : SS → R D} {f : SS → RS}
@[simp] theorem canS_pt (i j : Nat) : canS (some (.pt i j)) = true := rfl
@[simp] theorem canS_ntf (d : D) : canS (some (.nt false d)) = true := rfl
@[simp] theorem canS_nll (ess : List (List D)) : canS (some (nll false ess)) = true := rfl
@[simp] theorem ptFree_nil (i : Nat) : ptFree i [] = true := rfl
@[simp] theorem ptFree_sh (i : Nat) (d : D) : ptFree i (.sh d :: s) = ptFree i s := rfl
@[simp] theorem ptFree_no (i : Nat) : ptFree i (.no :: s) = ptFree i s := rfl
@[simp] theorem ptFree_ow (i : Nat) (d : D) : ptFree i (.ow d :: s) = ptFree i s := rfl
@[simp] theorem ptFree_nt (i : Nat) (k : Bool) (d : D) : ptFree i (.nt k d :: s) = ptFree i s := rfl
@[simp] theorem ptFree_nll (i : Nat) (k : Bool) (ess : List (List D)) : ptFree i (nll k ess :: s) = ptFree i s := rfl
@[simp] theorem ptFree_pt (i k j : Nat) : ptFree i (.pt k j :: s) = (decide (k ≠ i) && ptFree i s) := rfl
@[simp] theorem ntL_s (i : Nat) : ntL s i = getNl s[i]? := rfl
theorem ixN_nat {n j : Nat} (h : j < n) : ixN n (j : Int) = some j := by
  unfold ixN
  rw [if_pos (by omega), if_pos (by omega)]
  rfl
theorem rowAt_nat {ess : List (List D)} {j : Nat} {es : List D} (h : ess[j]? = some es) : rowAt ess (.int (j : Nat)) = some (j, es) := by
  have := (List.getElem?_eq_some_iff.mp h).1
  show (ixN ess.length (j : Int)).bind _ = _
  rw [ixN_nat this]
  show ess[j]?.map _ = _
  rw [h]
  rfl
theorem putAt_nat {es : List D} {j : Nat} (h : j < es.length) (d : D) : putAt es (.int (j : Nat)) d = some (es.set j d) := by
  show (ixN es.length (j : Int)).map _ = _
  rw [ixN_nat h]
  rfl
end
end
end Z
namespace Z
noncomputable section
open PySem PySem.Spec PySem.P PyProof.Rows L2
/-! ### determinants: rows put together one by one, over a list of columns -/
abbrev Fn := List Nat → Int
/-- one row ahead: its number at each column, with changing signs, times what is told of the other columns -/
def ex (r : Nat → Int) : Fn → List Nat → Int
  | _, [] => 0
  | g, c :: cs => r c * g cs - ex r (fun x => g (c :: x)) cs
def dt : List (Nat → Int) → Fn
  | [] => fun cs => if cs = [] then 1 else 0
  | r :: rs => ex r (dt rs)
/-- several rows ahead of a function -/
def exs : List (Nat → Int) → Fn → Fn
  | [], g => g
  | r :: rs, g => ex r (exs rs g)
theorem exs_app : ∀ (A B : List (Nat → Int)) (g : Fn), exs (A ++ B) g = exs A (exs B g)
  | [], B, g => rfl
  | r :: A, B, g => by
    show ex r (exs (A ++ B) g) = ex r (exs A (exs B g))
    rw [exs_app A B g]
theorem dt_exs : ∀ (A : List (Nat → Int)), dt A = exs A (dt [])
  | [] => rfl
  | r :: A => by
    show ex r (dt A) = ex r (exs A (dt []))
    rw [dt_exs A]
theorem dt_app (A B : List (Nat → Int)) : dt (A ++ B) = exs A (dt B) := by
  rw [dt_exs, exs_app, ← dt_exs]
theorem ex_congr {r : Nat → Int} {g h : Fn} (e : ∀ x, g x = h x) (cs : List Nat) : ex r g cs = ex r h cs := by
  have : g = h := funext e
  rw [this]
theorem ex_lin (r : Nat → Int) (a b : Int) : ∀ (cs : List Nat) (g h : Fn), ex r (fun x => a * g x + b * h x) cs = a * ex r g cs + b * ex r h cs
  | [], g, h => by simp [ex]
  | c :: cs, g, h => by
    unfold ex
    rw [ex_lin r a b cs (fun x => g (c :: x)) (fun x => h (c :: x))]
    simp only [Int.mul_add, Int.mul_sub]
    have e1 : r c * (a * g cs) = a * (r c * g cs) := Int.mul_left_comm _ _ _
    have e2 : r c * (b * h cs) = b * (r c * h cs) := Int.mul_left_comm _ _ _
    rw [e1, e2]
    omega
theorem ex_zero (r : Nat → Int) (cs : List Nat) : ex r (fun _ => 0) cs = 0 := by
  have := ex_lin r 0 0 cs (fun _ => 0) (fun _ => 0)
  simpa using this
theorem ex_row (r s : Nat → Int) (a b : Int) : ∀ (cs : List Nat) (g : Fn), ex (fun c => a * r c + b * s c) g cs = a * ex r g cs + b * ex s g cs
  | [], g => by simp [ex]
  | c :: cs, g => by
    unfold ex
    rw [ex_row r s a b cs (fun x => g (c :: x))]
    simp only [Int.add_mul, Int.mul_sub, Int.mul_assoc]
    omega
/-- two rows exchanged -/
theorem ex_anti (r s : Nat → Int) : ∀ (cs : List Nat) (g : Fn), ex r (ex s g) cs = - ex s (ex r g) cs
  | [], g => by simp [ex]
  | c :: cs, g => by
    have e1 : ∀ (r s : Nat → Int), ex r (ex s g) (c :: cs) = r c * ex s g cs - (s c * ex r g cs - ex r (ex s fun x => g (c :: x)) cs) := fun r s => by
      show r c * ex s g cs - ex r (fun x => s c * g x - ex s (fun y => g (c :: y)) x) cs = _
      have : ex r (fun x => s c * g x + -1 * ex s (fun y => g (c :: y)) x) cs = s c * ex r g cs + -1 * ex r (ex s fun y => g (c :: y)) cs := ex_lin r (s c) (-1) cs g (fun x => ex s (fun y => g (c :: y)) x)
      have e2 : (fun x => s c * g x - ex s (fun y => g (c :: y)) x) = fun x => s c * g x + -1 * ex s (fun y => g (c :: y)) x := funext fun x => by omega
      rw [e2, this]
      omega
    rw [e1 r s, e1 s r, ex_anti r s cs (fun x => g (c :: x))]
    omega
theorem ex_same (r : Nat → Int) (cs : List Nat) (g : Fn) : ex r (ex r g) cs = 0 := by
  have := ex_anti r r cs g
  omega
theorem exs_lin : ∀ (A : List (Nat → Int)) (a b : Int) (cs : List Nat) (g h : Fn), exs A (fun x => a * g x + b * h x) cs = a * exs A g cs + b * exs A h cs
  | [], a, b, cs, g, h => rfl
  | r :: A, a, b, cs, g, h => by
    show ex r (exs A fun x => a * g x + b * h x) cs = a * ex r (exs A g) cs + b * ex r (exs A h) cs
    rw [ex_congr (exs_lin A a b · g h), ex_lin]
theorem exs_congr {A : List (Nat → Int)} {g h : Fn} (e : ∀ x, g x = h x) (cs : List Nat) : exs A g cs = exs A h cs := by
  have : g = h := funext e
  rw [this]
theorem exs_zero (A : List (Nat → Int)) (cs : List Nat) : exs A (fun _ => 0) cs = 0 := by
  have := exs_lin A 0 0 cs (fun _ => 0) (fun _ => 0)
  simpa using this
/-- a row moved through others -/
def sg (n : Nat) : Int := if n % 2 = 0 then 1 else -1
theorem sg_succ (n : Nat) : sg (n + 1) = - sg n := by
  unfold sg
  split <;> split <;> omega
theorem sg_mul (n : Nat) : sg n * sg n = 1 := by
  unfold sg
  split <;> rfl
theorem ex_exs (r : Nat → Int) : ∀ (A : List (Nat → Int)) (g : Fn) (cs : List Nat), ex r (exs A g) cs = sg A.length * exs A (ex r g) cs
  | [], g, cs => by simp [exs, sg]
  | s :: A, g, cs => by
    show ex r (ex s (exs A g)) cs = sg (A.length + 1) * ex s (exs A (ex r g)) cs
    rw [ex_anti, ex_congr (ex_exs r A g)]
    have := ex_lin s (sg A.length) 0 cs (exs A (ex r g)) (fun _ => 0)
    simp only [Int.zero_mul, Int.add_zero] at this
    rw [this, sg_succ, Int.neg_mul]
/-- dt is linear in each row -/
theorem dt_lin (A B : List (Nat → Int)) (r s : Nat → Int) (a b : Int) (cs : List Nat) : dt (A ++ (fun c => a * r c + b * s c) :: B) cs = a * dt (A ++ r :: B) cs + b * dt (A ++ s :: B) cs := by
  rw [dt_app, dt_app, dt_app, ← exs_lin]
  exact exs_congr (fun x => ex_row r s a b x (dt B)) cs
/-- two like rows -/
theorem dt_same (A B D : List (Nat → Int)) (r : Nat → Int) (cs : List Nat) : dt (A ++ r :: (B ++ r :: D)) cs = 0 := by
  rw [dt_app]
  have : ∀ x, dt (r :: (B ++ r :: D)) x = 0 := fun x => by
    show ex r (dt (B ++ r :: D)) x = 0
    rw [dt_app, ex_exs]
    have : exs B (ex r (dt (r :: D))) x = 0 := (exs_congr (h := fun _ => 0) (fun y => ex_same r y (dt D)) x).trans (exs_zero B x)
    rw [this, Int.mul_zero]
  rw [exs_congr this, exs_zero]
/-- two rows exchanged -/
theorem dt_swap (A B D : List (Nat → Int)) (r s : Nat → Int) (cs : List Nat) : dt (A ++ s :: (B ++ r :: D)) cs = - dt (A ++ r :: (B ++ s :: D)) cs := by
  have h := dt_same A B D (fun c => 1 * r c + 1 * s c) cs
  rw [dt_lin A, show A ++ r :: (B ++ (fun c => 1 * r c + 1 * s c) :: D) = (A ++ r :: B) ++ (fun c => 1 * r c + 1 * s c) :: D by simp, show A ++ s :: (B ++ (fun c => 1 * r c + 1 * s c) :: D) = (A ++ s :: B) ++ (fun c => 1 * r c + 1 * s c) :: D by simp, dt_lin, dt_lin] at h
  simp only [List.append_assoc, List.cons_append] at h
  rw [dt_same A B D r, dt_same A B D s] at h
  omega
/-! columns -/
def CSw (g : Fn) : Prop := ∀ (l t : List Nat) (a b : Nat), g (l ++ a :: b :: t) = - g (l ++ b :: a :: t)
theorem CSw.cons {g : Fn} (h : CSw g) (c : Nat) : CSw (fun x => g (c :: x)) := fun l t a b => h (c :: l) t a b
theorem ex_sw (r : Nat → Int) : ∀ (l t : List Nat) (a b : Nat) (g : Fn), CSw g → ex r g (l ++ a :: b :: t) = - ex r g (l ++ b :: a :: t)
  | [], t, a, b, g, h => by
    show r a * g (b :: t) - (r b * g (a :: t) - ex r (fun x => g (a :: b :: x)) t) = - (r b * g (a :: t) - (r a * g (b :: t) - ex r (fun x => g (b :: a :: x)) t))
    have : ex r (fun x => g (a :: b :: x)) t = - ex r (fun x => g (b :: a :: x)) t := by
      have e := ex_lin r (-1) 0 t (fun x => g (b :: a :: x)) (fun _ => 0)
      have e2 : (fun x => g (a :: b :: x)) = fun x => -1 * g (b :: a :: x) + 0 * 0 := funext fun x => by
        have := h [] x a b
        simp only [List.nil_append] at this
        omega
      rw [e2, e]
      omega
    omega
  | c :: l, t, a, b, g, h => by
    show r c * g (l ++ a :: b :: t) - ex r (fun x => g (c :: x)) (l ++ a :: b :: t) = - (r c * g (l ++ b :: a :: t) - ex r (fun x => g (c :: x)) (l ++ b :: a :: t))
    rw [ex_sw r l t a b _ (h.cons c), h l t a b, Int.mul_neg]
    omega
theorem dt_sw : ∀ A : List (Nat → Int), CSw (dt A)
  | [] => fun l t a b => by
    show (if l ++ a :: b :: t = [] then (1 : Int) else 0) = - (if l ++ b :: a :: t = [] then (1 : Int) else 0)
    rw [if_neg (by simp), if_neg (by simp)]
    rfl
  | r :: A => fun l t a b => ex_sw r l t a b _ (dt_sw A)
theorem CSw.dup {g : Fn} (h : CSw g) : ∀ (m l t : List Nat) (c : Nat), g (l ++ c :: (m ++ c :: t)) = 0
  | [], l, t, c => by
    have := h l t c c
    simp only [List.nil_append]
    omega
  | d :: m, l, t, c => by
    have e := h l (m ++ c :: t) c d
    have e2 := CSw.dup h m (l ++ [d]) t c
    rw [List.append_assoc] at e2
    rw [List.cons_append, e]
    have : g (l ++ d :: c :: (m ++ c :: t)) = 0 := e2
    omega
theorem dt_dup (A : List (Nat → Int)) {cs : List Nat} {c : Nat} (h : c ∈ cs) : dt A (cs ++ [c]) = 0 := by
  obtain ⟨l, m, rfl⟩ := List.append_of_mem h
  rw [List.append_assoc]
  exact (dt_sw A).dup m l [] c
/-! the last column -/
theorem ex_last (r : Nat → Int) (j : Nat) : ∀ (cs : List Nat) (g : Fn), ex r g (cs ++ [j]) = ex r (fun x => g (x ++ [j])) cs + sg cs.length * (r j * g cs)
  | [], g => by simp [ex, sg]
  | c :: cs, g => by
    show r c * g (cs ++ [j]) - ex r (fun x => g (c :: x)) (cs ++ [j]) = r c * g (cs ++ [j]) - ex r (fun x => g (c :: (x ++ [j]))) cs + sg (cs.length + 1) * (r j * g (c :: cs))
    rw [ex_last r j cs (fun x => g (c :: x)), sg_succ, Int.neg_mul]
    show r c * g (cs ++ [j]) - (ex r (fun x => g (c :: (x ++ [j]))) cs + sg cs.length * (r j * g (c :: cs))) = _
    omega
/-- sums of rows -/
def comb : List Int → List (Nat → Int) → Nat → Int
  | k :: ks, r :: rs, j => k * r j + comb ks rs j
  | _, _, _ => 0
/-- a bordered determinant is the bordering row so often as the one without it tells, and the other rows -/
theorem border (r : Nat → Int) : ∀ A : List (Nat → Int), ∃ κ : List Fn, κ.length = A.length ∧ ∀ (cs : List Nat) (j : Nat), dt (A ++ [r]) (cs ++ [j]) = dt A cs * r j + comb (κ.map fun k => k cs) A j
  | [] => ⟨[], rfl, fun cs j => by
    show ex r (dt []) (cs ++ [j]) = _
    rw [ex_last]
    have : ex r (fun x => dt [] (x ++ [j])) cs = 0 := (ex_congr (h := fun _ => 0) (fun x => if_neg (by simp)) cs).trans (ex_zero r cs)
    rw [this]
    show 0 + sg cs.length * (r j * (if cs = [] then 1 else 0)) = (if cs = [] then (1 : Int) else 0) * r j + 0
    by_cases h : cs = []
    · subst h
      simp [sg]
    · rw [if_neg h, Int.mul_zero, Int.mul_zero, Int.zero_mul]⟩
  | a :: A => by
    obtain ⟨κ, hl, h⟩ := border r A
    refine ⟨(fun cs => sg cs.length * dt (A ++ [r]) cs) :: κ.map (fun k => ex a k), by simp [hl], fun cs j => ?_⟩
    show ex a (dt (A ++ [r])) (cs ++ [j]) = ex a (dt A) cs * r j + (sg cs.length * dt (A ++ [r]) cs * a j + comb ((κ.map (fun k => ex a k)).map fun k => k cs) A j)
    rw [ex_last, ex_congr (fun x => h x j)]
    have e1 : ex a (fun x => dt A x * r j + comb (κ.map fun k => k x) A j) cs = ex a (dt A) cs * r j + comb ((κ.map (fun k => ex a k)).map fun k => k cs) A j := by
      have e2 := ex_lin a (r j) 1 cs (dt A) (fun x => comb (κ.map fun k => k x) A j)
      have e3 : (fun x => dt A x * r j + comb (κ.map fun k => k x) A j) = fun x => r j * dt A x + 1 * comb (κ.map fun k => k x) A j := funext fun x => by rw [Int.mul_comm, Int.one_mul]
      rw [e3, e2, Int.one_mul, Int.mul_comm (ex a (dt A) cs)]
      congr 1
      clear h e2 e3 hl
      induction κ generalizing A with
      | nil =>
        show ex a (fun _ => 0) cs = 0
        exact ex_zero a cs
      | cons k κ ih =>
        cases A with
        | nil => exact ex_zero a cs
        | cons b A =>
          show ex a (fun x => k x * b j + comb (κ.map fun k => k x) A j) cs = ex a k cs * b j + comb ((κ.map (fun k => ex a k)).map fun k => k cs) A j
          have e2 := ex_lin a (b j) 1 cs k (fun x => comb (κ.map fun k => k x) A j)
          have e3 : (fun x => k x * b j + comb (κ.map fun k => k x) A j) = fun x => b j * k x + 1 * comb (κ.map fun k => k x) A j := funext fun x => by rw [Int.mul_comm, Int.one_mul]
          rw [e3, e2, Int.one_mul, ih A, Int.mul_comm (ex a k cs)]
    rw [e1]
    have : sg cs.length * (a j * dt (A ++ [r]) cs) = sg cs.length * dt (A ++ [r]) cs * a j := by
      rw [Int.mul_assoc, Int.mul_comm (a j)]
    omega
end
end Z
namespace Z
noncomputable section
open PySem PySem.Spec PySem.P PyProof.Rows L2
/-! ### determinants: rows reduced by others -/
theorem dt_row0 (L R : List (Nat → Int)) (t : List Nat) : dt (L ++ (fun _ => 0) :: R) t = 0 := by
  have := dt_lin L R (fun _ => 0) (fun _ => 0) 0 0 t
  simpa using this
theorem dt_mem {L R : List (Nat → Int)} {a : Nat → Int} (h : a ∈ L) (t : List Nat) : dt (L ++ a :: R) t = 0 := by
  obtain ⟨L1, L2, rfl⟩ := List.append_of_mem h
  rw [List.append_assoc]
  exact dt_same L1 L2 R a t
theorem dt_comb {L R : List (Nat → Int)} (t : List Nat) : ∀ (ks : List Int) (A : List (Nat → Int)), (∀ a ∈ A, a ∈ L) → dt (L ++ (fun j => comb ks A j) :: R) t = 0
  | [], A, h => dt_row0 L R t
  | k :: ks, [], h => dt_row0 L R t
  | k :: ks, a :: A, h => by
    have e := dt_lin L R a (fun j => comb ks A j) k 1 t
    have e2 : (fun j => comb (k :: ks) (a :: A) j) = fun c => k * a c + 1 * comb ks A c := funext fun c => by show k * a c + comb ks A c = _; omega
    rw [e2, e, dt_mem (h a (List.mem_cons_self ..)), dt_comb t ks A fun b hb => h b (List.mem_cons_of_mem _ hb)]
    omega
/-- a row bordered onto A -/
def red (A : List (Nat → Int)) (cs : List Nat) (r : Nat → Int) : Nat → Int := fun j => dt (A ++ [r]) (cs ++ [j])
theorem red_dt {A L R : List (Nat → Int)} {cs : List Nat} {r : Nat → Int} (h : ∀ a ∈ A, a ∈ L) (t : List Nat) : dt (L ++ red A cs r :: R) t = dt A cs * dt (L ++ r :: R) t := by
  obtain ⟨κ, hl, hb⟩ := border r A
  have e : red A cs r = fun j => dt A cs * r j + 1 * comb (κ.map fun k => k cs) A j := funext fun j => by
    show dt (A ++ [r]) (cs ++ [j]) = _
    rw [hb cs j]
    omega
  rw [e, dt_lin L R r (fun j => comb (κ.map fun k => k cs) A j), dt_comb t _ A h]
  omega
theorem red_van {A : List (Nat → Int)} {cs : List Nat} {r : Nat → Int} : ∀ c ∈ cs, red A cs r c = 0 := fun c h => dt_dup _ h
theorem red_all {A : List (Nat → Int)} {cs : List Nat} (t : List Nat) : ∀ (Rs P : List (Nat → Int)), dt (A ++ P ++ Rs.map (red A cs)) t = dt A cs ^ Rs.length * dt (A ++ P ++ Rs) t
  | [], P => by simp
  | r :: Rs, P => by
    rw [List.map_cons, red_dt (fun a h => List.mem_append_left _ h), show A ++ P ++ r :: Rs.map (red A cs) = A ++ (P ++ [r]) ++ Rs.map (red A cs) by simp, red_all t Rs (P ++ [r]), show A ++ (P ++ [r]) ++ Rs = A ++ P ++ r :: Rs by simp, List.length_cons, Int.pow_succ, ← Int.mul_assoc, Int.mul_comm (dt A cs)]
/-! rows that vanish on the first columns -/
theorem ex_van {r : Nat → Int} : ∀ (cs t : List Nat) (g : Fn), (∀ c ∈ cs, r c = 0) → ex r g (cs ++ t) = sg cs.length * ex r (fun x => g (cs ++ x)) t
  | [], t, g, h => by simp [sg]
  | c :: cs, t, g, h => by
    show r c * g (cs ++ t) - ex r (fun x => g (c :: x)) (cs ++ t) = sg (cs.length + 1) * ex r (fun x => g (c :: (cs ++ x))) t
    rw [h c (List.mem_cons_self ..), ex_van cs t _ fun d hd => h d (List.mem_cons_of_mem _ hd), sg_succ, Int.neg_mul]
    omega
theorem exs_van : ∀ (R : List (Nat → Int)) (cs t : List Nat) (g : Fn), (∀ r ∈ R, ∀ c ∈ cs, r c = 0) → exs R g (cs ++ t) = sg (R.length * cs.length) * exs R (fun x => g (cs ++ x)) t
  | [], cs, t, g, h => by simp [exs, sg]
  | r :: R, cs, t, g, h => by
    show ex r (exs R g) (cs ++ t) = _ * ex r (exs R fun x => g (cs ++ x)) t
    rw [ex_van cs t _ (h r (List.mem_cons_self ..)), ex_congr (fun x => exs_van R cs x g fun s hs => h s (List.mem_cons_of_mem _ hs))]
    have := ex_lin r (sg (R.length * cs.length)) 0 t (exs R fun x => g (cs ++ x)) (fun _ => 0)
    simp only [Int.zero_mul, Int.add_zero] at this
    rw [this, ← Int.mul_assoc]
    congr 1
    rw [List.length_cons, Nat.add_mul, Nat.one_mul]
    generalize R.length * cs.length = m
    generalize cs.length = n
    unfold sg
    split <;> split <;> split <;> omega
theorem exs_comm : ∀ (R A : List (Nat → Int)) (g : Fn) (t : List Nat), exs A (exs R g) t = sg (R.length * A.length) * exs R (exs A g) t
  | [], A, g, t => by simp [exs, sg]
  | r :: R, A, g, t => by
    show exs A (ex r (exs R g)) t = _ * ex r (exs R (exs A g)) t
    have e1 := ex_exs r A (exs R g) t
    have e2 : exs A (ex r (exs R g)) t = sg A.length * ex r (exs A (exs R g)) t := by
      rw [e1, ← Int.mul_assoc, sg_mul, Int.one_mul]
    rw [e2, ex_congr (fun x => exs_comm R A g x)]
    have := ex_lin r (sg (R.length * A.length)) 0 t (exs R (exs A g)) (fun _ => 0)
    simp only [Int.zero_mul, Int.add_zero] at this
    rw [this, ← Int.mul_assoc]
    congr 1
    rw [List.length_cons, Nat.add_mul, Nat.one_mul]
    generalize R.length * A.length = m
    generalize A.length = n
    unfold sg
    split <;> split <;> split <;> omega
/-- rows that vanish on cs: what they tell of the other columns -/
theorem dt_van {A R : List (Nat → Int)} {cs t : List Nat} (h : ∀ r ∈ R, ∀ c ∈ cs, r c = 0) : dt (A ++ R) (cs ++ t) = sg (R.length * A.length) * sg (R.length * cs.length) * exs R (fun x => dt A (cs ++ x)) t := by
  have e1 : dt (A ++ R) (cs ++ t) = exs A (exs R (dt [])) (cs ++ t) := by rw [dt_app, dt_exs R]
  rw [e1, exs_comm, ← dt_exs, exs_van R cs t _ h, Int.mul_assoc]
theorem dt_block {A R : List (Nat → Int)} {cs t : List Nat} (h : ∀ r ∈ R, ∀ c ∈ cs, r c = 0) (hl : A.length = cs.length) : dt (A ++ R) (cs ++ t) = exs R (fun x => dt A (cs ++ x)) t := by
  rw [dt_van h, hl, sg_mul, Int.one_mul]
theorem ex_few {r : Nat → Int} : ∀ (cs : List Nat) (g : Fn), (∀ x : List Nat, x.length + 1 = cs.length → g x = 0) → ex r g cs = 0
  | [], g, h => rfl
  | c :: cs, g, h => by
    show r c * g cs - ex r (fun x => g (c :: x)) cs = 0
    rw [h cs rfl, ex_few cs _ fun x hx => h (c :: x) (by simp; omega)]
    omega
theorem exs_few : ∀ (R : List (Nat → Int)) (g : Fn) (t : List Nat), t.length < R.length → exs R g t = 0
  | [], g, t, h => by simp at h
  | r :: R, g, t, h => ex_few t _ fun x hx => exs_few R g x (by simp at h; omega)
/-- no pivot: nought -/
theorem dt_sing {A Rs : List (Nat → Int)} {cs t : List Nat} {c : Nat} (hd : dt A cs ≠ 0) (h : ∀ r ∈ Rs, red A cs r c = 0) (hl : t.length < Rs.length) : dt (A ++ Rs) (cs ++ c :: t) = 0 := by
  have e := red_all (A := A) (cs := cs) (cs ++ c :: t) Rs []
  rw [List.append_nil] at e
  have e2 := dt_van (A := A) (R := Rs.map (red A cs)) (cs := cs ++ [c]) (t := t) fun r hr x hx => by
    obtain ⟨r0, h0, rfl⟩ := List.mem_map.mp hr
    rcases List.mem_append.mp hx with hx | hx
    · exact red_van x hx
    · rw [List.mem_singleton.mp hx]
      exact h r0 h0
  rw [exs_few _ _ _ (by rw [List.length_map]; exact hl), Int.mul_zero, List.append_assoc] at e2
  have e3 : cs ++ ([c] ++ t) = cs ++ c :: t := rfl
  rw [e3] at e2
  rw [e2] at e
  rcases Int.mul_eq_zero.mp e.symm with h' | h'
  · exact absurd h' (Int.pow_ne_zero hd)
  · exact h'
/-- THE STEP: a bordered determinant by those one smaller -/
theorem sylv {A : List (Nat → Int)} {cs : List Nat} {r s : Nat → Int} {p q : Nat} (hl : A.length = cs.length) (hd : dt A cs ≠ 0) :
    dt A cs * dt (A ++ [r, s]) (cs ++ [p, q]) = red A cs r p * red A cs s q - red A cs r q * red A cs s p := by
  have e := red_all (A := A) (cs := cs) (cs ++ [p, q]) [r, s] []
  rw [List.append_nil] at e
  have e2 := dt_block (A := A) (R := [r, s].map (red A cs)) (cs := cs) (t := [p, q]) (fun r' hr x hx => by
    obtain ⟨r0, h0, rfl⟩ := List.mem_map.mp hr
    exact red_van x hx) hl
  rw [e2] at e
  have e3 : exs ([r, s].map (red A cs)) (fun x => dt A (cs ++ x)) [p, q] = dt A cs * (red A cs r p * red A cs s q - red A cs r q * red A cs s p) := by
    show red A cs r p * (red A cs s q * dt A (cs ++ []) - 0) - (red A cs r q * (red A cs s p * dt A (cs ++ []) - 0) - 0) = _
    rw [List.append_nil, Int.sub_zero, Int.sub_zero, Int.sub_zero, Int.mul_sub]
    rw [← Int.mul_assoc, ← Int.mul_assoc, Int.mul_comm _ (dt A cs), Int.mul_comm _ (dt A cs)]
  rw [e3] at e
  have e4 : dt A cs ^ [r, s].length * dt (A ++ [r, s]) (cs ++ [p, q]) = dt A cs * (dt A cs * dt (A ++ [r, s]) (cs ++ [p, q])) := by
    show dt A cs ^ 2 * _ = _
    rw [Int.pow_succ, Int.pow_succ, Int.pow_zero, Int.one_mul, Int.mul_assoc]
  rw [e4] at e
  exact (Int.eq_of_mul_eq_mul_left hd e).symm
/-! bounds -/
theorem ex_bound {r : Nat → Int} {X Y : Nat} (hr : ∀ c, (r c).natAbs ≤ X) : ∀ (cs : List Nat) (g : Fn), (∀ x : List Nat, x.length + 1 = cs.length → (g x).natAbs ≤ Y) → (ex r g cs).natAbs ≤ cs.length * (X * Y)
  | [], g, h => by simp [ex]
  | c :: cs, g, h => by
    show (r c * g cs - ex r (fun x => g (c :: x)) cs).natAbs ≤ (cs.length + 1) * (X * Y)
    have h1 := ex_bound hr cs (fun x => g (c :: x)) fun x hx => h (c :: x) (by simp; omega)
    have h2 : (r c * g cs).natAbs ≤ X * Y := by
      rw [Int.natAbs_mul]
      exact Nat.mul_le_mul (hr c) (h cs rfl)
    rw [Nat.add_mul, Nat.one_mul]
    omega
theorem dt_bound {X N : Nat} (hN : 1 ≤ N * X) : ∀ (A : List (Nat → Int)) (cs : List Nat), (∀ r ∈ A, ∀ c, (r c).natAbs ≤ X) → cs.length ≤ N → (dt A cs).natAbs ≤ (N * X) ^ A.length
  | [], cs, h, hl => by
    show (if cs = [] then (1 : Int) else 0).natAbs ≤ _
    split <;> simp
  | r :: A, cs, h, hl => by
    have h1 := ex_bound (Y := (N * X) ^ A.length) (h r (List.mem_cons_self ..)) cs (dt A) fun x hx => dt_bound hN A x (fun s hs => h s (List.mem_cons_of_mem _ hs)) (by omega)
    refine Nat.le_trans h1 ?_
    rw [List.length_cons, Nat.pow_succ]
    have : cs.length * (X * (N * X) ^ A.length) ≤ N * (X * (N * X) ^ A.length) := Nat.mul_le_mul_right _ hl
    refine Nat.le_trans this ?_
    rw [← Nat.mul_assoc, Nat.mul_comm]
    exact Nat.le_refl _
/-! as a sum over the places -/
def exP (r : Nat → Int) (g : Fn) (cs : List Nat) : Nat → Int
  | 0 => 0
  | j + 1 => exP r g cs j + sg j * (r (cs.getD j 0) * g (cs.eraseIdx j))
theorem exP_cons (r : Nat → Int) (g : Fn) (c : Nat) (cs : List Nat) : ∀ j, exP r g (c :: cs) (j + 1) = r c * g cs - exP r (fun x => g (c :: x)) cs j
  | 0 => by simp [exP, sg]
  | j + 1 => by
    show exP r g (c :: cs) (j + 1) + sg (j + 1) * (r ((c :: cs).getD (j + 1) 0) * g ((c :: cs).eraseIdx (j + 1))) = r c * g cs - (exP r (fun x => g (c :: x)) cs j + sg j * (r (cs.getD j 0) * g (c :: cs.eraseIdx j)))
    rw [exP_cons r g c cs j, sg_succ, Int.neg_mul]
    show _ + -(sg j * (r (cs.getD j 0) * g (c :: cs.eraseIdx j))) = _
    omega
theorem exP_full (r : Nat → Int) : ∀ (cs : List Nat) (g : Fn), exP r g cs cs.length = ex r g cs
  | [], g => rfl
  | c :: cs, g => by
    rw [List.length_cons, exP_cons, exP_full r cs]
    rfl
/-! rows told from the end -/
def sgt : Nat → Int
  | 0 => 1
  | n + 1 => sg n * sgt n
theorem dt_snoc (A : List (Nat → Int)) (r : Nat → Int) (cs : List Nat) : dt (A ++ [r]) cs = sg A.length * dt (r :: A) cs := by
  have e : dt (r :: A) cs = ex r (exs A (dt [])) cs := by
    show ex r (dt A) cs = _
    rw [dt_exs]
  rw [e, ex_exs, ← Int.mul_assoc, sg_mul, Int.one_mul, dt_app]
  rfl
theorem dt_rev : ∀ (A : List (Nat → Int)) (cs : List Nat), dt A.reverse cs = sgt A.length * dt A cs
  | [], cs => by simp [sgt]
  | r :: A, cs => by
    rw [List.reverse_cons, dt_snoc, List.length_reverse]
    show sg A.length * ex r (dt A.reverse) cs = sg A.length * sgt A.length * ex r (dt A) cs
    rw [ex_congr (dt_rev A)]
    have := ex_lin r (sgt A.length) 0 cs (dt A) (fun _ => 0)
    simp only [Int.zero_mul, Int.add_zero] at this
    rw [this, Int.mul_assoc]
end
end Z
namespace Z
noncomputable section
open PySem PySem.Spec PySem.P PyProof.Rows L2
/-! ### determinants by steps without fractions -/
structure Sq (n : Nat) (M : List (List Int)) : Prop where
  len : M.length = n
  row : ∀ r ∈ M, r.length = n
def at2 (M : List (List Int)) (a b : Nat) : Int := (M.getD a []).getD b 0
def fnR (M : List (List Int)) : List (Nat → Int) := M.map fun r c => r.getD c 0
def fnA (M : List (List Int)) (a : Nat) : Nat → Int := fun c => at2 M a c
theorem fnR_len (M : List (List Int)) : (fnR M).length = M.length := List.length_map _
theorem fnR_get {M : List (List Int)} {a : Nat} (h : a < M.length) : (fnR M)[a]? = some (fnA M a) := by
  unfold fnR fnA at2
  rw [List.getElem?_map, List.getD_eq_getElem?_getD, List.getElem?_eq_getElem h]
  rfl
theorem fnR_take {M : List (List Int)} {k : Nat} (h : k < M.length) : (fnR M).take (k + 1) = (fnR M).take k ++ [fnA M k] := by
  rw [List.take_succ, fnR_get h]
  rfl
theorem fnR_drop {M : List (List Int)} {k : Nat} (h : k < M.length) : (fnR M).drop k = fnA M k :: (fnR M).drop (k + 1) := by
  have := fnR_get h
  obtain ⟨h1, h2⟩ := List.getElem?_eq_some_iff.mp this
  rw [List.drop_eq_getElem_cons h1, h2]
def swapL {α : Type} (M : List α) (j l : Nat) : List α := match M[j]?, M[l]? with
  | some x, some y => (M.set j y).set l x
  | _, _ => M
theorem swapL_get {α : Type} {M : List α} {j l : Nat} (hj : j < M.length) (hl : l < M.length) (t : Nat) : (swapL M j l)[t]? = M[swp j l t]? := by
  unfold swapL
  rw [List.getElem?_eq_getElem hj, List.getElem?_eq_getElem hl]
  exact set2_get (List.getElem?_eq_getElem hj) (List.getElem?_eq_getElem hl) t
theorem swapL_len {α : Type} (M : List α) (j l : Nat) : (swapL M j l).length = M.length := by
  unfold swapL
  split <;> simp
theorem swapL_mem {α : Type} {M : List α} {j l : Nat} {x : α} (hj : j < M.length) (hl : l < M.length) (h : x ∈ swapL M j l) : x ∈ M := by
  obtain ⟨t, ht⟩ := List.mem_iff_getElem?.mp h
  rw [swapL_get hj hl] at ht
  exact List.mem_of_getElem? ht
theorem at2_swap {M : List (List Int)} {j l : Nat} (hj : j < M.length) (hl : l < M.length) (t b : Nat) : at2 (swapL M j l) t b = at2 M (swp j l t) b := by
  have : (swapL M j l).getD t [] = M.getD (swp j l t) [] := by
    rw [List.getD_eq_getElem?_getD, List.getD_eq_getElem?_getD, swapL_get hj hl]
  unfold at2
  rw [this]
theorem swapL_map {α β : Type} (f : α → β) (M : List α) (j l : Nat) : (swapL M j l).map f = swapL (M.map f) j l := by
  unfold swapL
  rw [List.getElem?_map, List.getElem?_map]
  cases M[j]? with
  | none => rfl
  | some x => cases M[l]? with
    | none => rfl
    | some y =>
      show ((M.set j y).set l x).map f = ((M.map f).set j (f y)).set l (f x)
      rw [List.map_set, List.map_set]
theorem swap_split {α : Type} {M : List α} {j l : Nat} (h : j < l) (hl : l < M.length) : ∃ A B D x y, M = A ++ x :: (B ++ y :: D) ∧ swapL M j l = A ++ y :: (B ++ x :: D) ∧ A.length = j := by
  have h1 : M = M.take j ++ M[j] :: M.drop (j + 1) := by
    rw [← List.drop_eq_getElem_cons (by omega), List.take_append_drop]
  have h2 : M.drop (j + 1) = (M.drop (j + 1)).take (l - j - 1) ++ M[l] :: M.drop (l + 1) := by
    conv => lhs; rw [← List.take_append_drop (l - j - 1) (M.drop (j + 1))]
    congr 1
    rw [List.drop_drop, show j + 1 + (l - j - 1) = l by omega, List.drop_eq_getElem_cons hl]
  refine ⟨M.take j, (M.drop (j + 1)).take (l - j - 1), M.drop (l + 1), M[j], M[l], ?_, ?_, by rw [List.length_take]; omega⟩
  · rw [← h2]; exact h1
  · have hA : (M.take j).length = j := by rw [List.length_take]; omega
    have hB : ((M.drop (j + 1)).take (l - j - 1)).length = l - j - 1 := by rw [List.length_take, List.length_drop]; omega
    refine List.ext_getElem? fun t => ?_
    rw [swapL_get (by omega) hl]
    unfold swp
    by_cases c1 : t < j
    · rw [if_neg (by omega), if_neg (by omega), List.getElem?_append_left (by omega), List.getElem?_take, if_pos c1]
    · rw [List.getElem?_append_right (by omega), hA]
      by_cases c2 : t = j
      · subst c2
        rw [if_neg (by omega), if_pos rfl, Nat.sub_self, List.getElem?_cons_zero, List.getElem?_eq_getElem hl]
      · obtain ⟨u, hu⟩ : ∃ u, t - j = u + 1 := ⟨t - j - 1, by omega⟩
        rw [hu, List.getElem?_cons_succ]
        by_cases c3 : t < l
        · rw [if_neg (by omega), if_neg c2, List.getElem?_append_left (by omega), List.getElem?_take, if_pos (by omega), List.getElem?_drop]
          congr 1
          omega
        · rw [List.getElem?_append_right (by omega), hB]
          by_cases c4 : t = l
          · subst c4
            rw [if_pos rfl, show u - (t - j - 1) = 0 by omega, List.getElem?_cons_zero, List.getElem?_eq_getElem (by omega)]
          · rw [if_neg c4, if_neg c2]
            obtain ⟨v, hv⟩ : ∃ v, u - (l - j - 1) = v + 1 := ⟨u - (l - j - 1) - 1, by omega⟩
            rw [hv, List.getElem?_cons_succ, List.getElem?_drop]
            congr 1
            omega
abbrev cols (n : Nat) : List Nat := List.range n
def detM (M : List (List Int)) : Int := dt (fnR M) (cols M.length)
structure Bar (n : Nat) (S B M : List (List Int)) (k : Nat) (sgn last : Int) : Prop where
  kn : k < n
  sb : Sq n B
  sm : Sq n M
  one : sgn = 1 ∨ sgn = -1
  det : dt (fnR S) (cols n) = sgn * dt (fnR B) (cols n)
  mem : ∀ r ∈ B, r ∈ S
  lst : last = dt ((fnR B).take k) (cols k)
  ne : last ≠ 0
  ent : ∀ i j, k ≤ i → i < n → k ≤ j → j < n → at2 M i j = red ((fnR B).take k) (cols k) (fnA B i) j
theorem Bar.start {n : Nat} {S : List (List Int)} (hn : 0 < n) (h : Sq n S) : Bar n S S S 0 1 1 := by
  refine ⟨hn, h, h, .inl rfl, by omega, fun _ h => h, rfl, by decide, fun i j _ hi _ hj => ?_⟩
  show _ = ex (fnA S i) (dt []) [j]
  show _ = fnA S i j * (dt [] []) - 0
  show _ = fnA S i j * 1 - 0
  unfold fnA
  omega
theorem Bar.take_len {n : Nat} {S B M : List (List Int)} {k : Nat} {sgn last : Int} (h : Bar n S B M k sgn last) : ((fnR B).take k).length = (cols k).length := by
  rw [List.length_take, fnR_len, h.sb.len, List.length_range]
  have := h.kn
  omega
theorem take_swap {α : Type} {M : List α} {k l : Nat} (h : k < l) (hl : l < M.length) : (swapL M k l).take k = M.take k := by
  refine List.ext_getElem? fun t => ?_
  rw [List.getElem?_take, List.getElem?_take]
  split
  · rw [swapL_get (by omega) hl]
    unfold swp
    rw [if_neg (by omega), if_neg (by omega)]
  · rfl
theorem fnR_swap (M : List (List Int)) (j l : Nat) : fnR (swapL M j l) = swapL (fnR M) j l := swapL_map _ _ _ _
theorem Bar.swap {n : Nat} {S B M : List (List Int)} {k l : Nat} {sgn last : Int} (h : Bar n S B M k sgn last) (hkl : k < l) (hl : l < n) : Bar n S (swapL B k l) (swapL M k l) k (-sgn) last := by
  have hb := h.sb.len
  have hm := h.sm.len
  have hk := h.kn
  have ht : (fnR (swapL B k l)).take k = (fnR B).take k := by
    rw [fnR_swap]
    exact take_swap hkl (by rw [fnR_len]; omega)
  refine ⟨hk, ⟨by rw [swapL_len]; exact hb, fun r hr => h.sb.row r (swapL_mem (by omega) (by omega) hr)⟩, ⟨by rw [swapL_len]; exact hm, fun r hr => h.sm.row r (swapL_mem (by omega) (by omega) hr)⟩, ?_, ?_, fun r hr => h.mem r (swapL_mem (by omega) (by omega) hr), by rw [ht]; exact h.lst, h.ne, fun i j hi hi2 hj hj2 => ?_⟩
  · rcases h.one with e | e <;> rw [e] <;> decide
  · obtain ⟨A, X, D, x, y, e1, e2, -⟩ := swap_split (M := fnR B) hkl (by rw [fnR_len]; omega)
    rw [h.det, fnR_swap, e2, e1, dt_swap A X D x y, Int.neg_mul_neg]
  · have hs : swp k l i < n ∧ k ≤ swp k l i := by
      unfold swp
      split
      · omega
      · split <;> omega
    rw [at2_swap (by omega) (by omega), h.ent _ _ hs.2 hs.1 hj hj2, ht]
    congr 1
    funext c
    show at2 B (swp k l i) c = at2 (swapL B k l) i c
    rw [at2_swap (by omega) (by omega)]
theorem Bar.num {n : Nat} {S B M : List (List Int)} {k i j : Nat} {sgn last : Int} (h : Bar n S B M k sgn last) (hi : k < i) (hi2 : i < n) (hj : k < j) (hj2 : j < n) :
    at2 M i j * at2 M k k - at2 M i k * at2 M k j = last * red ((fnR B).take (k + 1)) (cols (k + 1)) (fnA B i) j := by
  have hk := h.kn
  have hb := h.sb.len
  have e := sylv (A := (fnR B).take k) (cs := cols k) (r := fnA B k) (s := fnA B i) (p := k) (q := j) h.take_len (by rw [← h.lst]; exact h.ne)
  rw [← h.lst, ← h.ent k k (by omega) hk (by omega) hk, ← h.ent i j (by omega) hi2 (by omega) hj2, ← h.ent k j (by omega) hk (by omega) hj2, ← h.ent i k (by omega) hi2 (by omega) hk] at e
  have e2 : red ((fnR B).take (k + 1)) (cols (k + 1)) (fnA B i) j = dt ((fnR B).take k ++ [fnA B k, fnA B i]) (cols k ++ [k, j]) := by
    unfold red
    rw [fnR_take (by omega), show cols (k + 1) = cols k ++ [k] from List.range_succ, List.append_assoc, List.append_assoc]
    rfl
  rw [e2, e, Int.mul_comm (at2 M i j), Int.mul_comm (at2 M i k)]
theorem Bar.next {n : Nat} {S B M M' : List (List Int)} {k : Nat} {sgn last : Int} (h : Bar n S B M k sgn last) (hk1 : k + 1 < n) (hp : at2 M k k ≠ 0) (sm : Sq n M') (hM : ∀ i j, k < i → i < n → k < j → j < n → at2 M' i j = red ((fnR B).take (k + 1)) (cols (k + 1)) (fnA B i) j) : Bar n S B M' (k + 1) sgn (at2 M k k) := by
  have hb := h.sb.len
  have e : at2 M k k = dt ((fnR B).take (k + 1)) (cols (k + 1)) := by
    rw [h.ent k k (by omega) (by omega) (by omega) (by omega), fnR_take (by omega), show cols (k + 1) = cols k ++ [k] from List.range_succ]
    rfl
  exact ⟨hk1, h.sb, sm, h.one, h.det, h.mem, e, hp, fun i j hi hi2 hj hj2 => hM i j (by omega) hi2 (by omega) hj2⟩
theorem Bar.sing {n : Nat} {S B M : List (List Int)} {k : Nat} {sgn last : Int} (h : Bar n S B M k sgn last) (hz : ∀ i, k ≤ i → i < n → at2 M i k = 0) : dt (fnR S) (cols n) = 0 := by
  have hk := h.kn
  have hb := h.sb.len
  have e1 : fnR B = (fnR B).take k ++ (fnR B).drop k := (List.take_append_drop _ _).symm
  have e2 : cols n = cols k ++ k :: (List.range' (k + 1) (n - k - 1)) := by
    have e3 := List.range'_append_1 (s := 0) (m := k) (n := n - k)
    rw [show k + (n - k) = n by omega, Nat.zero_add, show n - k = (n - k - 1) + 1 by omega, List.range'_succ] at e3
    show List.range n = List.range k ++ _
    rw [List.range_eq_range', List.range_eq_range', ← e3]
  rw [h.det, e1, e2, dt_sing (by rw [← h.lst]; exact h.ne) (fun r hr => ?_) (by rw [List.length_range', List.length_drop, fnR_len]; omega), Int.mul_zero]
  obtain ⟨t, ht⟩ := List.mem_iff_getElem?.mp hr
  rw [List.getElem?_drop] at ht
  have hlt := (List.getElem?_eq_some_iff.mp ht).1
  rw [fnR_len] at hlt
  rw [fnR_get hlt] at ht
  cases ht
  rw [← h.ent (k + t) k (by omega) (by omega) (by omega) hk]
  exact hz _ (by omega) (by omega)
theorem Bar.end_ {n : Nat} {S B M : List (List Int)} {k : Nat} {sgn last : Int} (h : Bar n S B M k sgn last) (hk : k + 1 = n) : sgn * at2 M k k = dt (fnR S) (cols n) := by
  have hb := h.sb.len
  rw [h.det, h.ent k k (by omega) (by omega) (by omega) (by omega)]
  congr 1
  unfold red
  rw [← fnR_take (by omega), ← List.range_succ, List.take_of_length_le (by rw [fnR_len]; omega), ← hk]
theorem Bar.bound {n X : Nat} {S B M : List (List Int)} {k i j : Nat} {sgn last : Int} (h : Bar n S B M k sgn last) (hX : ∀ r ∈ S, ∀ x ∈ r, x.natAbs ≤ X) (h1 : 1 ≤ n * X) (hi : k ≤ i) (hi2 : i < n) (hj : k ≤ j) (hj2 : j < n) : (at2 M i j).natAbs ≤ (n * X) ^ n ∧ last.natAbs ≤ (n * X) ^ n := by
  have hk := h.kn
  have hb := h.sb.len
  have rb : ∀ r ∈ fnR B, ∀ c, (r c).natAbs ≤ X := fun r hr c => by
    obtain ⟨r0, h0, rfl⟩ := List.mem_map.mp hr
    show (r0.getD c 0).natAbs ≤ X
    rw [List.getD_eq_getElem?_getD]
    cases q : r0[c]? with
    | none => exact Nat.zero_le _
    | some x => exact hX r0 (h.mem r0 h0) x (List.mem_of_getElem? q)
  have ab : ∀ c, (fnA B i c).natAbs ≤ X := rb _ (List.mem_of_getElem? (fnR_get (by omega)))
  constructor
  · rw [h.ent i j hi hi2 hj hj2]
    refine Nat.le_trans (dt_bound (N := n) h1 _ _ (fun r hr c => ?_) (by rw [List.length_append, List.length_range]; simp; omega)) (Nat.pow_le_pow_right h1 (by rw [List.length_append, h.take_len, List.length_range]; simp; omega))
    rcases List.mem_append.mp hr with hr | hr
    · exact rb r (List.mem_of_mem_take hr) c
    · rw [List.mem_singleton.mp hr]; exact ab c
  · rw [h.lst]
    exact Nat.le_trans (dt_bound (N := n) h1 _ _ (fun r hr c => rb r (List.mem_of_mem_take hr) c) (by rw [List.length_range]; omega)) (Nat.pow_le_pow_right h1 (by rw [h.take_len, List.length_range]; omega))
end
end Z
namespace Z
noncomputable section
open PySem PySem.Spec PySem.P PyProof.Rows L2
/-! ### plain side of lists of lists -/
def rowI (M : List (List Int)) (a : Nat) : List Int := M.getD a []
def rowsD (M : List (List Int)) : List (List D) := M.map fun r => r.map .int
section
variable {s : SS} {fa fb fc fe : SS → R D} {f : SS → RS}
@[simp] theorem flR_int (i : Int) : flR (.ok (.int i)) = .ok (.int i) := rfl
@[simp] theorem flR_bl (b : Bool) : flR (.ok (.bl b)) = .ok (.bl b) := rfl
@[simp] theorem flR_str (x : List Nat) : flR (.ok (.str x)) = .ok (.str x) := rfl
@[simp] theorem flR_non : flR (.ok .non) = .ok .non := rfl
theorem eBrwN_at {i : Nat} {kb : Bool} {ess : List (List D)} (h : s[i]? = some (nll kb ess)) : eBrwN i fe s = flR (fe (s.set i (.sh (.lst (ess.map .lst))))) := by
  unfold eBrwN ntL
  rw [h, getNl_nll]
def rBrwN (s : SS) (fe : SS → R D) (i : Nat) : Option (Bool × List (List D)) → R D
  | some (_, ess) => flR (fe (s.set i (.sh (.lst (ess.map .lst)))))
  | none => .bad
@[simp] theorem eBrwN_s (i : Nat) : eBrwN i fe s = rBrwN s fe i (getNl s[i]?) := by
  unfold eBrwN ntL rBrwN
  split <;> simp_all
@[simp] theorem rBrwN_ok (i : Nat) (kb : Bool) (ess : List (List D)) : rBrwN s fe i (some (kb, ess)) = flR (fe (s.set i (.sh (.lst (ess.map .lst))))) := rfl
@[simp] theorem sRetM_s : sRetM fe s = rE s (fe s) fun d s => .rm d s := rfl
theorem sSetII_at {i j : Nat} {kb : Bool} {ess : List (List D)} {d x y : D} {es es' : List D} (h : s[i]? = some (nll kb ess)) (he : fe s = .ok d) (ha : fa s = .ok x) (hb : fb s = .ok y) (h1 : rowAt ess x = some (j, es)) (h2 : putAt es y d = some es') :
    sSetII i fa fb fe s = .nx (s.set i (nll kb (ess.set j es'))) := by
  unfold sSetII ntL
  rw [h, getNl_nll]
  dsimp only
  unfold sE
  rw [he]
  dsimp only
  rw [ha]
  dsimp only
  rw [h1]
  dsimp only
  rw [hb]
  dsimp only
  rw [h2]
theorem ix_row {M : List (List Int)} {a : Nat} (h : a < M.length) : ixD (.lst ((rowsD M).map .lst)) (.int (a : Nat)) = .ok (.lst ((rowI M a).map .int)) := by
  refine ixD_l _ _ (by omega) _ ?_
  unfold rowsD rowI
  rw [Int.toNat_natCast, List.getElem?_map, List.getElem?_map, List.getD_eq_getElem?_getD, List.getElem?_eq_getElem h]
  rfl
theorem ix_at {M : List (List Int)} {a b : Nat} (h : b < (rowI M a).length) : ixD (.lst ((rowI M a).map .int)) (.int (b : Nat)) = .ok (.int (at2 M a b)) := by
  refine ixD_l _ _ (by omega) _ ?_
  unfold at2
  unfold rowI at h ⊢
  rw [Int.toNat_natCast, List.getElem?_map, List.getD_eq_getElem?_getD (l := M.getD a []), List.getElem?_eq_getElem h]
  rfl
theorem Sq.at_ {n : Nat} {M : List (List Int)} (h : Sq n M) {a : Nat} (ha : a < n) : (rowI M a).length = n := by
  unfold rowI
  rw [List.getD_eq_getElem?_getD, List.getElem?_eq_getElem (by rw [h.len]; exact ha)]
  exact h.row _ (List.getElem_mem _)
def setAt (M : List (List Int)) (i j : Nat) (v : Int) : List (List Int) := M.set i ((rowI M i).set j v)
theorem Sq.setAt {n : Nat} {M : List (List Int)} (h : Sq n M) {i j : Nat} {v : Int} (hi : i < n) : Sq n (Z.setAt M i j v) := by
  refine ⟨by unfold Z.setAt; rw [List.length_set]; exact h.len, fun r hr => ?_⟩
  rcases List.mem_or_eq_of_mem_set hr with hr | hr
  · exact h.row r hr
  · rw [hr, List.length_set]; exact h.at_ hi
theorem at2_setAt {n : Nat} {M : List (List Int)} (h : Sq n M) {i j : Nat} {v : Int} (hi : i < n) (hj : j < n) (a b : Nat) : at2 (setAt M i j v) a b = if a = i ∧ b = j then v else at2 M a b := by
  have hl := h.at_ hi
  unfold rowI at hl
  unfold at2 Z.setAt rowI
  by_cases ha : a = i
  · subst ha
    have e : (M.set a ((M.getD a []).set j v)).getD a [] = (M.getD a []).set j v := by
      rw [List.getD_eq_getElem?_getD, List.getElem?_set_self (by rw [h.len]; exact hi)]
      rfl
    rw [e]
    by_cases hb : b = j
    · subst hb
      rw [if_pos ⟨rfl, rfl⟩, List.getD_eq_getElem?_getD, List.getElem?_set_self (by omega)]
      rfl
    · rw [if_neg (fun q => hb q.2), List.getD_eq_getElem?_getD, List.getElem?_set_ne (Ne.symm hb), ← List.getD_eq_getElem?_getD]
  · rw [if_neg (fun q => ha q.1)]
    have e : (M.set i ((M.getD i []).set j v)).getD a [] = M.getD a [] := by
      rw [List.getD_eq_getElem?_getD, List.getElem?_set_ne (Ne.symm ha), ← List.getD_eq_getElem?_getD]
    rw [e]
theorem rowsD_len (M : List (List Int)) : (rowsD M).length = M.length := List.length_map _
theorem rowsD_get {M : List (List Int)} {a : Nat} (h : a < M.length) : (rowsD M)[a]? = some ((rowI M a).map .int) := by
  unfold rowsD rowI
  rw [List.getElem?_map, List.getD_eq_getElem?_getD, List.getElem?_eq_getElem h]
  rfl
theorem rowsD_swap (M : List (List Int)) (j l : Nat) : rowsD (swapL M j l) = swapL (rowsD M) j l := swapL_map _ _ _ _
theorem rowsD_set (M : List (List Int)) (i j : Nat) (v : Int) : (rowsD M).set i (((rowI M i).map .int).set j (.int v)) = rowsD (setAt M i j v) := by
  unfold rowsD Z.setAt
  rw [List.map_set, List.map_set]
theorem sSwap_at {i jp jq r : Nat} {kb : Bool} {M : List (List Int)} {p q : Nat} (h : s[i]? = some (nll kb (rowsD M))) (h1 : s[jp]? = some (.sh (.int (p : Nat)))) (h2 : s[jq]? = some (.sh (.int (q : Nat)))) (hp : p < M.length) (hq : q < M.length) (hf : ptFree i s = true) :
    sSwap i jp jq r s = optS (setS (s.set i (nll kb (rowsD (swapL M p q)))) r .no) := by
  unfold sSwap ntL intS
  rw [h, h1, h2, getNl_nll]
  dsimp only
  rw [rowAt_nat (rowsD_get hp), rowAt_nat (rowsD_get hq)]
  dsimp only
  rw [if_pos hf, rowsD_swap]
  unfold swapL
  rw [rowsD_get hp, rowsD_get hq]
/-- a slot that holds nothing own -/
def plS : Sl → Bool
  | .sh _ => true
  | .no => true
  | _ => false
@[simp] theorem plS_sh (d : D) : plS (.sh d) = true := rfl
@[simp] theorem plS_no : plS .no = true := rfl
theorem plS_can {a : Sl} (h : plS a = true) : canS (some a) = true := by
  cases a <;> first | rfl | cases h
theorem plS_free {a : Sl} (h : plS a = true) (i : Nat) : ptFree i (a :: s) = ptFree i s := by
  cases a <;> first | rfl | cases h
end
@[simp] theorem bnd_rm {g : SS → RS} {s : SS} (d : D) : bnd (.rm d s) g = .rm d s := rfl
@[simp] theorem bnd_rn {g : SS → RS} {s : SS} (i : Nat) : bnd (.rn i s) g = .rn i s := rfl
@[simp] theorem nt0_nll {s : SS} (ess : List (List D)) : nt0 (nll true ess :: s) = some (.lst (ess.map .lst)) := rfl
theorem finM_rm {s : SS} {d d' : D} (h : nt0 s = some d') : finM (.rm d s) = .ok d d' := by
  show (match nt0 s with | some d' => RM.ok d d' | none => .bad) = _
  rw [h]
theorem swapL_comm {α : Type} {M : List α} {j l : Nat} (hj : j < M.length) (hl : l < M.length) : swapL M j l = swapL M l j := by
  refine List.ext_getElem? fun t => ?_
  rw [swapL_get hj hl, swapL_get hl hj]
  congr 1
  unfold swp
  split <;> split <;> omega
section
variable {s : SS} {fa fb fc fe : SS → R D} {fi fs : SS → R (List D)} {ft : FG} {vs : List Nat}
theorem eCompN_ok {α : Type} {c : α → D} {g : α → List D} {l : List α} (hfi : fi s = .ok (l.map c)) (hl : l.length ≤ 16777216) (h : ∀ a ∈ l, cStep ft vs fc fe s (c a) = .ok (some (.lst (g a)))) : eCompN fi ft vs fc fe s = .ok (.lst ((l.map g).map .lst)) := by
  have e := mapD_fm c (fun _ => true) (fun a => D.lst (g a)) l (step := cStep ft vs fc fe s) (fun a ha => by rw [h a ha, if_pos rfl])
  rw [List.filter_eq_self.mpr (fun _ _ => rfl)] at e
  unfold eCompN
  rw [hfi]
  dsimp only
  rw [e]
  dsimp only
  have e2 : l.map (fun a => D.lst (g a)) = (l.map g).map .lst := by rw [List.map_map]; rfl
  rw [e2, lls_map, if_pos ⟨by rw [List.length_map, List.length_map]; exact le_sz hl, rfl⟩]
theorem sSetN_at {i : Nat} {ess : List (List D)} (h : fe s = .ok (.lst (ess.map .lst))) (hp : ptFree i s = true) : sSetN i fe s = optS (setS s i (nll false ess)) := by
  unfold sSetN sE
  rw [if_pos hp, h]
  rfl
theorem callM_at {i : Nat} {k : Bool} {d0 d d' : D} {ds : List D} {g : List D → RM} (h : s[i]? = some (.nt k d0)) (hp : ptFree i s = true) (hf : fs s = .ok ds) (hg : g (d0 :: ds) = .ok d d') : callM i g fs s = .rm d (s.set i (.nt k d')) := by
  unfold callM ntD
  rw [h]
  dsimp only
  rw [if_pos hp, hf]
  dsimp only
  rw [hg]
theorem sMulX_at {i j : Nat} {f : SS → RS} {m x y : Int} {s' : SS} (h : s[j]? = some (.sh (.int m))) (hf : f s = .rm (.int x) s') (hm : mulD (.int m) (.int x) = .ok (.int y)) : sMulX i j f s = optS (setS s' i (.sh (.int y))) := by
  unfold sMulX
  rw [h]
  dsimp only
  unfold xE
  rw [hf]
  dsimp only
  unfold sE
  dsimp only
  rw [hm]
end
/-! integers of a bounded size -/
theorem log_lt {i : Int} {n : Nat} (h : i.natAbs < 2 ^ n) (hn : 0 < n) : i.natAbs.log2 < n := by
  by_cases h0 : i.natAbs = 0
  · rw [h0]
    exact hn
  · exact (Nat.log2_lt h0).mpr h
theorem mulD_big {i j : Int} (hi : i.natAbs < 2 ^ 8000) (hj : j.natAbs < 2 ^ 8000) : mulD (.int i) (.int j) = .ok (.int (i * j)) := by
  rw [mulD_i, if_pos]
  refine .inr (.inr ?_)
  have h1 := log_lt hi (by decide)
  have h2 := log_lt hj (by decide)
  omega
theorem fdivD_exact {i j x : Int} (hj : j.natAbs < 2 ^ 8000) (h0 : j ≠ 0) (h : i = j * x) : fdivD (.int i) (.int j) = .ok (.int x) := by
  have h1 := log_lt hj (by decide)
  unfold fdivD
  dsimp only
  by_cases c : 0 < j
  · rw [if_pos ⟨c, by omega⟩, h, Int.mul_ediv_cancel_left _ h0]
  · rw [if_neg (fun q => c q.1), if_pos ⟨by omega, by omega⟩, h, Int.mul_fdiv_cancel_left _ h0]
end
end Z
namespace Z
noncomputable section
open PySem PySem.Spec PySem.P PyProof.Rows L2
/-! squares told by a function -/
def mat (t n : Nat) (f : Nat → Nat → Int) : List (List Int) := (List.range t).map fun i => (List.range n).map (f i)
theorem mat_sq (n : Nat) (f : Nat → Nat → Int) : Sq n (mat n n f) := ⟨by simp [mat], fun r hr => by
  obtain ⟨i, -, rfl⟩ := List.mem_map.mp hr
  simp⟩
theorem mat_row {t n : Nat} {f : Nat → Nat → Int} {i : Nat} (hi : i < t) : rowI (mat t n f) i = (List.range n).map (f i) := by
  unfold rowI mat
  rw [List.getD_eq_getElem?_getD, List.getElem?_map, List.getElem?_range hi]
  rfl
theorem mat_at {t n : Nat} {f : Nat → Nat → Int} {i j : Nat} (hi : i < t) (hj : j < n) : at2 (mat t n f) i j = f i j := by
  have e : at2 (mat t n f) i j = (rowI (mat t n f) i).getD j 0 := rfl
  rw [e, mat_row hi, List.getD_eq_getElem?_getD, List.getElem?_map, List.getElem?_range hj]
  rfl
theorem mat_bound {t n : Nat} {f : Nat → Nat → Int} {X : Nat} (h : ∀ i j, i < t → j < n → (f i j).natAbs ≤ X) : ∀ r ∈ mat t n f, ∀ x ∈ r, x.natAbs ≤ X := fun r hr x hx => by
  obtain ⟨i, hi, rfl⟩ := List.mem_map.mp hr
  obtain ⟨j, hj, rfl⟩ := List.mem_map.mp hx
  exact h i j (List.mem_range.mp hi) (List.mem_range.mp hj)
theorem mat_succ (t n : Nat) (f : Nat → Nat → Int) : mat (t + 1) n f = mat t n f ++ [(List.range n).map (f t)] := by
  unfold mat
  rw [List.range_succ, List.map_append]
  rfl
theorem fnR_at {M : List (List Int)} {r : Nat → Int} {i : Nat} (h : (fnR M)[i]? = some r) : i < M.length ∧ r = fnA M i := by
  have hi := (List.getElem?_eq_some_iff.mp h).1
  rw [fnR_len] at hi
  rw [fnR_get hi] at h
  cases h
  exact ⟨hi, rfl⟩
end
end Z
namespace Z
noncomputable section
open PySem PySem.Spec PySem.P PyProof.Rows L2
/-! ### own dicts of own lists -/
section
variable {G : GE} {F H : Hp}
theorem ItL.look {ds : List D} {vs : List V} {L : List Addr} (h : ItL G F H ds vs L) {k : Key} {es : List D} : ∀ kvs : List (Key × V), kvs.map (·.2) = vs → Z.look (kvs.map (·.1)) ds k = some (.lst es) → ∃ b xs, valV kvs k = some (.ref b) ∧ H b = some (.lst xs) ∧ RepL G F es xs ∧ b ∈ L := by
  induction h with
  | nil => intro kvs e h; cases kvs <;> simp [Z.look] at h
  | @sh d v ds vs L n r t ih =>
    intro kvs e h
    cases kvs with
    | nil => cases e
    | cons p kvs =>
      injection e with e1 e2
      have h : (if p.1 = k then some d else Z.look (kvs.map (·.1)) ds k) = some (.lst es) := h
      by_cases hk : p.1 = k
      · rw [if_pos hk] at h
        cases h
        exact absurd rfl (n es)
      · rw [if_neg hk] at h
        rw [valV_neg hk]
        exact ih kvs e2 h
  | @ow es0 b0 xs0 ds vs L h0 r t ih =>
    intro kvs e h
    cases kvs with
    | nil => cases e
    | cons p kvs =>
      injection e with e1 e2
      have e1 : p.2 = .ref b0 := e1
      have h : (if p.1 = k then some (D.lst es0) else Z.look (kvs.map (·.1)) ds k) = some (.lst es) := h
      by_cases hk : p.1 = k
      · rw [if_pos hk] at h
        cases h
        rw [valV_pos hk, e1]
        exact ⟨b0, xs0, rfl, h0, r, List.mem_cons_self ..⟩
      · rw [if_neg hk] at h
        rw [valV_neg hk]
        obtain ⟨b, xs, h1, h2, h3, h4⟩ := ih kvs e2 h
        exact ⟨b, xs, h1, h2, h3, List.mem_cons_of_mem _ h4⟩
theorem ItL.lookN {ds : List D} {vs : List V} {L : List Addr} (h : ItL G F H ds vs L) {k : Key} : ∀ kvs : List (Key × V), kvs.map (·.2) = vs → Z.look (kvs.map (·.1)) ds k = none → valV kvs k = none := by
  induction h with
  | nil => intro kvs e h; cases kvs with
    | nil => rfl
    | cons p kvs => cases e
  | @sh d v ds vs L n r t ih =>
    intro kvs e h
    cases kvs with
    | nil => cases e
    | cons p kvs =>
      injection e with e1 e2
      have h : (if p.1 = k then some d else Z.look (kvs.map (·.1)) ds k) = none := h
      by_cases hk : p.1 = k
      · rw [if_pos hk] at h
        cases h
      · rw [if_neg hk] at h
        rw [valV_neg hk]
        exact ih kvs e2 h
  | @ow es0 b0 xs0 ds vs L h0 r t ih =>
    intro kvs e h
    cases kvs with
    | nil => cases e
    | cons p kvs =>
      injection e with e1 e2
      have e1 : p.2 = .ref b0 := e1
      have h : (if p.1 = k then some (D.lst es0) else Z.look (kvs.map (·.1)) ds k) = none := h
      by_cases hk : p.1 = k
      · rw [if_pos hk] at h
        cases h
      · rw [if_neg hk] at h
        rw [valV_neg hk]
        exact ih kvs e2 h
theorem ItL.putD {ds : List D} {vs : List V} {L : List Addr} (h : ItL G F H ds vs L) {k : Key} {es es' : List D} {b : Addr} {us : List V} (r2 : RepL G F es' us) : ∀ kvs : List (Key × V), kvs.map (·.2) = vs → L.Nodup → Z.look (kvs.map (·.1)) ds k = some (.lst es) → valV kvs k = some (.ref b) → ItL G F (upd H b (.lst us)) (putV (kvs.map (·.1)) ds k (.lst es')) vs L := by
  induction h with
  | nil => intro kvs e _ h; cases kvs <;> simp [Z.look] at h
  | @sh d v ds vs L n r t ih =>
    intro kvs e nd h hv
    cases kvs with
    | nil => cases e
    | cons p kvs =>
      injection e with e1 e2
      have h : (if p.1 = k then some d else Z.look (kvs.map (·.1)) ds k) = some (.lst es) := h
      show ItL G F _ (if p.1 = k then _ else _) _ _
      by_cases hk : p.1 = k
      · rw [if_pos hk] at h
        cases h
        exact absurd rfl (n es)
      · rw [if_neg hk] at h ⊢
        rw [valV_neg hk] at hv
        exact .sh n r (ih kvs e2 nd h hv)
  | @ow es0 b0 xs0 ds vs L h0 r t ih =>
    intro kvs e nd h hv
    obtain ⟨n1, n2⟩ := List.nodup_cons.mp nd
    cases kvs with
    | nil => cases e
    | cons p kvs =>
      injection e with e1 e2
      have e1 : p.2 = .ref b0 := e1
      have h : (if p.1 = k then some (D.lst es0) else Z.look (kvs.map (·.1)) ds k) = some (.lst es) := h
      show ItL G F _ (if p.1 = k then _ else _) _ _
      by_cases hk : p.1 = k
      · rw [if_pos hk]
        rw [valV_pos hk, e1] at hv
        cases hv
        exact .ow upd_same r2 (t.mono (Same.refl F) fun c o m z => by rw [upd_ne (fun q => by subst q; exact n1 m)]; exact z)
      · rw [if_neg hk] at h ⊢
        rw [valV_neg hk] at hv
        obtain ⟨b', xs', h1, h2, h3, h4⟩ := t.look kvs e2 h
        rw [hv] at h1
        cases h1
        have hb : b0 ≠ b := fun q => by subst q; exact n1 h4
        exact .ow (by rw [upd_ne hb]; exact h0) r (ih kvs e2 n2 h hv)
end
theorem ItL.uniq {G : GE} {F H F' H' : Hp} {ds : List D} {vs : List V} {L : List Addr} (h : ItL G F H ds vs L) : ∀ {L' : List Addr}, ItL G F' H' ds vs L' → L = L' := by
  induction h with
  | nil => intro L' k; cases k; rfl
  | sh n r t ih =>
    intro L' k
    cases k with
    | sh n' r' t' => exact ih t'
    | ow h' r' t' => exact absurd rfl (n _)
  | ow h r t ih =>
    intro L' k
    cases k with
    | sh n' r' t' => exact absurd rfl (n' _)
    | ow h' r' t' => rw [ih t']
theorem look_snoc : ∀ {ks : List Key} {ds : List D} {k : Key} (w w' : D), ds.length = ks.length → k ∉ ks → look (ks ++ [k]) (ds ++ [w]) k = some w ∧ putV (ks ++ [k]) (ds ++ [w]) k w' = ds ++ [w']
  | [], [], k, w, w', _, _ => ⟨if_pos rfl, if_pos rfl⟩
  | [], _ :: _, _, _, _, h, _ => by simp at h
  | _ :: _, [], _, _, _, h, _ => by simp at h
  | a :: ks, v :: ds, k, w, w', h, n => by
    have hk : a ≠ k := fun q => n (by rw [q]; exact List.mem_cons_self ..)
    obtain ⟨h1, h2⟩ := look_snoc (ks := ks) (ds := ds) (k := k) w w' (by simpa using h) fun m => n (List.mem_cons_of_mem _ m)
    refine ⟨?_, ?_⟩
    · show (if a = k then some v else look (ks ++ [k]) (ds ++ [w]) k) = _
      rw [if_neg hk]
      exact h1
    · show (if a = k then w' :: (ds ++ [w]) else v :: putV (ks ++ [k]) (ds ++ [w]) k w') = _
      rw [if_neg hk, h2]
      rfl
theorem valV_snoc {k : Key} {v : V} : ∀ {kvs : List (Key × V)}, k ∉ kvs.map (·.1) → valV (kvs ++ [(k, v)]) k = some v
  | [], _ => valV_pos rfl
  | p :: kvs, n => by
    have hk : ¬ p.1 = k := fun q => n (by rw [← q]; exact List.mem_cons_self ..)
    rw [List.cons_append, valV_neg hk]
    exact valV_snoc fun m => n (List.mem_cons_of_mem _ m)
theorem look_none_no : ∀ {ks : List Key} {ds : List D} {k : Key}, ds.length = ks.length → look ks ds k = none → k ∉ ks ∧ ∀ d, putV ks ds k d = ds ++ [d]
  | [], [], k, _, _ => ⟨by simp, fun d => rfl⟩
  | [], _ :: _, _, h, _ => by simp at h
  | _ :: _, [], _, h, _ => by simp at h
  | a :: ks, v :: ds, k, h, e => by
    have e : (if a = k then some v else look ks ds k) = none := e
    by_cases hk : a = k
    · rw [if_pos hk] at e; cases e
    · rw [if_neg hk] at e
      obtain ⟨h1, h2⟩ := look_none_no (by simpa using h) e
      refine ⟨fun m => ?_, fun d => ?_⟩
      · rcases List.mem_cons.mp m with q | q
        · exact hk q.symm
        · exact h1 q
      · show (if a = k then d :: ds else v :: putV ks ds k d) = _
        rw [if_neg hk, h2 d]
        rfl
theorem putK_new {kvs : List (Key × V)} {k : Key} {v : V} (h : k ∉ kvs.map (·.1)) : putK kvs k v = kvs ++ [(k, v)] := by
  unfold putK
  rw [if_neg]
  intro q
  obtain ⟨p, hp, e⟩ := List.any_eq_true.mp q
  exact h (by rw [← of_decide_eq_true e]; exact List.mem_map_of_mem hp)
/-! d.setdefault(k, []).append(e) -/
def ntDic (s : SS) (i : Nat) : Option (Bool × List Key × List D) := match (s[i]? : Option Sl) with
  | some (.nt k (.dic ks ds)) => some (k, ks, ds)
  | _ => none
theorem ntDic_some {s : SS} {i : Nat} {k : Bool} {ks : List Key} {ds : List D} (h : ntDic s i = some (k, ks, ds)) : s[i]? = some (.nt k (.dic ks ds)) := by
  unfold ntDic at h
  split at h
  · rename_i e
    cases h
    exact e
  · cases h
def sSdApp (i : Nat) (fk fe : SS → R D) : SS → RS := fun s => match ntDic s i with
  | some (kb, ks, ds) => if ks.length + 1 ≤ SZ ∧ ptFree i s = true then sE fk (fun x s => match keyD x with
    | some j => (match look ks ds j with
      | some (.lst es) => sE fe (fun d s => if es.length + 1 ≤ SZ then .nx (s.set i (.nt kb (.dic ks (putV ks ds j (.lst (es ++ [d])))))) else .bad) s
      | none => sE fe (fun d s => .nx (s.set i (.nt kb (.dic (ks ++ [j]) (ds ++ [.lst [d]]))))) (s.set i (.nt kb (.dic (ks ++ [j]) (ds ++ [.lst []]))))
      | _ => .bad)
    | none => .bad) s else .bad
  | none => .bad
section
variable {X : Cx} {C : CT} {W : WX} {a b c e ek : Expr} {fk fe : SS → R D} {pos pos' p lp apos sapos spos : Pos} {x : Str} {i : Nat}
theorem s_sdApp (v : Pq X C W) (i : Nat) (hk : PE X ek (tB C W fk)) (he : PE X e (tD C W fe)) (hN : X.N[i]? = some x := by rfl) (hv : Vis X.env.scope x := by first | exact Or.inl rfl | exact Or.inr (Or.inl rfl) | exact Or.inr (Or.inr rfl)) (hd : (x == ("__debug__" : Str)) = false := by decide)
    (hcd : (x == ("__classdict__" : Str)) = false := by decide)
    (hl : PE X (.List [] lp) (tF C W (eLst aNil)) := by exact s_lst s_anil)
    (m : M2 X (.Name x p) "setdefault" sapos ek (.List [] lp) spos := by exact ⟨by rfl, by rfl, by rfl, by rfl⟩)
    (hbase : attributeBase (.Call (.Attribute (.Name x p) "setdefault" sapos) [ek, .List [] lp] [] spos) "append" X.env (eval (.Call (.Attribute (.Name x p) "setdefault" sapos) [ek, .List [] lp] [] spos) X.env) = eval (.Call (.Attribute (.Name x p) "setdefault" sapos) [ek, .List [] lp] [] spos) X.env := by rfl)
    (hfew : ((backTo pos (starEach [e] X.env)).all (fun x => !x.1) && (backToKw pos (keywordEach [] X.env)).all (fun x => x.1.isSome)
      && decide (([e] : List Expr).length + ([] : List Keyword).length + (if ([] : List Keyword).isEmpty then 0 else 1) < 30)) = true := by rfl)
    (hline : (apos.endLine == pos.line) = true := by rfl) (hs : starEach [e] X.env = (false, eval e X.env) :: starEach [] X.env := by rfl) (hplain : (backTo pos (starEach [] X.env)).any (·.1) = false := by rfl)
    (hsw : swapsWith (.Call (.Attribute (.Call (.Attribute (.Name x p) "setdefault" sapos) [ek, .List [] lp] [] spos) "append" apos) [e] [] pos) none pos'.line X.env = pure false := by rfl) :
    PS X (.Expr (.Call (.Attribute (.Call (.Attribute (.Name x p) "setdefault" sapos) [ek, .List [] lp] [] spos) "append" apos) [e] [] pos) pos') (tS C W (sSdApp i fk fe)) := by
  refine ps_imp (ps_expr (pe_bm PySem.F.plainAttrs_list PySem.F.slot_list_append PySem.F.type_list_append mt_append (pe_dsetd (pe_var (i := i) hN hv hd hcd) hk hl m) (pa_cons he pa_nil hs) hbase hfew hline hs hplain) hsw) fun En σ H ⟨F, sd, S, h⟩ => ?_
  unfold sSdApp at h
  cases hx : ntDic sd i with
  | none => rw [hx] at h; exact h.elim
  | some q =>
    obtain ⟨kb, ks, ds⟩ := q
    rw [hx] at h
    dsimp only at h
    by_cases hg : ks.length + 1 ≤ SZ ∧ ptFree i sd = true
    · rw [if_pos hg] at h
      obtain ⟨hgz, hgp⟩ := hg
      have hgz' : ks.length + 1 ≤ 16777216 := (sz_is ▸ hgz)
      have ho := ntDic_some hx
      obtain ⟨a, L, k1, ⟨kvs, k2, rfl, k3, k4⟩, k5, k6, k7, -⟩ := S.openNt ho
      rw [List.length_map] at hgz'
      have hsl : kvs.length < sizeLine := by rw [sizeLine_eq]; omega
      refine ⟨_, k1, a, rfl, .inl ⟨kvs, .inl k2⟩, F, sd, S, postS_E S h fun dk u F1 H1 e1 b1 h1 => ?_⟩
      have S1 := S.mono e1
      cases qk : keyD dk with
      | none => rw [qk] at h1; exact h1.elim
      | some j =>
        rw [qk] at h1
        dsimp only at h1
        have hu := keyD_rep qk b1
        refine ⟨F1, sd, S1, ?_⟩
        have hl0 : eLst aNil sd = .ok (.lst []) := by
          show (aNil sd).bind _ = _
          show (if 0 ≤ SZ then R.ok (D.lst []) else .bad) = _
          rw [if_pos (le_sz (by omega))]
        rw [hl0]
        rintro z F2 H2 e2 ⟨pn, rfl, hn, hf, ow⟩
        have S2 := S1.mono e2
        have k2' := (e1.trans e2).hh _ _ k2
        obtain ⟨xs0, hp0, hr0⟩ := ow
        have hpa : pn ≠ a := fun q => by
          subst q
          have := e1.hh _ _ k2
          rw [hn] at this
          cases this
        have hxs0 : xs0 = [] := by
          unfold RepL at hr0
          exact hr0
        subst hxs0
        have hdl := k4.length
        rw [List.length_map] at hdl
        cases ql : look (kvs.map (·.1)) ds j with
        | some dv =>
          rw [ql] at h1
          cases dv with
          | lst es =>
            dsimp only at h1
            obtain ⟨b, xs, v1, v2, v3, v4⟩ := k4.look kvs rfl ql
            have v2' := (e1.trans e2).hh _ _ v2
            refine ⟨kvs, j, k2', hu, hsl, fun w hw => ?_, fun hw => by rw [v1] at hw; cases hw⟩
            rw [v1] at hw
            cases hw
            refine ⟨.inl ⟨rfl, xs, SqL.of v2'⟩, F2, sd, S2, postS_E S2 (PostS.mono (e1.ff.trans e2.ff) Lk.refl h1) fun d w F3 H3 e3 r3 h3 => ?_⟩
            have S3 := S2.mono e3
            obtain ⟨a3, L3, n1, ⟨kvs3, n2, n3, n4, n5⟩, n6, n7, n8, n9, -⟩ := S3.openNt ho
            rw [k1] at n1
            cases n1
            have ekv : kvs3 = kvs := by
              have := e3.hh _ _ k2'
              rw [n2] at this
              cases this
              rfl
            subst ekv
            obtain ⟨b3, xs3, w1, w2, w3, w4⟩ := n5.look kvs3 rfl ql
            rw [v1] at w1
            cases w1
            split at h3
            · rename_i hz
              have hz' : es.length + 1 ≤ 16777216 := (sz_is ▸ hz)
              refine ⟨b, xs3, w, rfl, rfl, w2, by rw [w3.length, sizeLine_eq]; omega, ?_⟩
              refine h3 F3 _ σ (n9 _ (.dic (kvs3.map (·.1)) (putV (kvs3.map (·.1)) ds j (.lst (es ++ [d])))) L3 (fun c o z mm => by rw [upd_ne (fun q => mm (by rw [q]; exact List.mem_cons_of_mem _ w4))]; exact z) ?_ n6 (fun b m => .inl m) (.inl fun _ _ h => h)) e3.ff (lk_ntk ho)
              have hba : a ≠ b := fun q => by subst q; exact (List.nodup_cons.mp n6).1 w4
              exact ⟨kvs3, by rw [upd_ne hba]; exact n2, rfl, n4, n5.putD (w3.append (RepL.cons r3 RepL.nil)) kvs3 rfl (List.nodup_cons.mp n6).2 ql v1⟩
            · exact h3.elim
          | _ => exact h1.elim
        | none =>
          rw [ql] at h1
          dsimp only at h1
          have vn := k4.lookN kvs rfl ql
          obtain ⟨nk, npv⟩ := look_none_no (by rw [List.length_map]; omega) ql
          refine ⟨kvs, j, k2', hu, hsl, fun w (hw : valV kvs j = some w) => absurd (vn.symm.trans hw) (by intro q; cases q), fun _ => ?_⟩
          obtain ⟨a1, L1, m1, ⟨kvs1, m2, m3, m4, m5⟩, m6, m7, m8⟩ := S1.callNt ho hgp
          rw [k1] at m1
          cases m1
          have ekv : kvs1 = kvs := by
            have := e1.hh _ _ k2
            rw [m2] at this
            cases this
            rfl
          subst ekv
          have hpL : pn ∉ L1 := fun q => by
            obtain ⟨o, hq⟩ := m5.there pn q
            rw [hn] at hq
            cases hq
          have L1x : ∀ b ∈ L1, b ≠ a := fun b m q => by subst q; exact (List.nodup_cons.mp m6).1 m
          have S3 := m8 F2 (upd H2 a (.dK (putK kvs1 j (.ref pn)))) (.dic (kvs1.map (·.1) ++ [j]) (ds ++ [.lst []])) (L1 ++ [pn])
            ⟨e2.ff, fun b o z => by
              have hb : b ∉ a :: L1 := fun mm => by rw [lessH_in mm] at z; cases z
              rw [lessH_out hb] at z
              rw [upd_ne (fun q => hb (by rw [q]; exact List.mem_cons_self ..))]
              exact e2.hh _ _ z, fun b o z => by
              have hb : b ≠ a := fun q => by
                subst q
                have := (m7 b (List.mem_cons_self ..)).2
                have := e2.ow b _ m2 this
                rw [z] at this
                cases this
              rw [upd_ne hb]
              exact e2.fh _ _ z, fun b o z1 z2 => by
              have hb : b ∉ a :: L1 := fun mm => by rw [lessH_in mm] at z1; cases z1
              rw [lessH_out hb] at z1
              exact e2.ow b o z1 z2⟩
            ⟨kvs1 ++ [(j, .ref pn)], by rw [upd_same, putK_new nk], by simp, by
              refine List.nodup_append.mpr ⟨m4, by simp, fun c hc d hd q => ?_⟩
              rw [List.mem_singleton.mp hd] at q
              rw [q] at hc
              exact nk hc, by
              rw [List.map_append]
              refine (m5.mono e2.ff fun b o mb z => ?_).append (.ow (by rw [upd_ne hpa]; exact hp0) RepL.nil .nil)
              rw [upd_ne (L1x b mb)]
              exact e2.hh _ _ z⟩ (by
              refine List.nodup_cons.mpr ⟨fun mm => ?_, List.nodup_append.mpr ⟨(List.nodup_cons.mp m6).2, by simp, fun c hc d hd q => ?_⟩⟩
              · rcases List.mem_append.mp mm with mm | mm
                · exact (List.nodup_cons.mp m6).1 mm
                · exact hpa (List.mem_singleton.mp mm).symm
              · rw [List.mem_singleton.mp hd] at q
                rw [q] at hc
                exact hpL hc) (fun b mb => by
              rcases List.mem_cons.mp mb with rfl | mb
              · exact ⟨e2.ow _ _ m2 (m7 _ (List.mem_cons_self ..)).2, lessH_in (List.mem_cons_self ..)⟩
              · rcases List.mem_append.mp mb with mb | mb
                · obtain ⟨o, hq⟩ := m5.there b mb
                  exact ⟨e2.ow _ _ hq (m7 _ (List.mem_cons_of_mem _ mb)).2, lessH_in (List.mem_cons_of_mem _ mb)⟩
                · rw [List.mem_singleton.mp mb]
                  refine ⟨hf, ?_⟩
                  rw [lessH_out (fun mm => by
                    rcases List.mem_cons.mp mm with q | q
                    · exact hpa q
                    · exact hpL q)]
                  exact hn)
          have ho3 : (sd.set i (.nt kb (.dic (kvs1.map (·.1) ++ [j]) (ds ++ [.lst []]))))[i]? = some (.nt kb (.dic (kvs1.map (·.1) ++ [j]) (ds ++ [.lst []]))) := List.getElem?_set_self (List.getElem?_eq_some_iff.mp ho).1
          refine ⟨.inl ⟨rfl, [], SqL.of (by rw [upd_ne hpa]; exact hp0)⟩, F2, _, S3, postS_E S3 (PostS.mono (e1.ff.trans e2.ff) (lk_ntk ho) h1) fun d w F4 H4 e4 r4 h4 => ?_⟩
          have S4 := S3.mono e4
          obtain ⟨a4, L4, n1, ⟨kvs4, n2, n3, n4, n5⟩, n6, n7, n8, n9, -⟩ := S4.openNt ho3
          rw [k1] at n1
          cases n1
          have ekv : kvs4 = kvs1 ++ [(j, .ref pn)] := by
            have := e4.hh a _ (upd_same (H := H2) (a := a) (o := .dK (putK kvs1 j (.ref pn))))
            rw [n2, putK_new nk] at this
            cases this
            rfl
          subst ekv
          have lk4 : look ((kvs1 ++ [(j, V.ref pn)]).map (·.1)) (ds ++ [.lst []]) j = some (.lst []) := by
            rw [List.map_append]
            exact (look_snoc (.lst []) (.lst [d]) (by rw [List.length_map]; omega) nk).1
          have pv4 : putV ((kvs1 ++ [(j, V.ref pn)]).map (·.1)) (ds ++ [.lst []]) j (.lst [d]) = ds ++ [.lst [d]] := by
            rw [List.map_append]
            exact (look_snoc (.lst []) (.lst [d]) (by rw [List.length_map]; omega) nk).2
          obtain ⟨b4, xs4, w1, w2, w3, w4⟩ := n5.look _ rfl lk4
          have vs4 := valV_snoc (v := V.ref pn) nk
          rw [vs4] at w1
          cases w1
          have hx4 : xs4 = [] := by
            unfold RepL at w3
            exact w3
          subst hx4
          refine ⟨pn, [], w, rfl, rfl, w2, by rw [sizeLine_eq]; decide, ?_⟩
          have hba : a ≠ pn := fun q => hpa q.symm
          have P := n5.putD (RepL.cons r4 RepL.nil) _ rfl (List.nodup_cons.mp n6).2 lk4 vs4
          rw [pv4] at P
          have S5 := n9 (upd H4 pn (.lst ([] ++ [w]))) (.dic (kvs1.map (·.1) ++ [j]) (ds ++ [.lst [d]])) L4 (fun c o z mm => by rw [upd_ne (fun q => mm (by rw [q]; exact List.mem_cons_of_mem _ w4))]; exact z)
            ⟨kvs1 ++ [(j, .ref pn)], by rw [upd_ne hba]; exact n2, by simp, n4, P⟩ n6 (fun b m => .inl m) (.inl fun _ _ h => h)
          refine h4 F4 _ σ ?_ e4.ff ?_
          · rw [List.set_set] at S5
            rw [List.set_set]
            exact S5
          · rw [List.set_set]
            have l5 : Lk (sd.set i (.nt kb (.dic (kvs1.map (·.1) ++ [j]) (ds ++ [.lst []])))) σ ((sd.set i (.nt kb (.dic (kvs1.map (·.1) ++ [j]) (ds ++ [.lst []])))).set i (.nt kb (.dic (kvs1.map (·.1) ++ [j]) (ds ++ [.lst [d]])))) σ := lk_ntk ho3
            rw [List.set_set] at l5
            exact l5
    · rw [if_neg hg] at h
      exact h.elim
end
end
end Z
namespace L30
open PySem PySem.Spec PySem.P PyProof.Rows L2 Z
noncomputable def m_law_cell_at : SS → RS :=
  (sSeq (sIf (eBin ltD (eR 1) (eCall lenD (aCons (eR 0) aNil))) (sRet (eBin ixD (eR 0) (eR 1))) sNx)
  (sRet (eC (.int 0))))
noncomputable def f_law_cell_at : List D → R D := runB false 2 m_law_cell_at
theorem cell_ok (ns : List Int) (k : Nat) : f_law_cell_at [.lst (ns.map .int), .int k] = .ok (.int (ns.getD k 0)) := by
  by_cases h : k < ns.length
  · have h' : (k : Int) < ns.length := by omega
    simp [f_law_cell_at, m_law_cell_at, runB_s, List.replicate, h']
    rw [ixD_l _ _ (by omega) (.int ns[k]) (by simp [h])]
    simp [h]
  · have h' : ¬ (k : Int) < ns.length := by omega
    simp [f_law_cell_at, m_law_cell_at, runB_s, List.replicate, h']
    simp [h]

noncomputable def m_law_number : SS → RS :=
  (sSeq (sSet 2 (eBin addD (eBin mulD (eBin mulD (eC (.int 11)) (eR 1)) (eR 1)) (eBin mulD (eC (.int 3)) (eR 1))))
  (sSeq (sIf (eBin gtD (eCall lenD (aCons (eR 0) aNil)) (eC (.int 0))) (sSet 2 (eBin addD (eR 2) (eBin fdivD (eBin ixD (eR 0) (eBin modD (eR 1) (eCall lenD (aCons (eR 0) aNil)))) (eBin addD (eC (.int 1)) (eBin fdivD (eR 1) (eCall lenD (aCons (eR 0) aNil))))))) sNx)
  (sSeq (sIf (eBin eqD (eBin modD (eR 2) (eC (.int 5))) (eC (.int 4))) (sRet (eBin subD (eBin modD (eBin fdivD (eR 2) (eC (.int 5))) (eBin addD (eBin mulD (eC (.int 2)) (eBin powD (eC (.int 10)) (eC (.int 12)))) (eC (.int 1)))) (eBin powD (eC (.int 10)) (eC (.int 12))))) sNx)
  (sRet (eBin subD (eBin modD (eBin fdivD (eR 2) (eC (.int 5))) (eC (.int 13))) (eC (.int 6)))))))
noncomputable def f_law_number : List D → R D := runB false 3 m_law_number
theorem number_ok (ns : List Int) (k : Nat) (hk : k ≤ 1000) (hl : ns.length ≤ 63) : ∃ x : Int, f_law_number [.lst (ns.map .int), .int (k : Nat)] = .ok (.int x) ∧ x.natAbs ≤ 1000000000000 := by
  have pw : powD (.int 10) (.int 12) = .ok (.int 1000000000000) := powD_i 10 12 (by decide) (by decide) (by decide)
  have ml : mulD (.int 2) (.int 1000000000000) = .ok (.int 2000000000000) := by rw [mulD_i, if_pos (.inl (by decide))]; rfl
  have m1 : mulD (.int 11) (.int (k : Nat)) = .ok (.int (11 * k)) := by rw [mulD_i, if_pos (.inl (by decide))]
  have m2 : mulD (.int (11 * k)) (.int (k : Nat)) = .ok (.int (11 * k * k)) := by rw [mulD_i, if_pos (.inl (by omega))]
  have m3 : mulD (.int 3) (.int (k : Nat)) = .ok (.int (3 * k)) := by rw [mulD_i, if_pos (.inl (by decide))]
  have rest : ∀ c : Int, ∃ x : Int, fin false ((sSeq (sIf (eBin eqD (eBin modD (eR 2) (eC (.int 5))) (eC (.int 4))) (sRet (eBin subD (eBin modD (eBin fdivD (eR 2) (eC (.int 5))) (eBin addD (eBin mulD (eC (.int 2)) (eBin powD (eC (.int 10)) (eC (.int 12)))) (eC (.int 1)))) (eBin powD (eC (.int 10)) (eC (.int 12))))) sNx)
      (sRet (eBin subD (eBin modD (eBin fdivD (eR 2) (eC (.int 5))) (eC (.int 13))) (eC (.int 6))))) [.sh (.lst (ns.map .int)), .sh (.int (k : Nat)), .sh (.int c)]) = .ok (.int x) ∧ x.natAbs ≤ 1000000000000 := fun c => by
    by_cases h1 : c % 5 = 4
    · refine ⟨c / 5 % 2000000000001 - 1000000000000, ?_, ?_⟩
      · simp [modD_i, fdivD_s, h1, pw, ml]
      · have := Int.emod_nonneg (c / 5) (show (2000000000001 : Int) ≠ 0 by decide)
        have := Int.emod_lt_of_pos (c / 5) (show (0 : Int) < 2000000000001 by decide)
        omega
    · have h1' : (c % 5 == 4) = false := by simpa using h1
      refine ⟨c / 5 % 13 - 6, ?_, ?_⟩
      · simp [modD_i, fdivD_s, h1']
      · omega
  by_cases hc : 0 < ns.length
  · have hc' : (0 : Int) < ns.length := by omega
    obtain ⟨sp, hsp⟩ : ∃ sp : Nat, ns.length = sp := ⟨_, rfl⟩
    obtain ⟨km, hkm⟩ : ∃ km, km = k % sp := ⟨_, rfl⟩
    obtain ⟨kd, hkd⟩ : ∃ kd, kd = k / sp := ⟨_, rfl⟩
    have e1 : (ns.length : Int) = (sp : Nat) := by omega
    have md : modD (.int (k : Nat)) (.int (sp : Nat)) = .ok (.int (km : Nat)) := by rw [modD_i _ _ (by omega), hkm]; rfl
    have dv : fdivD (.int (k : Nat)) (.int (sp : Nat)) = .ok (.int (kd : Nat)) := by rw [fdivD_s _ _ (by omega) (by omega), hkd]; rfl
    have hlt3 : km < ns.length := by
      rw [hkm, hsp]
      exact Nat.mod_lt k (by omega)
    have hdv : kd ≤ 1000 := hkd ▸ Nat.le_trans (Nat.div_le_self _ _) (by omega)
    have ix : ixD (.lst (ns.map .int)) (.int (km : Nat)) = .ok (.int (ns.getD km 0)) := by
      refine ixD_l _ _ (by omega) _ ?_
      rw [Int.toNat_natCast, List.getElem?_map, List.getD_eq_getElem?_getD, List.getElem?_eq_getElem hlt3]
      rfl
    have dv2 : ∀ q : Int, fdivD (.int q) (.int (1 + (kd : Nat))) = .ok (.int (q / (1 + (kd : Nat)))) := fun q => fdivD_s _ _ (by omega) (by omega)
    have hsp0 : (0 : Int) < (sp : Nat) := by omega
    obtain ⟨x, hx, hx2⟩ := rest (11 * k * k + 3 * k + ns.getD km 0 / (1 + (kd : Nat)))
    refine ⟨x, ?_, hx2⟩
    rw [← hx]
    generalize ns.getD km 0 = q at *
    have ln : lenD [.lst (ns.map .int)] = .ok (.int (sp : Nat)) := by simp [hsp]
    simp only [f_law_number, m_law_number, runB_s]
    generalize D.lst (ns.map D.int) = SC at *
    simp [List.replicate, m1, m2, m3, ln, hsp0, show 0 < sp by omega, md, ix, dv, dv2, -fin_rt]
  · have hc' : ¬ (0 : Int) < ns.length := by omega
    have hz : ns.length = 0 := by omega
    obtain ⟨x, hx, hx2⟩ := rest (11 * k * k + 3 * k)
    refine ⟨x, ?_, hx2⟩
    rw [← hx]
    have ln : lenD [.lst (ns.map .int)] = .ok (.int 0) := by simp [hz]
    simp only [f_law_number, m_law_number, runB_s]
    generalize D.lst (ns.map D.int) = SC at *
    simp [List.replicate, m1, m2, m3, ln, -fin_rt]

noncomputable def m_law_pair : SS → RS :=
  (sSeq (sSetO 2 (eLst aNil))
  (sSeq (sSetO 3 (eLst aNil))
  (sSeq (sFor (iRg1 (aCons (eR 1) aNil)) (gN 4) (sSeq (sApp 2 (eComp (iRg1 (aCons (eR 1) aNil)) (gN 5) [5] cYes (eIf (eBin ltD (eR 5) (eR 4)) (eCall f_law_number (aCons (eV 0) (aCons (eBin addD (eBin mulD (eR 4) (eC (.int 14))) (eR 5)) aNil))) (eCall intZ (aCons (eBin eqD (eR 4) (eR 5)) aNil)))))
  (sApp 3 (eComp (iRg1 (aCons (eR 1) aNil)) (gN 5) [5] cYes (eIf (eBin geD (eR 5) (eR 4)) (eCall f_law_number (aCons (eV 0) (aCons (eBin addD (eBin addD (eC (.int 200)) (eBin mulD (eR 4) (eC (.int 14)))) (eR 5)) aNil))) (eC (.int 0)))))))
  (sFrz 3 (sFrz 2 (sRet (eTup (aCons (eV 2) (aCons (eV 3) aNil)))))))))
noncomputable def f_law_pair : List D → R D := runB false 6 m_law_pair
def lowF (N : Nat → Int) (i j : Nat) : Int := if j < i then N (i * 14 + j) else if i = j then 1 else 0
def uppF (N : Nat → Int) (i j : Nat) : Int := if i ≤ j then N (200 + i * 14 + j) else 0
theorem pair_ok (ns : List Int) (n : Nat) (hn : n ≤ 14) (hl : ns.length ≤ 63) : ∃ N : Nat → Int, (∀ k, (N k).natAbs ≤ 1000000000000) ∧ f_law_pair [.lst (ns.map .int), .int (n : Nat)] = .ok (.tup [.lst ((rowsD (mat n n (lowF N))).map .lst), .lst ((rowsD (mat n n (uppF N))).map .lst)]) := by
  have ch : ∀ k : Nat, ∃ x : Int, (k ≤ 1000 → f_law_number [.lst (ns.map .int), .int (k : Nat)] = .ok (.int x)) ∧ x.natAbs ≤ 1000000000000 := fun k => by
    by_cases hk : k ≤ 1000
    · obtain ⟨x, h1, h2⟩ := number_ok ns k hk hl
      exact ⟨x, fun _ => h1, h2⟩
    · exact ⟨0, fun h => absurd h hk, by decide⟩
  obtain ⟨N, hN⟩ := Classical.axiomOfChoice ch
  refine ⟨N, fun k => (hN k).2, ?_⟩
  have num := fun k (hk : k ≤ 1000) => (hN k).1 hk
  clear hN ch
  generalize D.lst (ns.map D.int) = SC at *
  have rows : ∀ (f : Nat → Nat → Int) (t : Nat) (e : SS → R D) (W : SS), W.length = 6 → (∀ y, W[5]? = some y → canS (some y) = true) → t < n → (∀ j, j < n → e (W.set 5 (.sh (.int (j : Nat)))) = .ok (.int (f t j))) → rComp (mapD (cStep (gN 5) [5] cYes e W) (rangeD 0 (n : Nat))) = .ok (.lst (((List.range n).map (f t)).map .int)) := fun f t e W hW hp ht he => by
    rw [comp_range (fun j => .int (f t j)) 0 (n : Nat) n (by omega) (by omega) (fun j hj => by
      have := he j (by omega)
      match W, hW, hp with
      | [w0, w1, w2, w3, w4, w5], _, hp => 
        simp [cStep_s, gN, setS_s, hp w5 rfl] at this ⊢
        rw [this]
        rfl)]
    rw [List.map_map]
    rfl
  simp [f_law_pair, m_law_pair, runB_s, List.replicate]
  rw [rng1_i _ (by unfold fit62; omega)]
  simp only [rFor_ok]
  refine forR_then (k := fun r => fin false (bnd r _)) (fun t s => ∃ a4 : Sl, s = [.sh SC, .sh (.int (n : Nat)), .ow (.lst ((rowsD (mat t n (lowF N))).map .lst)), .ow (.lst ((rowsD (mat t n (uppF N))).map .lst)), a4, .no] ∧ canS (some a4) = true) ⟨.no, rfl, rfl⟩ ?_ ?_
  · rintro t s ht ⟨a4, rfl, ha⟩
    rw [Int.zero_add]
    have htn : t < n := by omega
    have m1 : mulD (.int (t : Nat)) (.int 14) = .ok (.int ((t * 14 : Nat) : Int)) := by
      rw [mulD_i, if_pos (.inl (by omega))]
      simp
    have z1 : (rowsD (mat t n (lowF N))).length + 1 ≤ SZ := le_sz (by rw [rowsD_len]; simp [mat]; omega)
    have z2 : (rowsD (mat t n (uppF N))).length + 1 ≤ SZ := le_sz (by rw [rowsD_len]; simp [mat]; omega)
    have e1 : (rowsD (mat t n (lowF N))).map D.lst ++ [.lst (((List.range n).map (lowF N t)).map .int)] = (rowsD (mat (t + 1) n (lowF N))).map .lst := by
      rw [mat_succ]
      simp [rowsD]
    have e2 : (rowsD (mat t n (uppF N))).map D.lst ++ [.lst (((List.range n).map (uppF N t)).map .int)] = (rowsD (mat (t + 1) n (uppF N))).map .lst := by
      rw [mat_succ]
      simp [rowsD]
    generalize hA : (rowsD (mat t n (lowF N))).map D.lst = A at *
    generalize hB : (rowsD (mat t n (uppF N))).map D.lst = B at *
    have zA : A.length + 1 ≤ SZ := by rw [← hA, List.length_map]; exact z1
    have zB : B.length + 1 ≤ SZ := by rw [← hB, List.length_map]; exact z2
    rw [← e1, ← e2]
    have c1 := rows (lowF N) t (eIf (eBin ltD (eR 5) (eR 4)) (eCall f_law_number (aCons (eV 0) (aCons (eBin addD (eBin mulD (eR 4) (eC (.int 14))) (eR 5)) aNil))) (eCall intZ (aCons (eBin eqD (eR 4) (eR 5)) aNil))) [.sh SC, .sh (.int (n : Nat)), .ow (.lst A), .ow (.lst B), .sh (.int (t : Nat)), .no] rfl (by intro y hy; cases hy; rfl) htn (fun j hj => by
      obtain ⟨q, hq⟩ : ∃ q : Nat, q = t * 14 + j := ⟨_, rfl⟩
      have eq : ((t * 14 : Nat) : Int) + (j : Nat) = (q : Nat) := by omega
      have nq := num q (by omega)
      have e3 : ((t * 14 : Nat) : Int) = (t : Int) * 14 := by simp
      rw [e3] at m1 eq
      unfold lowF
      by_cases h1 : j < t
      · have h1' : (j : Int) < t := by omega
        rw [if_pos h1, ← hq]
        simp [h1, h1', m1, eq, nq]
      · have h1' : ¬ (j : Int) < t := by omega
        rw [if_neg h1]
        by_cases h2 : t = j
        · rw [if_pos h2]
          subst h2
          simp
        · have h2' : ((t : Int) == (j : Int)) = false := by simp; omega
          rw [if_neg h2]
          simp [h1, h1', h2, h2'])
    have c2 := rows (uppF N) t (eIf (eBin geD (eR 5) (eR 4)) (eCall f_law_number (aCons (eV 0) (aCons (eBin addD (eBin addD (eC (.int 200)) (eBin mulD (eR 4) (eC (.int 14)))) (eR 5)) aNil))) (eC (.int 0))) [.sh SC, .sh (.int (n : Nat)), .ow (.lst (A ++ [.lst (((List.range n).map (lowF N t)).map .int)])), .ow (.lst B), .sh (.int (t : Nat)), .no] rfl (by intro y hy; cases hy; rfl) htn (fun j hj => by
      obtain ⟨q, hq⟩ : ∃ q : Nat, q = 200 + t * 14 + j := ⟨_, rfl⟩
      have eq : 200 + ((t * 14 : Nat) : Int) + (j : Nat) = (q : Nat) := by omega
      have nq := num q (by omega)
      have e3 : ((t * 14 : Nat) : Int) = (t : Int) * 14 := by simp
      rw [e3] at m1 eq
      unfold uppF
      by_cases h1 : t ≤ j
      · have h1' : (t : Int) ≤ j := by omega
        rw [if_pos h1, ← hq]
        simp [h1, h1', m1, eq, nq]
      · have h1' : ¬ (t : Int) ≤ j := by omega
        rw [if_neg h1]
        simp [h1, h1'])
    have rg : rng1 [.int (n : Nat)] = .ok (rangeD 0 (n : Nat)) := rng1_i _ (by unfold fit62; omega)
    generalize ((List.range n).map (lowF N t)).map D.int = LA at *
    generalize ((List.range n).map (uppF N t)).map D.int = UB at *
    simp [turn_s, gN, setS_s, ha, rg, -rComp_ok]
    rw [c1]
    simp [zA, rg, -rComp_ok]
    rw [c2]
    simp [zB]
  · rintro s ⟨a4, rfl, -⟩
    rw [Int.sub_zero, Int.toNat_natCast]
    simp

noncomputable def m_law_product : SS → RS :=
  (sSeq (sSet 2 (eCall lenD (aCons (eR 0) aNil)))
  (sSeq (sSetO 3 (eLst aNil))
  (sSeq (sFor (iRg1 (aCons (eR 2) aNil)) (gN 4) (sApp 3 (eComp (iRg1 (aCons (eR 2) aNil)) (gN 5) [5] cYes (eCall sumD (aCons (eComp (iRg1 (aCons (eR 2) aNil)) (gN 6) [6] cYes (eBin mulD (eBin ixD (eBin ixD (eR 0) (eR 4)) (eR 6)) (eBin ixD (eBin ixD (eR 1) (eR 6)) (eR 5)))) aNil)))))
  (sFrz 3 (sRet (eV 3))))))
noncomputable def f_law_product : List D → R D := runB false 7 m_law_product
def prodF (n : Nat) (L U : List (List Int)) (i j : Nat) : Int := ((List.range n).map fun k => at2 L i k * at2 U k j).sum
theorem product_ok {n : Nat} {L U : List (List Int)} (hL : Sq n L) (hU : Sq n U) (hn : n ≤ 14) (bL : ∀ i j, i < n → j < n → (at2 L i j).natAbs ≤ 1000000000000) (bU : ∀ i j, i < n → j < n → (at2 U i j).natAbs ≤ 1000000000000) : f_law_product [.lst ((rowsD L).map .lst), .lst ((rowsD U).map .lst)] = .ok (.lst ((rowsD (mat n n (prodF n L U))).map .lst)) := by
  have hll := hL.len
  have hul := hU.len
  have ixr := fun a (ha : a < n) => ix_row (M := L) (a := a) (by omega)
  have ixa := fun a b (ha : a < n) (hb : b < n) => ix_at (M := L) (a := a) (b := b) (by rw [hL.at_ ha]; exact hb)
  have uxr := fun a (ha : a < n) => ix_row (M := U) (a := a) (by omega)
  have uxa := fun a b (ha : a < n) (hb : b < n) => ix_at (M := U) (a := a) (b := b) (by rw [hU.at_ ha]; exact hb)
  have ln : lenD [.lst ((rowsD L).map .lst)] = .ok (.int (n : Nat)) := by simp [rowsD_len, hll]
  have rg : rng1 [.int (n : Nat)] = .ok (rangeD 0 (n : Nat)) := rng1_i _ (by unfold fit62; omega)
  generalize D.lst ((rowsD L).map D.lst) = LD at *
  generalize D.lst ((rowsD U).map D.lst) = UD at *
  simp [f_law_product, m_law_product, runB_s, List.replicate, ln, rg]
  refine forR_then (k := fun r => fin false (bnd r _)) (fun t s => ∃ a4 : Sl, s = [.sh LD, .sh UD, .sh (.int (n : Nat)), .ow (.lst ((rowsD (mat t n (prodF n L U))).map .lst)), a4, .no, .no] ∧ canS (some a4) = true) ⟨.no, rfl, rfl⟩ ?_ ?_
  · rintro t s ht ⟨a4, rfl, ha⟩
    rw [Int.zero_add]
    have htn : t < n := by omega
    have z1 : ((rowsD (mat t n (prodF n L U))).map D.lst).length + 1 ≤ SZ := le_sz (by rw [List.length_map, rowsD_len]; simp [mat]; omega)
    have e1 : (rowsD (mat t n (prodF n L U))).map D.lst ++ [.lst (((List.range n).map (prodF n L U t)).map .int)] = (rowsD (mat (t + 1) n (prodF n L U))).map .lst := by
      rw [mat_succ]
      simp [rowsD]
    rw [← e1]
    generalize (rowsD (mat t n (prodF n L U))).map D.lst = A at *
    have inner : ∀ j, j < n → rComp (mapD (cStep (gN 6) [6] cYes (eBin mulD (eBin ixD (eBin ixD (eR 0) (eR 4)) (eR 6)) (eBin ixD (eBin ixD (eR 1) (eR 6)) (eR 5))) [.sh LD, .sh UD, .sh (.int (n : Nat)), .ow (.lst A), .sh (.int (t : Nat)), .sh (.int (j : Nat)), .no]) (rangeD 0 (n : Nat))) = .ok (.lst (((List.range n).map fun k => at2 L t k * at2 U k j).map .int)) := fun j hj => by
      rw [comp_range (fun k => .int (at2 L t k * at2 U k j)) 0 (n : Nat) n (by omega) (by omega) (fun k hk => by
        have hkn : k < n := by omega
        have m1 : mulD (.int (at2 L t k)) (.int (at2 U k j)) = .ok (.int (at2 L t k * at2 U k j)) := by
          rw [mulD_i, if_pos (.inl (by have := bL t k htn hkn; omega))]
        simp [cStep_s, gN, setS_s, ixr t htn, ixa t k htn hkn, uxr k hkn, uxa k j hkn hj, m1])]
      rw [List.map_map]
      rfl
    have outer : rComp (mapD (cStep (gN 5) [5] cYes (eCall sumD (aCons (eComp (iRg1 (aCons (eR 2) aNil)) (gN 6) [6] cYes (eBin mulD (eBin ixD (eBin ixD (eR 0) (eR 4)) (eR 6)) (eBin ixD (eBin ixD (eR 1) (eR 6)) (eR 5)))) aNil)) [.sh LD, .sh UD, .sh (.int (n : Nat)), .ow (.lst A), .sh (.int (t : Nat)), .no, .no]) (rangeD 0 (n : Nat))) = .ok (.lst (((List.range n).map (prodF n L U t)).map .int)) := by
      rw [comp_range (fun j => .int (prodF n L U t j)) 0 (n : Nat) n (by omega) (by omega) (fun j hj => by
        have := inner j (by omega)
        rw [Int.zero_add]
        simp [cStep_s, gN, setS_s, rg, -rComp_ok]
        rw [this]
        show rStep (.ok (.bl true)) (sumD [.lst (((List.range n).map fun k => at2 L t k * at2 U k j).map .int)]) = _
        rw [sumD_m]
        rfl)]
      rw [List.map_map]
      rfl
    generalize ((List.range n).map (prodF n L U t)).map D.int = LA at *
    simp [turn_s, gN, setS_s, ha, rg, -rComp_ok]
    rw [outer]
    simp [z1]
  · rintro s ⟨a4, rfl, -⟩
    rw [Int.sub_zero, Int.toNat_natCast]
    simp

noncomputable def m_swapped_in : SS → RS :=
  (sSeq (sIf (eBrwN 0 (eBin neD (eBin ixD (eBin ixD (eR 0) (eR 1)) (eR 1)) (eC (.int 0)))) (sRetM (eC (.int 1))) sNx)
  (sSeq (sFor (iRg2 (aCons (eBin addD (eR 1) (eC (.int 1))) (aCons (eBrwN 0 (eCall lenD (aCons (eR 0) aNil))) aNil))) (gN 2) (sIf (eBrwN 0 (eBin neD (eBin ixD (eBin ixD (eR 0) (eR 2)) (eR 1)) (eC (.int 0)))) (sSeq (sSwap 0 2 1 3)
  (sRetM (eUn negD (eC (.int 1))))) sNx))
  (sRetM (eC (.int 0)))))
noncomputable def f_swapped_in : List D → RM := runM 4 m_swapped_in
def SwR (n : Nat) (M : List (List Int)) (k : Nat) (e : Int) (M' : List (List Int)) : Prop := (e = 1 ∧ M' = M ∧ at2 M k k ≠ 0) ∨ (∃ l, k < l ∧ l < n ∧ e = -1 ∧ M' = swapL M k l ∧ at2 M l k ≠ 0) ∨ (e = 0 ∧ M' = M ∧ ∀ i, k ≤ i → i < n → at2 M i k = 0)
theorem swapped_ok {n : Nat} {M : List (List Int)} (h : Sq n M) {k : Nat} (hk : k < n) (hn : n ≤ 1000) : ∃ e M', f_swapped_in [.lst ((rowsD M).map .lst), .int (k : Nat)] = .ok (.int e) (.lst ((rowsD M').map .lst)) ∧ SwR n M k e M' := by
  have hml := h.len
  have ixr := fun a (ha : a < n) => ix_row (M := M) (a := a) (by omega)
  have ixa := fun a b (ha : a < n) (hb : b < n) => ix_at (M := M) (a := a) (b := b) (by rw [h.at_ ha]; exact hb)
  have e0 : f_swapped_in [.lst ((rowsD M).map .lst), .int (k : Nat)] = finM (m_swapped_in [nll true (rowsD M), .sh (.int (k : Nat)), .no, .no]) := rfl
  rw [e0]
  by_cases c : at2 M k k = 0
  · have len : lenD [.lst ((rowsD M).map .lst)] = .ok (.int (n : Nat)) := by
      simp [rowsD_len, hml]
    simp [m_swapped_in, ixr k hk, ixa k k hk hk, c, len]
    rw [rng2_i _ _ (by unfold fit62; omega) (by unfold fit62; omega)]
    simp
    refine forL_post (fun i s => ∃ a : Sl, s = [nll true (rowsD M), .sh (.int (k : Nat)), a, .no] ∧ plS a = true ∧ ∀ t, k < t → t < k + 1 + i → at2 M t k = 0)
      (fun r => ∃ e M', finM (bnd r (sRetM (eC (D.int 0)))) = .ok (.int e) (.lst ((rowsD M').map .lst)) ∧ SwR n M k e M')
      _ _ ⟨.no, rfl, rfl, fun t h1 h2 => by omega⟩ ?_ ?_
    · rintro i d s hd ⟨a, rfl, ha, hz⟩
      obtain ⟨rfl, hlt⟩ := rangeD_get hd
      obtain ⟨q, hq⟩ : ∃ q : Nat, q = k + 1 + i := ⟨_, rfl⟩
      have e1 : (k : Int) + 1 + i = (q : Nat) := by omega
      have hi : q < n := by omega
      rw [e1]
      by_cases c2 : at2 M q k = 0
      · simp [turn_s, gN, setS_s, plS_can ha, ixr q hi, ixa q k hi hk, c2]
        refine fun t h1 h2 => ?_
        by_cases ht : t = q
        · rw [ht]; exact c2
        · exact hz t h1 (by omega)
      · have sw := sSwap_at (s := [nll true (rowsD M), .sh (.int (k : Nat)), .sh (.int (q : Nat)), .no]) (i := 0) (jp := 2) (jq := 1) (r := 3) (kb := true) (M := M) (p := q) (q := k) rfl rfl rfl (by omega) (by omega) rfl
        have c3 : (at2 M q k == 0) = false := by simpa using c2
        have ng : negD (.int 1) = .ok (.int (-1)) := rfl
        simp [turn_s, gN, setS_s, plS_can ha, ixr q hi, ixa q k hi hk, c3, sw, ng]
        rw [finM_rm (d' := .lst ((rowsD (swapL M q k)).map .lst)) rfl]
        exact ⟨-1, swapL M q k, rfl, .inr (.inl ⟨q, by omega, hi, rfl, swapL_comm (by omega) (by omega), c2⟩)⟩
    · rintro s ⟨a, rfl, ha, hz⟩
      rw [rangeD_len] at hz
      simp
      rw [finM_rm (d' := .lst ((rowsD M).map .lst)) rfl]
      exact ⟨0, M, rfl, .inr (.inr ⟨rfl, rfl, fun i h1 h2 => by
        by_cases hik : i = k
        · rw [hik]; exact c
        · exact hz i (by omega) (by omega)⟩)⟩
  · have c3 : (at2 M k k == 0) = false := by simpa using c
    simp [m_swapped_in, ixr k hk, ixa k k hk hk, c3]
    rw [finM_rm (d' := .lst ((rowsD M).map .lst)) rfl]
    exact ⟨1, M, rfl, .inl ⟨rfl, rfl, c⟩⟩

noncomputable def m_determinant : SS → RS :=
  (sSeq (sSetN 1 (eCompN (iE (eV 0)) (gN 8) [8] cYes (eCall listWD (aCons (eR 8) aNil))))
  (sSeq (sSet 2 (eBrwN 1 (eCall lenD (aCons (eR 1) aNil))))
  (sSeq (sIf (eBin eqD (eR 2) (eC (.int 0))) (sRet (eC (.int 1))) sNx)
  (sSeq (sSet 3 (eC (.int 1)))
  (sSeq (sSet 4 (eC (.int 1)))
  (sSeq (sFor (iRg1 (aCons (eBin subD (eR 2) (eC (.int 1))) aNil)) (gN 5) (sSeq (sMulX 3 3 (callM 1 f_swapped_in (aCons (eV 5) aNil)))
  (sSeq (sIf (eBin eqD (eR 3) (eC (.int 0))) (sRet (eC (.int 0))) sNx)
  (sSeq (sFor (iRg2 (aCons (eBin addD (eR 5) (eC (.int 1))) (aCons (eR 2) aNil))) (gN 6) (sFor (iRg2 (aCons (eBin addD (eR 5) (eC (.int 1))) (aCons (eR 2) aNil))) (gN 7) (sSetII 1 (eR 6) (eR 7) (eBrwN 1 (eBin fdivD (eBin subD (eBin mulD (eBin ixD (eBin ixD (eR 1) (eR 6)) (eR 7)) (eBin ixD (eBin ixD (eR 1) (eR 5)) (eR 5))) (eBin mulD (eBin ixD (eBin ixD (eR 1) (eR 6)) (eR 5)) (eBin ixD (eBin ixD (eR 1) (eR 5)) (eR 7)))) (eR 4))))))
  (sSet 4 (eBrwN 1 (eBin ixD (eBin ixD (eR 1) (eR 5)) (eR 5))))))))
  (sRet (eBrwN 1 (eBin mulD (eR 3) (eBin ixD (eBin ixD (eR 1) (eBin subD (eR 2) (eC (.int 1)))) (eBin subD (eR 2) (eC (.int 1)))))))))))))
noncomputable def f_determinant : List D → R D := runB false 9 m_determinant
def stD (sq : D) (M : List (List Int)) (n : Nat) (sgn last : Int) (a5 a6 a7 a8 : Sl) : SS := [.sh sq, nll false (rowsD M), .sh (.int (n : Nat)), .sh (.int sgn), .sh (.int last), a5, a6, a7, a8]
noncomputable def det_cell : SS → RS := (sSetII 1 (eR 6) (eR 7) (eBrwN 1 (eBin fdivD (eBin subD (eBin mulD (eBin ixD (eBin ixD (eR 1) (eR 6)) (eR 7)) (eBin ixD (eBin ixD (eR 1) (eR 5)) (eR 5))) (eBin mulD (eBin ixD (eBin ixD (eR 1) (eR 6)) (eR 5)) (eBin ixD (eBin ixD (eR 1) (eR 5)) (eR 7)))) (eR 4))))
theorem det_cell_ok {sq : D} {M : List (List Int)} {n k i j : Nat} {sgn last x : Int} {a8 : Sl} (h : Sq n M) (hk : k < n) (hi : i < n) (hj : j < n) (hl : last.natAbs < 2 ^ 8000) (h0 : last ≠ 0) (b1 : (at2 M i j).natAbs < 2 ^ 8000) (b2 : (at2 M k k).natAbs < 2 ^ 8000) (b3 : (at2 M i k).natAbs < 2 ^ 8000) (b4 : (at2 M k j).natAbs < 2 ^ 8000)
    (hx : at2 M i j * at2 M k k - at2 M i k * at2 M k j = last * x) : det_cell (stD sq M n sgn last (.sh (.int (k : Nat))) (.sh (.int (i : Nat))) (.sh (.int (j : Nat))) a8) = .nx (stD sq (setAt M i j x) n sgn last (.sh (.int (k : Nat))) (.sh (.int (i : Nat))) (.sh (.int (j : Nat))) a8) := by
  have hml := h.len
  have ixr := fun a (ha : a < n) => ix_row (M := M) (a := a) (by omega)
  have ixa := fun a b (ha : a < n) (hb : b < n) => ix_at (M := M) (a := a) (b := b) (by rw [h.at_ ha]; exact hb)
  have m1 := mulD_big b1 b2
  have m2 := mulD_big b3 b4
  have dv := fdivD_exact hl h0 hx
  unfold det_cell stD
  rw [sSetII_at (s := [.sh sq, nll false (rowsD M), .sh (.int (n : Nat)), .sh (.int sgn), .sh (.int last), .sh (.int (k : Nat)), .sh (.int (i : Nat)), .sh (.int (j : Nat)), a8]) (i := 1) (j := i) (d := .int x) (x := .int (i : Nat)) (y := .int (j : Nat)) rfl ?_ rfl rfl (rowAt_nat (rowsD_get (by omega))) (putAt_nat (by rw [List.length_map, h.at_ hi]; exact hj) _), rowsD_set]
  · rfl
  · simp [ixr i hi, ixr k hk, ixa i j hi hj, ixa k k hk hk, ixa i k hi hk, ixa k j hk hj, m1, m2, dv]
theorem det_inner {sq : D} {S B M : List (List Int)} {n k : Nat} {sgn last : Int} {a6 a7 a8 : Sl} (h : Bar n S B M k sgn last) (hn : n ≤ 1000) (hk : k + 1 < n) (hb : ∀ i j, k ≤ i → i < n → k ≤ j → j < n → (at2 M i j).natAbs < 2 ^ 8000) (hl : last.natAbs < 2 ^ 8000) (h6 : plS a6 = true) (h7 : plS a7 = true) :
    ∃ s', forL (turn (gN 6) (sFor (iRg2 (aCons (eBin addD (eR 5) (eC (.int 1))) (aCons (eR 2) aNil))) (gN 7) det_cell)) (rangeD ((k : Int) + 1) (n : Nat)) (stD sq M n sgn last (.sh (.int (k : Nat))) a6 a7 a8) = .nx s' ∧
      ∃ M' b6 b7, s' = stD sq M' n sgn last (.sh (.int (k : Nat))) b6 b7 a8 ∧ plS b6 = true ∧ plS b7 = true ∧ Sq n M' ∧ (∀ i j, k < i → i < n → k < j → j < n → at2 M' i j = red ((fnR B).take (k + 1)) (cols (k + 1)) (fnA B i) j) ∧ ∀ j, j < n → at2 M' k j = at2 M k j := by
  obtain ⟨V, hV⟩ : ∃ V : Nat → Nat → Int, V = fun i j => red ((fnR B).take (k + 1)) (cols (k + 1)) (fnA B i) j := ⟨_, rfl⟩
  have num : ∀ i j, k < i → i < n → k < j → j < n → at2 M i j * at2 M k k - at2 M i k * at2 M k j = last * V i j := fun i j a b c d => by rw [hV]; exact h.num a b c d
  have hne := h.ne
  have hsm := h.sm
  show ∃ s', _ ∧ ∃ M' b6 b7, s' = _ ∧ plS b6 = true ∧ plS b7 = true ∧ Sq n M' ∧ (∀ i j, k < i → i < n → k < j → j < n → at2 M' i j = (fun i j => red ((fnR B).take (k + 1)) (cols (k + 1)) (fnA B i) j) i j) ∧ ∀ j, j < n → at2 M' k j = at2 M k j
  rw [← hV]
  clear hV
  refine forR_in (fun t s => ∃ M1 b6 b7, s = stD sq M1 n sgn last (.sh (.int (k : Nat))) b6 b7 a8 ∧ plS b6 = true ∧ plS b7 = true ∧ Sq n M1 ∧ ∀ a b, a < n → b < n → at2 M1 a b = if k < a ∧ k < b ∧ a < k + 1 + t then V a b else at2 M a b)
    ⟨M, a6, a7, rfl, h6, h7, hsm, fun a b ha hb => by rw [if_neg (by omega)]⟩ ?_ ?_
  · rintro t s ht ⟨M1, b6, b7, rfl, p6, p7, s1, v1⟩
    obtain ⟨i, hi⟩ : ∃ i : Nat, i = k + 1 + t := ⟨_, rfl⟩
    have e1 : (k : Int) + 1 + t = (i : Nat) := by omega
    have hin : i < n := by omega
    rw [e1]
    have tn : turn (gN 6) (sFor (iRg2 (aCons (eBin addD (eR 5) (eC (.int 1))) (aCons (eR 2) aNil))) (gN 7) det_cell) (.int (i : Nat)) (stD sq M1 n sgn last (.sh (.int (k : Nat))) b6 b7 a8) = forL (turn (gN 7) det_cell) (rangeD ((k : Int) + 1) (n : Nat)) (stD sq M1 n sgn last (.sh (.int (k : Nat))) (.sh (.int (i : Nat))) b7 a8) := by
      unfold stD
      simp [turn_s, gN, setS_s, plS_can p6]
      rw [rng2_i _ _ (by unfold fit62; omega) (by unfold fit62; omega)]
      rfl
    rw [tn]
    refine forR_in (fun u s => ∃ M2 b7, s = stD sq M2 n sgn last (.sh (.int (k : Nat))) (.sh (.int (i : Nat))) b7 a8 ∧ plS b7 = true ∧ Sq n M2 ∧ ∀ a b, a < n → b < n → at2 M2 a b = if k < a ∧ k < b ∧ (a < i ∨ (a = i ∧ b < k + 1 + u)) then V a b else at2 M a b)
      ⟨M1, b7, rfl, p7, s1, fun a b ha hb => by
        rw [v1 a b ha hb]
        by_cases c : k < a ∧ k < b ∧ a < k + 1 + t
        · rw [if_pos c, if_pos (by omega)]
        · rw [if_neg c, if_neg (by omega)]⟩ ?_ ?_
    · rintro u s hu ⟨M2, c7, rfl, q7, s2, v2⟩
      obtain ⟨j, hj⟩ : ∃ j : Nat, j = k + 1 + u := ⟨_, rfl⟩
      have e2 : (k : Int) + 1 + u = (j : Nat) := by omega
      have hjn : j < n := by omega
      rw [e2]
      have w1 : at2 M2 i j = at2 M i j := by rw [v2 i j hin hjn, if_neg (by omega)]
      have w2 : at2 M2 k k = at2 M k k := by rw [v2 k k (by omega) (by omega), if_neg (by omega)]
      have w3 : at2 M2 i k = at2 M i k := by rw [v2 i k hin (by omega), if_neg (by omega)]
      have w4 : at2 M2 k j = at2 M k j := by rw [v2 k j (by omega) hjn, if_neg (by omega)]
      have cell := det_cell_ok (sq := sq) (sgn := sgn) (a8 := a8) (x := V i j) s2 (show k < n by omega) hin hjn hl hne (by rw [w1]; exact hb i j (by omega) hin (by omega) hjn) (by rw [w2]; exact hb k k (by omega) (by omega) (by omega) (by omega)) (by rw [w3]; exact hb i k (by omega) hin (by omega) (by omega)) (by rw [w4]; exact hb k j (by omega) (by omega) (by omega) hjn)
        (by rw [w1, w2, w3, w4]; exact num i j (by omega) hin (by omega) hjn)
      have tn2 : turn (gN 7) det_cell (.int (j : Nat)) (stD sq M2 n sgn last (.sh (.int (k : Nat))) (.sh (.int (i : Nat))) c7 a8) = det_cell (stD sq M2 n sgn last (.sh (.int (k : Nat))) (.sh (.int (i : Nat))) (.sh (.int (j : Nat))) a8) := by
        unfold stD
        simp [turn_s, gN, setS_s, plS_can q7]
      rw [tn2, cell]
      refine ⟨_, rfl, _, _, rfl, rfl, s2.setAt hin, fun a b ha hb => ?_⟩
      rw [at2_setAt s2 hin hjn, v2 a b ha hb]
      by_cases c : a = i ∧ b = j
      · rw [if_pos c, if_pos (by omega), c.1, c.2]
      · rw [if_neg c]
        by_cases c2 : k < a ∧ k < b ∧ (a < i ∨ (a = i ∧ b < k + 1 + u))
        · rw [if_pos c2, if_pos (by omega)]
        · rw [if_neg c2, if_neg (by omega)]
    · rintro s ⟨M2, c7, rfl, q7, s2, v2⟩
      refine ⟨M2, _, c7, rfl, rfl, q7, s2, fun a b ha hb => ?_⟩
      rw [v2 a b ha hb]
      by_cases c : k < a ∧ k < b ∧ (a < i ∨ (a = i ∧ b < k + 1 + ((n : Nat) - ((k : Int) + 1)).toNat))
      · rw [if_pos c, if_pos (by omega)]
      · rw [if_neg c, if_neg (by omega)]
  · rintro s ⟨M1, b6, b7, rfl, p6, p7, s1, v1⟩
    refine ⟨M1, b6, b7, rfl, p6, p7, s1, fun i j hi hi2 hj hj2 => ?_, fun j hj => ?_⟩
    · rw [v1 i j hi2 hj2, if_pos (by omega)]
    · rw [v1 k j (by omega) hj, if_neg (by omega)]
theorem determinant_ok {n X : Nat} {S : List (List Int)} (h : Sq n S) (hn : n ≤ 1000) (hX : ∀ r ∈ S, ∀ x ∈ r, x.natAbs ≤ X) (h1 : 1 ≤ X) (hB : (n * X) ^ n < 2 ^ 8000) : f_determinant [.lst ((rowsD S).map .lst)] = .ok (.int (dt (fnR S) (cols n))) := by
  have hsl := h.len
  have cmp : eCompN (iE (eV 0)) (gN 8) [8] cYes (eCall listWD (aCons (eR 8) aNil)) [.sh (.lst ((rowsD S).map .lst)), .no, .no, .no, .no, .no, .no, .no, .no] = .ok (.lst ((rowsD S).map .lst)) := by
    have := eCompN_ok (fi := iE (eV 0)) (ft := gN 8) (vs := [8]) (fc := cYes) (fe := eCall listWD (aCons (eR 8) aNil)) (s := [.sh (.lst ((rowsD S).map .lst)), .no, .no, .no, .no, .no, .no, .no, .no]) (c := .lst) (g := fun x => x) (l := rowsD S) (by simp) (by rw [rowsD_len]; omega) (fun a ha => by simp [cStep_s, gN, setS_s])
    rw [List.map_id'] at this
    exact this
  have st1 := sSetN_at (i := 1) cmp rfl
  have ln : lenD [.lst ((rowsD S).map .lst)] = .ok (.int (n : Nat)) := by simp [rowsD_len, hsl]
  by_cases hn0 : n = 0
  · have hn0' : ((n : Int) == 0) = true := by simp; exact hn0
    have hS : S = [] := List.eq_nil_of_length_eq_zero (by omega)
    have e : dt (fnR S) (cols n) = 1 := by rw [hS, hn0]; rfl
    rw [e]
    simp [f_determinant, m_determinant, runB_s, List.replicate]
    rw [st1]
    simp [setS_s, ln, hn0']
  · have hX1 : 1 ≤ n * X := Nat.mul_pos (by omega) h1
    have hn0' : ((n : Int) == 0) = false := by simp; omega
    have hnm : ((n : Int) - 1) = ((n - 1 : Nat) : Int) := by omega
    have hn0d : decide (n = 0) = false := decide_eq_false hn0
    simp [f_determinant, m_determinant, runB_s, List.replicate]
    rw [st1]
    simp [setS_s, ln, hn0', hn0d, hn0]
    rw [hnm, rng1_i _ (by unfold fit62; omega)]
    simp only [rFor_ok]
    have small : ∀ {x : Int}, x.natAbs ≤ (n * X) ^ n → x.natAbs < 2 ^ 8000 := fun {x} hx => Nat.lt_of_le_of_lt hx hB
    have b0 := Bar.start (by omega) h
    refine forL_post (fun t s => ∃ M B sgn last a5 a6 a7, s = stD (.lst ((rowsD S).map .lst)) M n sgn last a5 a6 a7 .no ∧ plS a5 = true ∧ plS a6 = true ∧ plS a7 = true ∧ Bar n S B M t sgn last)
      (fun r => fin false (bnd r _) = .ok (.int (dt (fnR S) (cols n)))) _ _ ⟨S, S, 1, 1, .no, .no, .no, rfl, rfl, rfl, rfl, b0⟩ ?_ ?_
    · rintro t d s hd ⟨M, B, sgn, last, a5, a6, a7, rfl, h5, h6, h7, b⟩
      obtain ⟨rfl, hlt⟩ := rangeD_get hd
      have htn : t + 1 < n := by omega
      rw [Int.zero_add]
      obtain ⟨e, M', sw, sr⟩ := swapped_ok b.sm (show t < n by omega) hn
      have rest : ∀ {B' M' : List (List Int)} {sgn' : Int}, Bar n S B' M' t sgn' last → at2 M' t t ≠ 0 → ∃ s', (sSeq (sIf (eBin eqD (eR 3) (eC (.int 0))) (sRet (eC (.int 0))) sNx)
          (sSeq (sFor (iRg2 (aCons (eBin addD (eR 5) (eC (.int 1))) (aCons (eR 2) aNil))) (gN 6) (sFor (iRg2 (aCons (eBin addD (eR 5) (eC (.int 1))) (aCons (eR 2) aNil))) (gN 7) det_cell))
          (sSet 4 (eBrwN 1 (eBin ixD (eBin ixD (eR 1) (eR 5)) (eR 5)))))) (stD (.lst ((rowsD S).map .lst)) M' n sgn' last (.sh (.int (t : Nat))) a6 a7 .no) = .nx s' ∧
          ∃ M B sgn last a5 a6 a7, s' = stD (.lst ((rowsD S).map .lst)) M n sgn last a5 a6 a7 .no ∧ plS a5 = true ∧ plS a6 = true ∧ plS a7 = true ∧ Bar n S B M (t + 1) sgn last := fun {B' M' sgn'} b' hp => by
        obtain ⟨s', e1, M2, b6, b7, rfl, q6, q7, s2, v2, v3⟩ := det_inner (sq := .lst ((rowsD S).map .lst)) (a8 := .no) b' hn htn (fun i j hi hi2 hj hj2 => small (b'.bound hX hX1 hi hi2 hj hj2).1) (small (b'.bound hX hX1 (Nat.le_refl t) (by omega) (Nat.le_refl t) (by omega)).2) h6 h7
        have hs0 : (sgn' == 0) = false := by rcases b'.one with q | q <;> rw [q] <;> rfl
        have ixr := ix_row (M := M2) (a := t) (by rw [s2.len]; omega)
        have ixa := ix_at (M := M2) (a := t) (b := t) (by rw [s2.at_ (by omega)]; omega)
        have b2 := b'.next htn hp s2 v2
        rw [← v3 t (by omega)] at b2
        generalize hq : forL (turn (gN 6) (sFor (iRg2 (aCons (eBin addD (eR 5) (eC (.int 1))) (aCons (eR 2) aNil))) (gN 7) det_cell)) (rangeD ((t : Int) + 1) (n : Nat)) (stD (.lst ((rowsD S).map .lst)) M' n sgn' last (.sh (.int (t : Nat))) a6 a7 .no) = ff at e1
        have hq2 : sFor (iRg2 (aCons (eBin addD (eR 5) (eC (.int 1))) (aCons (eR 2) aNil))) (gN 6) (sFor (iRg2 (aCons (eBin addD (eR 5) (eC (.int 1))) (aCons (eR 2) aNil))) (gN 7) det_cell) (stD (.lst ((rowsD S).map .lst)) M' n sgn' last (.sh (.int (t : Nat))) a6 a7 .no) = ff := by
          rw [← hq]
          unfold stD
          simp
          rw [rng2_i _ _ (by unfold fit62; omega) (by unfold fit62; omega)]
          rfl
        refine ⟨stD (.lst ((rowsD S).map .lst)) M2 n sgn' (at2 M2 t t) (.sh (.int (t : Nat))) b6 b7 .no, ?_, M2, B', sgn', at2 M2 t t, _, b6, b7, rfl, rfl, q6, q7, b2⟩
        unfold sSeq
        have i1 : (sIf (eBin eqD (eR 3) (eC (.int 0))) (sRet (eC (.int 0))) sNx) (stD (.lst ((rowsD S).map .lst)) M' n sgn' last (.sh (.int (t : Nat))) a6 a7 .no) = .nx (stD (.lst ((rowsD S).map .lst)) M' n sgn' last (.sh (.int (t : Nat))) a6 a7 .no) := by
          unfold stD
          simp [hs0]
        rw [i1]
        dsimp only
        rw [hq2, e1]
        dsimp only
        unfold stD
        simp [ixr, ixa]
      have call : ∀ y : Int, mulD (.int sgn) (.int e) = .ok (.int y) → sMulX 3 3 (callM 1 f_swapped_in (aCons (eV 5) aNil)) (stD (.lst ((rowsD S).map .lst)) M n sgn last (.sh (.int (t : Nat))) a6 a7 .no) = .nx (stD (.lst ((rowsD S).map .lst)) M' n y last (.sh (.int (t : Nat))) a6 a7 .no) := fun y hy => by
        have hpf : ptFree 1 (stD (.lst ((rowsD S).map .lst)) M n sgn last (.sh (.int (t : Nat))) a6 a7 .no) = true := by
          unfold stD
          simp [plS_free h6, plS_free h7]
        have c1 := callM_at (i := 1) (k := false) (d0 := .lst ((rowsD M).map .lst)) (fs := aCons (eV 5) aNil) (s := stD (.lst ((rowsD S).map .lst)) M n sgn last (.sh (.int (t : Nat))) a6 a7 .no) rfl hpf rfl sw
        rw [sMulX_at (m := sgn) rfl c1 hy]
        rfl
      have tn : ∀ f, turn (gN 5) f (.int (t : Nat)) (stD (.lst ((rowsD S).map .lst)) M n sgn last a5 a6 a7 .no) = f (stD (.lst ((rowsD S).map .lst)) M n sgn last (.sh (.int (t : Nat))) a6 a7 .no) := fun f => by
        unfold stD
        simp [turn_s, gN, setS_s, plS_can h5]
      have ms : ∀ x : Int, (x = 1 ∨ x = -1 ∨ x = 0) → mulD (.int sgn) (.int x) = .ok (.int (sgn * x)) := fun x hx => by
        rw [mulD_i, if_pos (.inr (.inl (by rcases hx with h | h | h <;> rw [h] <;> decide)))]
      rw [tn]
      rcases sr with ⟨rfl, rfl, hp⟩ | ⟨l, hl1, hl2, rfl, rfl, hp⟩ | ⟨rfl, rfl, hz⟩
      · have c2 := call _ (ms 1 (.inl rfl))
        rw [Int.mul_one] at c2
        obtain ⟨s', e2, hs⟩ := rest b hp
        have e3 : ∀ g, sSeq (sMulX 3 3 (callM 1 f_swapped_in (aCons (eV 5) aNil))) g (stD (.lst ((rowsD S).map .lst)) M' n sgn last (.sh (.int (t : Nat))) a6 a7 .no) = g (stD (.lst ((rowsD S).map .lst)) M' n sgn last (.sh (.int (t : Nat))) a6 a7 .no) := fun g => by
          show (match sMulX 3 3 (callM 1 f_swapped_in (aCons (eV 5) aNil)) (stD (.lst ((rowsD S).map .lst)) M' n sgn last (.sh (.int (t : Nat))) a6 a7 .no) with | .nx s' => g s' | r => r) = _
          rw [c2]
        rw [e3]
        unfold det_cell at e2
        rw [e2]
        exact hs
      · have c2 := call _ (ms (-1) (.inr (.inl rfl)))
        have b' := b.swap hl1 hl2
        have hp' : at2 (swapL M t l) t t ≠ 0 := by
          rw [at2_swap (by rw [b.sm.len]; omega) (by rw [b.sm.len]; omega)]
          have : swp t l t = l := by
            unfold swp
            rw [if_neg (by omega), if_pos rfl]
          rw [this]
          exact hp
        have e0 : sgn * -1 = -sgn := by omega
        rw [e0] at c2
        obtain ⟨s', e2, hs⟩ := rest b' hp'
        have e3 : ∀ g, sSeq (sMulX 3 3 (callM 1 f_swapped_in (aCons (eV 5) aNil))) g (stD (.lst ((rowsD S).map .lst)) M n sgn last (.sh (.int (t : Nat))) a6 a7 .no) = g (stD (.lst ((rowsD S).map .lst)) (swapL M t l) n (-sgn) last (.sh (.int (t : Nat))) a6 a7 .no) := fun g => by
          show (match sMulX 3 3 (callM 1 f_swapped_in (aCons (eV 5) aNil)) (stD (.lst ((rowsD S).map .lst)) M n sgn last (.sh (.int (t : Nat))) a6 a7 .no) with | .nx s' => g s' | r => r) = _
          rw [c2]
        rw [e3]
        unfold det_cell at e2
        rw [e2]
        exact hs
      · have c2 := call _ (ms 0 (.inr (.inr rfl)))
        rw [Int.mul_zero] at c2
        have hd0 : dt (fnR S) (cols n) = 0 := b.sing hz
        have e3 : ∀ g, sSeq (sMulX 3 3 (callM 1 f_swapped_in (aCons (eV 5) aNil))) g (stD (.lst ((rowsD S).map .lst)) M' n sgn last (.sh (.int (t : Nat))) a6 a7 .no) = g (stD (.lst ((rowsD S).map .lst)) M' n 0 last (.sh (.int (t : Nat))) a6 a7 .no) := fun g => by
          show (match sMulX 3 3 (callM 1 f_swapped_in (aCons (eV 5) aNil)) (stD (.lst ((rowsD S).map .lst)) M' n sgn last (.sh (.int (t : Nat))) a6 a7 .no) with | .nx s' => g s' | r => r) = _
          rw [c2]
        rw [e3, hd0]
        unfold stD
        simp
    · rintro s ⟨M, B, sgn, last, a5, a6, a7, rfl, h5, h6, h7, b⟩
      rw [rangeD_len, show (((n - 1 : Nat) : Int) - 0).toNat = n - 1 by omega] at b
      have ixr := ix_row (M := M) (a := n - 1) (by rw [b.sm.len]; omega)
      have ixa := ix_at (M := M) (a := n - 1) (b := n - 1) (by rw [b.sm.at_ (by omega)]; omega)
      have ms := mulD_big (i := sgn) (j := at2 M (n - 1) (n - 1)) (by
        have : sgn.natAbs = 1 := by rcases b.one with q | q <;> rw [q] <;> rfl
        rw [this]
        exact Nat.one_lt_two_pow (by decide)) (small (b.bound hX hX1 (Nat.le_refl _) (by omega) (Nat.le_refl _) (by omega)).1)
      have he := b.end_ (by omega)
      unfold stD
      simp [hnm, ixr, ixa, ms, he]

noncomputable def m_law_whole : SS → RS :=
  (sRet (eAnd (eUn (isiD "int") (eR 0)) (eAnd (eNot (eUn (isiD "bool") (eR 0))) (eBin eqD (eR 0) (eR 1)))))
noncomputable def f_law_whole : List D → R D := runB false 2 m_law_whole
theorem law_whole_ok (x : Int) : f_law_whole [.int x, .int x] = .ok (.bl true) := by
  simp [f_law_whole, m_law_whole, runB_s, List.replicate]

noncomputable def m_law : SS → RS :=
  (sSeq (sSet 1 (eBin modD (eCall f_law_cell_at (aCons (eV 0) (aCons (eC (.int 0)) aNil))) (eC (.int 15))))
  (sSeq (sAsg (gT [(gN 2), (gN 3)]) (eCall f_law_pair (aCons (eV 0) (aCons (eV 1) aNil))))
  (sSeq (sSet 4 (eCall f_law_product (aCons (eV 2) (aCons (eV 3) aNil))))
  (sSeq (sSet 5 (eC (.int 1)))
  (sSeq (sFor (iRg1 (aCons (eR 1) aNil)) (gN 6) (sSet 5 (eBin mulD (eR 5) (eBin ixD (eBin ixD (eR 3) (eR 6)) (eR 6)))))
  (sSeq (sIf (eNot (eCall f_law_whole (aCons (eCall f_determinant (aCons (eV 4) aNil)) (aCons (eV 5) aNil)))) (sRet (eC (.bl false))) sNx)
  (sSeq (sSet 7 (eComp (iRg1 (aCons (eR 1) aNil)) (gN 11) [11] cYes (eComp (iRg1 (aCons (eR 1) aNil)) (gN 12) [12] cYes (eBin ixD (eBin ixD (eR 4) (eR 12)) (eR 11)))))
  (sSeq (sIf (eNot (eCall f_law_whole (aCons (eCall f_determinant (aCons (eV 7) aNil)) (aCons (eV 5) aNil)))) (sRet (eC (.bl false))) sNx)
  (sSeq (sSetO 8 (eCall listWD (aCons (eR 4) aNil)))
  (sSeq (sFor (iRg1 (aCons (eR 1) aNil)) (gN 6) (sSeq (sSet 9 (eBin addD (eR 6) (eBin modD (eCall f_law_cell_at (aCons (eV 0) (aCons (eV 6) aNil))) (eBin subD (eR 1) (eR 6)))))
  (sSeq (sIf (eBin neD (eR 9) (eR 6)) (sSet 5 (eBin subD (eC (.int 0)) (eR 5))) sNx)
  (sSeq (sSet 10 (eBin ixD (eR 8) (eR 9)))
  (sSeq (sSetI 8 (eR 9) (eBin ixD (eR 8) (eR 6)))
  (sSetI 8 (eR 6) (eV 10)))))))
  (sFrz 8 (sRet (eCall f_law_whole (aCons (eCall f_determinant (aCons (eV 8) aNil)) (aCons (eV 5) aNil)))))))))))))))
noncomputable def f_law : List D → R D := runB false 13 m_law
theorem eqvL_ints : ∀ xs : List Int, eqvL (xs.map .int) (xs.map .int) = true
  | [] => rfl
  | x :: r => by
    have := eqvL_ints r
    simp [eqvL, eqv, this]
theorem eqv_rows : ∀ M : List (List Int), eqvL ((rowsD M).map .lst) ((rowsD M).map .lst) = true ∧ depL ((rowsD M).map .lst) ≤ 1
  | [] => ⟨rfl, by simp [rowsD, depL]⟩
  | r :: M => by
    obtain ⟨h1, h2⟩ := eqv_rows M
    have e : (rowsD (r :: M)).map D.lst = .lst (r.map .int) :: (rowsD M).map .lst := rfl
    rw [e]
    refine ⟨?_, ?_⟩
    · unfold eqvL
      rw [h1]
      unfold eqv
      rw [eqvL_ints]
      rfl
    · unfold depL dep
      rw [depL_ints]
      omega
theorem neD_rows (M : List (List Int)) : neD (.lst ((rowsD M).map .lst)) (.lst ((rowsD M).map .lst)) = .ok (.bl false) := by
  obtain ⟨h1, h2⟩ := eqv_rows M
  have hd : dep (.lst ((rowsD M).map .lst)) ≤ 64 := by unfold dep; omega
  rw [neD_ok, if_pos ⟨hd, hd⟩]
  simp [eqv, h1]
theorem comp_rows {W : SS} {i : Nat} (M : List (List Int)) (hl : M.length ≤ 1000) (h : ∀ r ∈ M, cStep (gN i) [i] cYes (eCall listWD (aCons (eR i) aNil)) W (.lst (r.map .int)) = .ok (some (.lst (r.map .int)))) : rComp (mapD (cStep (gN i) [i] cYes (eCall listWD (aCons (eR i) aNil)) W) ((rowsD M).map .lst)) = .ok (.lst ((rowsD M).map .lst)) := by
  have e : (rowsD M).map D.lst = M.map fun r => D.lst (r.map .int) := by unfold rowsD; rw [List.map_map]; rfl
  rw [e, comp_mapped _ (fun r => .lst (r.map .int)) _ (by omega) h]
-- with: c_det.lean
/-! rows that are sums of the rows ahead -/
theorem comb_map (f : Nat → Int) (g : Nat → Nat → Int) (c : Nat) : ∀ l : List Nat, comb (l.map f) (l.map g) c = (l.map fun k => f k * g k c).sum
  | [] => rfl
  | k :: l => by
    show f k * g k c + comb (l.map f) (l.map g) c = f k * g k c + (l.map fun k => f k * g k c).sum
    rw [comb_map f g c l]
theorem sum_zero (f : Nat → Int) : ∀ l : List Nat, (∀ k ∈ l, f k = 0) → (l.map f).sum = 0
  | [], _ => rfl
  | k :: l, h => by
    rw [List.map_cons, List.sum_cons, h k List.mem_cons_self, sum_zero f l fun x hx => h x (List.mem_cons_of_mem _ hx)]
    rfl
theorem range_cut {n m : Nat} (h : m < n) : List.range n = List.range m ++ m :: List.range' (m + 1) (n - m - 1) := by
  have e3 := List.range'_append_1 (s := 0) (m := m) (n := n - m)
  rw [show m + (n - m) = n by omega, Nat.zero_add, show n - m = (n - m - 1) + 1 by omega, List.range'_succ] at e3
  rw [List.range_eq_range', List.range_eq_range', ← e3]
def prodZ (f : Nat → Int) : Nat → Int
  | 0 => 1
  | n + 1 => prodZ f n * f n
theorem tri {n : Nat} (a u : Nat → Nat → Int) (ha : ∀ i k, i < k → k < n → a i k = 0) (cs : List Nat) : ∀ m, m ≤ n →
    dt ((List.range n).map fun i c => ((List.range n).map fun k => a i k * u k c).sum) cs = prodZ (fun i => a i i) m * dt ((List.range m).map u ++ (List.range' m (n - m)).map fun i c => ((List.range n).map fun k => a i k * u k c).sum) cs
  | 0, _ => by
    rw [Nat.sub_zero, ← List.range_eq_range']
    show _ = 1 * _
    rw [Int.one_mul]
    rfl
  | m + 1, h => by
    rw [tri a u ha cs m (by omega)]
    have e1 : List.range' m (n - m) = m :: List.range' (m + 1) (n - (m + 1)) := by
      rw [show n - m = (n - (m + 1)) + 1 by omega, List.range'_succ]
    have e2 : (fun c => ((List.range n).map fun k => a m k * u k c).sum) = fun c => a m m * u m c + 1 * comb ((List.range m).map (a m)) ((List.range m).map u) c := funext fun c => by
      rw [range_cut (show m < n by omega), List.map_append, List.map_cons, List.sum_append, List.sum_cons, comb_map, sum_zero (fun k => a m k * u k c) (List.range' (m + 1) (n - m - 1)) fun k hk => ?_]
      · omega
      · have := List.mem_range'_1.mp hk
        rw [ha m k (by omega) (by omega), Int.zero_mul]
    rw [e1, List.map_cons, e2, dt_lin, dt_comb cs _ _ fun b hb => hb]
    show prodZ (fun i => a i i) m * (a m m * _ + 1 * 0) = prodZ (fun i => a i i) m * a m m * _
    rw [List.range_succ, List.map_append, List.append_assoc, Int.mul_zero, Int.add_zero, Int.mul_assoc]
    rfl
theorem upper (u : Nat → Nat → Int) (hu : ∀ k c, c < k → u k c = 0) : ∀ (m i : Nat) (P : Int), P * dt ((List.range' i m).map u) (List.range' i m) = P * ((List.range' i m).map fun k => u k k).foldl (· * ·) 1
  | 0, i, P => rfl
  | m + 1, i, P => by
    have e0 : ∀ (l : List Int) (x : Int), l.foldl (· * ·) x = x * l.foldl (· * ·) 1 := fun l => by
      induction l with
      | nil => intro x; simp
      | cons y l ih =>
        intro x
        rw [List.foldl_cons, List.foldl_cons, ih, ih (1 * y), Int.one_mul, Int.mul_assoc]
    have ih := upper u hu m (i + 1) 1
    rw [Int.one_mul, Int.one_mul] at ih
    rw [List.range'_succ]
    show P * (u i i * dt ((List.range' (i + 1) m).map u) (List.range' (i + 1) m) - ex (u i) (fun x => dt ((List.range' (i + 1) m).map u) (i :: x)) (List.range' (i + 1) m)) = P * ((List.range' (i + 1) m).map fun k => u k k).foldl (· * ·) (1 * u i i)
    have z : ∀ x, dt ((List.range' (i + 1) m).map u) (i :: x) = (fun _ => (0 : Int)) x := fun x => by
      have e := dt_van (A := []) (R := (List.range' (i + 1) m).map u) (cs := [i]) (t := x) fun r hr c hc => by
        obtain ⟨k, hk, rfl⟩ := List.mem_map.mp hr
        rw [List.mem_singleton.mp hc]
        exact hu k i (by have := List.mem_range'_1.mp hk; omega)
      have e2 : exs ((List.range' (i + 1) m).map u) (fun y => dt [] ([i] ++ y)) x = 0 := (exs_congr (h := fun _ => 0) (fun y => show (if [i] ++ y = [] then (1 : Int) else 0) = 0 from if_neg (by simp)) x).trans (exs_zero _ _)
      have e3 : dt ((List.range' (i + 1) m).map u) (i :: x) = dt ([] ++ (List.range' (i + 1) m).map u) ([i] ++ x) := rfl
      rw [e3, e, e2, Int.mul_zero]
    rw [ex_congr z, ex_zero, ih, Int.sub_zero, e0 _ (1 * u i i), Int.one_mul]
theorem prod_fold (f : Nat → Int) : ∀ n, ((List.range n).map f).foldl (· * ·) 1 = prodZ f n
  | 0 => rfl
  | n + 1 => by
    rw [List.range_succ, List.map_append, List.foldl_append, prod_fold f n]
    rfl
theorem dt_congr : ∀ {A B : List (Nat → Int)} {cs : List Nat}, A.length = B.length → (∀ (i : Nat) (r s : Nat → Int), A[i]? = some r → B[i]? = some s → ∀ c ∈ cs, r c = s c) → dt A cs = dt B cs
  | [], [], cs, _, _ => rfl
  | [], _ :: _, cs, h, _ => by simp at h
  | _ :: _, [], cs, h, _ => by simp at h
  | r :: A, s :: B, cs, h, k => by
    have hA : ∀ x : List Nat, (∀ c ∈ x, c ∈ cs) → dt A x = dt B x := fun x hx => dt_congr (by simpa using h) fun i r s h1 h2 c hc => k (i + 1) r s (by simpa using h1) (by simpa using h2) c (hx c hc)
    have go : ∀ (x : List Nat) (g g' : Fn), (∀ c ∈ x, c ∈ cs) → (∀ y : List Nat, (∀ c ∈ y, c ∈ x) → g y = g' y) → ex r g x = ex s g' x := fun x => by
      induction x with
      | nil => intro g g' _ _; rfl
      | cons c x ih =>
        intro g g' hx hg
        show r c * g x - ex r (fun y => g (c :: y)) x = s c * g' x - ex s (fun y => g' (c :: y)) x
        rw [k 0 r s rfl rfl c (hx c List.mem_cons_self), hg x fun d hd => List.mem_cons_of_mem _ hd, ih _ (fun y => g' (c :: y)) (fun d hd => hx d (List.mem_cons_of_mem _ hd)) fun y hy => hg _ fun d hd => by
          rcases List.mem_cons.mp hd with rfl | hd
          · exact List.mem_cons_self
          · exact List.mem_cons_of_mem _ (hy d hd)]
    exact go cs (dt A) (dt B) (fun _ h => h) fun y hy => hA y hy
theorem mat_dt (n : Nat) (f : Nat → Nat → Int) : dt (fnR (mat n n f)) (cols n) = dt ((List.range n).map f) (cols n) := by
  refine dt_congr (by simp [fnR, mat]) fun i r s h1 h2 c hc => ?_
  have hi : i < n := by
    have := (List.getElem?_eq_some_iff.mp h2).1
    simpa using this
  rw [fnR_get (by simp [mat]; exact hi)] at h1
  rw [List.getElem?_map, List.getElem?_range hi] at h2
  cases h1
  cases h2
  exact mat_at hi (List.mem_range.mp hc)
theorem dt_mulG (n : Nat) (a u : Nat → Nat → Int) (ha : ∀ i k, i < k → k < n → a i k = 0) (hu : ∀ k c, c < k → u k c = 0) : dt ((List.range n).map fun i c => ((List.range n).map fun k => a i k * u k c).sum) (cols n) = prodZ (fun i => a i i) n * prodZ (fun i => u i i) n := by
  rw [tri a u ha (cols n) n (Nat.le_refl n), Nat.sub_self]
  have := upper u hu n 0 1
  rw [Int.one_mul, Int.one_mul, ← List.range_eq_range', prod_fold] at this
  show _ * dt ((List.range n).map u ++ []) (List.range n) = _
  rw [List.append_nil, this]
theorem prod_one (f : Nat → Int) : ∀ n, (∀ i, i < n → f i = 1) → prodZ f n = 1
  | 0, _ => rfl
  | n + 1, h => by
    show prodZ f n * f n = 1
    rw [prod_one f n fun i hi => h i (by omega), h n (by omega)]
    rfl
theorem prod_bound (f : Nat → Int) (h : ∀ i, (f i).natAbs ≤ 1000000000000) : ∀ n, (prodZ f n).natAbs ≤ 1000000000000 ^ n
  | 0 => Nat.le_refl 1
  | n + 1 => by
    show (prodZ f n * f n).natAbs ≤ _
    rw [Int.natAbs_mul, Nat.pow_succ]
    exact Nat.mul_le_mul (prod_bound f h n) (h n)
theorem big14 {m X : Nat} (hm : m ≤ 14) (hX : X ≤ 100000000000000000000000000) : (m * X) ^ m < 2 ^ 8000 := by
  refine Nat.lt_of_le_of_lt (Nat.pow_le_pow_left (Nat.mul_le_mul hm hX) m) ?_
  refine Nat.lt_of_le_of_lt (Nat.pow_le_pow_right (by decide) hm) ?_
  exact Nat.lt_of_lt_of_le (show (14 * 100000000000000000000000000) ^ 14 < 2 ^ 1300 by decide +kernel) (Nat.pow_le_pow_right (by decide) (by decide))
theorem sum_bound (f : Nat → Int) (Y : Nat) : ∀ l : List Nat, (∀ k ∈ l, (f k).natAbs ≤ Y) → ((l.map f).sum).natAbs ≤ l.length * Y
  | [], _ => by simp
  | k :: l, h => by
    have h1 := h k List.mem_cons_self
    have h2 := sum_bound f Y l fun x hx => h x (List.mem_cons_of_mem _ hx)
    rw [List.map_cons, List.sum_cons, List.length_cons, Nat.add_mul, Nat.one_mul]
    omega
noncomputable def g_9 : SS → RS := (sSeq (sFor (iRg1 (aCons (eR 1) aNil)) (gN 6) (sSeq (sSet 9 (eBin addD (eR 6) (eBin modD (eCall f_law_cell_at (aCons (eV 0) (aCons (eV 6) aNil))) (eBin subD (eR 1) (eR 6)))))
  (sSeq (sIf (eBin neD (eR 9) (eR 6)) (sSet 5 (eBin subD (eC (.int 0)) (eR 5))) sNx)
  (sSeq (sSet 10 (eBin ixD (eR 8) (eR 9)))
  (sSeq (sSetI 8 (eR 9) (eBin ixD (eR 8) (eR 6)))
  (sSetI 8 (eR 6) (eV 10)))))))
  (sFrz 8 (sRet (eCall f_law_whole (aCons (eCall f_determinant (aCons (eV 8) aNil)) (aCons (eV 5) aNil))))))
noncomputable def g_7 : SS → RS := (sSeq (sIf (eNot (eCall f_law_whole (aCons (eCall f_determinant (aCons (eV 7) aNil)) (aCons (eV 5) aNil)))) (sRet (eC (.bl false))) sNx)
  (sSeq (sSetO 8 (eCall listWD (aCons (eR 4) aNil)))
  g_9))
noncomputable def g_5 : SS → RS := (sSeq (sIf (eNot (eCall f_law_whole (aCons (eCall f_determinant (aCons (eV 4) aNil)) (aCons (eV 5) aNil)))) (sRet (eC (.bl false))) sNx)
  (sSeq (sSet 7 (eComp (iRg1 (aCons (eR 1) aNil)) (gN 11) [11] cYes (eComp (iRg1 (aCons (eR 1) aNil)) (gN 12) [12] cYes (eBin ixD (eBin ixD (eR 4) (eR 12)) (eR 11)))))
  g_7))
noncomputable def g_1 : SS → RS := (sSeq (sAsg (gT [(gN 2), (gN 3)]) (eCall f_law_pair (aCons (eV 0) (aCons (eV 1) aNil))))
  (sSeq (sSet 4 (eCall f_law_product (aCons (eV 2) (aCons (eV 3) aNil))))
  (sSeq (sSet 5 (eC (.int 1)))
  (sSeq (sFor (iRg1 (aCons (eR 1) aNil)) (gN 6) (sSet 5 (eBin mulD (eR 5) (eBin ixD (eBin ixD (eR 3) (eR 6)) (eR 6)))))
  g_5))))
theorem m_cut : m_law = (sSeq (sSet 1 (eBin modD (eCall f_law_cell_at (aCons (eV 0) (aCons (eC (.int 0)) aNil))) (eC (.int 15))))
  g_1) := rfl
theorem low_up {N : Nat → Int} {n : Nat} {i j : Nat} (hi : i < n) (hj : j < n) : prodF n (mat n n (lowF N)) (mat n n (uppF N)) i j = ((List.range n).map fun k => lowF N i k * uppF N k j).sum := by
  unfold prodF
  congr 1
  refine List.map_congr_left fun k hk => ?_
  have := List.mem_range.mp hk
  rw [mat_at hi this, mat_at this hj]
theorem low_bound {N : Nat → Int} (h : ∀ k, (N k).natAbs ≤ 1000000000000) (i j : Nat) : (lowF N i j).natAbs ≤ 1000000000000 := by
  unfold lowF
  split
  · exact h _
  · split <;> decide
theorem upp_bound {N : Nat → Int} (h : ∀ k, (N k).natAbs ≤ 1000000000000) (i j : Nat) : (uppF N i j).natAbs ≤ 1000000000000 := by
  unfold uppF
  split
  · exact h _
  · decide
theorem prod_ent {N : Nat → Int} (h : ∀ k, (N k).natAbs ≤ 1000000000000) {n i j : Nat} (hn : n ≤ 14) (hi : i < n) (hj : j < n) : (prodF n (mat n n (lowF N)) (mat n n (uppF N)) i j).natAbs ≤ 100000000000000000000000000 := by
  rw [low_up hi hj]
  refine Nat.le_trans (sum_bound _ 1000000000000000000000000 (List.range n) fun k _ => ?_) ?_
  · rw [Int.natAbs_mul]
    exact Nat.mul_le_mul (low_bound h i k) (upp_bound h k j)
  · rw [List.length_range]
    exact Nat.le_trans (Nat.mul_le_mul_right _ hn) (by decide)
def dueF (N : Nat → Int) (n : Nat) : Int := prodZ (fun i => uppF N i i) n
theorem det_p (N : Nat → Int) (n : Nat) : dt (fnR (mat n n (prodF n (mat n n (lowF N)) (mat n n (uppF N))))) (cols n) = dueF N n := by
  rw [mat_dt]
  have e : dt ((List.range n).map (prodF n (mat n n (lowF N)) (mat n n (uppF N)))) (cols n) = dt ((List.range n).map fun i c => ((List.range n).map fun k => lowF N i k * uppF N k c).sum) (cols n) := by
    refine dt_congr (by simp) fun i r s h1 h2 c hc => ?_
    rw [List.getElem?_map] at h1 h2
    by_cases hi : i < n
    · rw [List.getElem?_range hi] at h1 h2
      cases h1
      cases h2
      exact low_up hi (List.mem_range.mp hc)
    · rw [List.getElem?_eq_none (by simpa using hi)] at h1
      cases h1
  rw [e, dt_mulG n (lowF N) (uppF N) (fun i k h _ => by unfold lowF; rw [if_neg (by omega), if_neg (by omega)]) (fun k c h => by unfold uppF; rw [if_neg (by omega)]), prod_one _ n fun i _ => by unfold lowF; rw [if_neg (by omega), if_pos rfl], Int.one_mul]
  rfl
theorem det_t (N : Nat → Int) (n : Nat) : dt (fnR (mat n n (fun j i => prodF n (mat n n (lowF N)) (mat n n (uppF N)) i j))) (cols n) = dueF N n := by
  rw [mat_dt]
  have e : dt ((List.range n).map (fun j i => prodF n (mat n n (lowF N)) (mat n n (uppF N)) i j)) (cols n) = dt ((List.range n).map fun j c => ((List.range n).map fun k => uppF N k j * lowF N c k).sum) (cols n) := by
    refine dt_congr (by simp) fun i r s h1 h2 c hc => ?_
    rw [List.getElem?_map] at h1 h2
    by_cases hi : i < n
    · rw [List.getElem?_range hi] at h1 h2
      cases h1
      cases h2
      show prodF n _ _ c i = _
      rw [low_up (List.mem_range.mp hc) hi]
      congr 1
      exact List.map_congr_left fun k _ => Int.mul_comm _ _
    · rw [List.getElem?_eq_none (by simpa using hi)] at h1
      cases h1
  rw [e, dt_mulG n (fun j k => uppF N k j) (fun k c => lowF N c k) (fun i k h _ => by show uppF N k i = 0; unfold uppF; rw [if_neg (by omega)]) (fun k c h => by show lowF N c k = 0; unfold lowF; rw [if_neg (by omega), if_neg (by omega)]), prod_one (fun i => lowF N i i) n fun i _ => by unfold lowF; rw [if_neg (by omega), if_pos rfl], Int.mul_one]
  rfl
theorem det_swap {n : Nat} {M : List (List Int)} (h : Sq n M) {j l : Nat} (hjl : j ≠ l) (hj : j < n) (hl : l < n) : dt (fnR (swapL M j l)) (cols n) = - dt (fnR M) (cols n) := by
  have hml := h.len
  have go : ∀ {j l : Nat}, j < l → l < n → dt (fnR (swapL M j l)) (cols n) = - dt (fnR M) (cols n) := fun {j l} h1 h2 => by
    obtain ⟨A, X, D, x, y, e1, e2, -⟩ := swap_split (M := fnR M) h1 (by rw [fnR_len]; omega)
    rw [fnR_swap, e2, e1, dt_swap A X D x y]
  rcases Nat.lt_or_gt_of_ne hjl with c | c
  · exact go c hl
  · rw [swapL_comm (by omega) (by omega)]
    exact go c hj
theorem swap_id {M : List (List Int)} {j : Nat} (hj : j < M.length) : swapL M j j = M := List.ext_getElem? fun t => by
  rw [swapL_get hj hj]
  congr 1
  unfold swp
  split
  · omega
  · rfl
theorem last_part (ns : List Int) (hl : ns.length ≤ 63) (n : Nat) (hn : n ≤ 14) (M : List (List Int)) (hM : Sq n M) (hX : ∀ r ∈ M, ∀ x ∈ r, x.natAbs ≤ 100000000000000000000000000) (d : Int) (hd : dt (fnR M) (cols n) = d) (a2 a3 a4 a6 a7 : Sl) (h6 : plS a6 = true) :
    fin false (g_9 [.sh (.lst (ns.map .int)), .sh (.int (n : Nat)), a2, a3, a4, .sh (.int d), a6, a7, .ow (.lst ((rowsD M).map .lst)), .no, .no, .no, .no]) = .ok (.bl true) := by
  have cell := fun k => cell_ok ns k
  generalize D.lst (ns.map D.int) = SC at *
  have rg : rng1 [.int (n : Nat)] = .ok (rangeD 0 (n : Nat)) := rng1_i _ (by unfold fit62; omega)
  simp [g_9, rg]
  refine forR_then (k := fun r => fin false (bnd r _)) (fun t s => ∃ (M : List (List Int)) (a6 a9 a10 : Sl), s = [.sh SC, .sh (.int (n : Nat)), a2, a3, a4, .sh (.int (dt (fnR M) (cols n))), a6, a7, .ow (.lst ((rowsD M).map .lst)), a9, a10, .no, .no] ∧ plS a6 = true ∧ plS a9 = true ∧ plS a10 = true ∧ Sq n M ∧ ∀ r ∈ M, ∀ x ∈ r, x.natAbs ≤ 100000000000000000000000000)
    ⟨M, a6, .no, .no, by rw [hd], h6, rfl, rfl, hM, hX⟩ ?_ ?_
  · rintro t s ht ⟨M, a6, a9, a10, rfl, h6, h9, h10, hM, hX⟩
    rw [Int.zero_add]
    have htn : t < n := by omega
    have hml := hM.len
    obtain ⟨m, hm⟩ : ∃ m : Nat, n = t + (m + 1) := ⟨n - t - 1, by omega⟩
    obtain ⟨q, hq⟩ : ∃ q : Nat, ns.getD t 0 % ((m + 1 : Nat) : Int) = (q : Nat) := ⟨(ns.getD t 0 % ((m + 1 : Nat) : Int)).toNat, by
      have := Int.emod_nonneg (ns.getD t 0) (show ((m + 1 : Nat) : Int) ≠ 0 by omega)
      omega⟩
    have hqm : q < m + 1 := by
      have := Int.emod_lt_of_pos (ns.getD t 0) (show (0 : Int) < ((m + 1 : Nat) : Int) by omega)
      omega
    obtain ⟨p, hp⟩ : ∃ p : Nat, p = t + q := ⟨_, rfl⟩
    have hpn : p < n := by omega
    have e1 : (n : Int) - (t : Nat) = ((m + 1 : Nat) : Int) := by omega
    have md : modD (.int (ns.getD t 0)) (.int ((m + 1 : Nat) : Int)) = .ok (.int (q : Nat)) := by rw [modD_i _ _ (by omega), hq]
    have e2 : (t : Int) + (q : Nat) = (p : Nat) := by omega
    have ct := cell t
    generalize ns.getD t 0 = cl at *
    generalize hm1 : ((m + 1 : Nat) : Int) = mm at *
    have ixp := ix_row (M := M) (a := p) (by omega)
    have ixt := ix_row (M := M) (a := t) (by omega)
    have p1 : ∀ s : SS, putL s 8 ((rowsD M).map D.lst) (.lst ((rowI M t).map .int)) (.int (p : Nat)) = .nx (s.set 8 (.ow (.lst (((rowsD M).map D.lst).set p (.lst ((rowI M t).map .int)))))) := fun s => by
      rw [putL_i _ _ _ _ (by omega) (by rw [List.length_map, rowsD_len]; omega)]
      rfl
    have p2 : ∀ s : SS, putL s 8 (((rowsD M).map D.lst).set p (.lst ((rowI M t).map .int))) (.lst ((rowI M p).map .int)) (.int (t : Nat)) = .nx (s.set 8 (.ow (.lst ((rowsD (swapL M p t)).map .lst)))) := fun s => by
      rw [putL_i _ _ _ _ (by omega) (by rw [List.length_set, List.length_map, rowsD_len]; omega)]
      congr 4
      rw [rowsD_swap, swapL_map]
      unfold swapL
      rw [List.getElem?_map, List.getElem?_map, rowsD_get (by omega), rowsD_get (by omega)]
      rfl
    have sq2 : Sq n (swapL M p t) := ⟨by rw [swapL_len]; exact hml, fun r hr => hM.row r (swapL_mem (by omega) (by omega) hr)⟩
    have fin2 : ∀ dd : Int, dt (fnR (swapL M p t)) (cols n) = dd → ∃ (M' : List (List Int)) (b6 b9 b10 : Sl), [.sh SC, .sh (.int (n : Nat)), a2, a3, a4, .sh (.int dd), .sh (.int (t : Nat)), a7, .ow (.lst ((rowsD (swapL M p t)).map .lst)), .sh (.int (p : Nat)), .sh (.lst ((rowI M p).map .int)), .no, .no] = [.sh SC, .sh (.int (n : Nat)), a2, a3, a4, .sh (.int (dt (fnR M') (cols n))), b6, a7, .ow (.lst ((rowsD M').map .lst)), b9, b10, .no, .no] ∧ plS b6 = true ∧ plS b9 = true ∧ plS b10 = true ∧ Sq n M' ∧ ∀ r ∈ M', ∀ x ∈ r, x.natAbs ≤ 100000000000000000000000000 := fun dd h => ⟨swapL M p t, _, _, _, by rw [h], rfl, rfl, rfl, sq2, fun r hr => hX r (swapL_mem (by omega) (by omega) hr)⟩
    by_cases hpt : p = t
    · have hpt' : ((p : Int) == (t : Int)) = true := by simp; omega
      have hd2 : dt (fnR (swapL M p t)) (cols n) = dt (fnR M) (cols n) := by rw [hpt, swap_id (by omega)]
      have f2 := fin2 _ hd2
      refine ⟨_, ?_, f2⟩
      simp [turn_s, gN, setS_s, plS_can h6, plS_can h9, plS_can h10, ct, e1, md, e2, hpt', ixp, ixt, p1, p2]
    · have hpt' : ((p : Int) == (t : Int)) = false := by simp; omega
      have hd2 : dt (fnR (swapL M p t)) (cols n) = 0 - dt (fnR M) (cols n) := by rw [det_swap hM hpt hpn htn]; omega
      have f2 := fin2 _ hd2
      refine ⟨_, ?_, f2⟩
      simp [turn_s, gN, setS_s, plS_can h6, plS_can h9, plS_can h10, ct, e1, md, e2, hpt', ixp, ixt, p1, p2]
  · rintro s ⟨M, a6, a9, a10, rfl, -, -, -, hM, hX⟩
    have dk := determinant_ok hM (by omega) hX (by decide) (big14 hn (Nat.le_refl _))
    simp [dk, law_whole_ok]
theorem main : ∀ ns : List Int, ns.length ≤ 63 → f_law [.lst (ns.map .int)] = .ok (.bl true) := by
  intro ns hns
  have c0 := cell_ok ns 0
  simp only [Int.natCast_zero] at c0
  obtain ⟨n, hn⟩ : ∃ n : Nat, ns.getD 0 0 % 15 = (n : Nat) := ⟨(ns.getD 0 0 % 15).toNat, by omega⟩
  have hn14 : n ≤ 14 := by omega
  obtain ⟨N, hN, hpair⟩ := pair_ok ns n hn14 hns
  have sL := mat_sq n (lowF N)
  have sU := mat_sq n (uppF N)
  have pr := product_ok sL sU hn14 (fun i j hi hj => by rw [mat_at hi hj]; exact low_bound hN i j) (fun i j hi hj => by rw [mat_at hi hj]; exact upp_bound hN i j)
  have sP := mat_sq n (prodF n (mat n n (lowF N)) (mat n n (uppF N)))
  have bP := mat_bound (t := n) (n := n) (f := prodF n (mat n n (lowF N)) (mat n n (uppF N))) fun i j hi hj => prod_ent hN hn14 hi hj
  have d1 := determinant_ok sP (by omega) bP (by decide) (big14 hn14 (Nat.le_refl _))
  have sT := mat_sq n (fun j i => prodF n (mat n n (lowF N)) (mat n n (uppF N)) i j)
  have bT := mat_bound (t := n) (n := n) (f := fun j i => prodF n (mat n n (lowF N)) (mat n n (uppF N)) i j) fun i j hi hj => prod_ent hN hn14 hj hi
  have d2 := determinant_ok sT (by omega) bT (by decide) (big14 hn14 (Nat.le_refl _))
  rw [det_p] at d1
  rw [det_t] at d2
  have lp := last_part ns hns n hn14 _ sP bP (dueF N n) (det_p N n)
  have rg : rng1 [.int (n : Nat)] = .ok (rangeD 0 (n : Nat)) := rng1_i _ (by unfold fit62; omega)
  have sPl := sP.len
  have pxr := fun a (ha : a < n) => ix_row (M := mat n n (prodF n (mat n n (lowF N)) (mat n n (uppF N)))) (a := a) (by omega)
  have pxa := fun a b (ha : a < n) (hb : b < n) => ix_at (M := mat n n (prodF n (mat n n (lowF N)) (mat n n (uppF N)))) (a := a) (b := b) (by rw [sP.at_ ha]; exact hb)
  have pat : ∀ a b, a < n → b < n → at2 (mat n n (prodF n (mat n n (lowF N)) (mat n n (uppF N)))) a b = prodF n (mat n n (lowF N)) (mat n n (uppF N)) a b := fun a b ha hb => mat_at ha hb
  have sUl := sU.len
  have uxr := fun a (ha : a < n) => ix_row (M := mat n n (uppF N)) (a := a) (by omega)
  have uxa : ∀ a, a < n → ixD (.lst ((rowI (mat n n (uppF N)) a).map .int)) (.int (a : Nat)) = .ok (.int (uppF N a a)) := fun a ha => by rw [ix_at (M := mat n n (uppF N)) (a := a) (b := a) (by rw [sU.at_ ha]; exact ha), mat_at ha ha]
  generalize hPF : prodF n (mat n n (lowF N)) (mat n n (uppF N)) = PF at *
  have comp : ∀ W : SS, W.length = 13 → W[1]? = some (.sh (.int (n : Nat))) → W[4]? = some (.sh (.lst ((rowsD (mat n n PF)).map .lst))) → (∀ y, W[11]? = some y → canS (some y) = true) → (∀ y, W[12]? = some y → canS (some y) = true) →
      rComp (mapD (cStep (gN 11) [11] cYes (eComp (iRg1 (aCons (eR 1) aNil)) (gN 12) [12] cYes (eBin ixD (eBin ixD (eR 4) (eR 12)) (eR 11))) W) (rangeD 0 (n : Nat))) = .ok (.lst ((rowsD (mat n n (fun j i => PF i j))).map .lst)) := fun W hW h1 h4 h11 h12 => by
    match W, hW, h1, h4, h11, h12 with
    | [w0, w1, w2, w3, w4, w5, w6, w7, w8, w9, w10, w11, w12], _, h1, h4, h11, h12 =>
      have e1 : w1 = .sh (.int (n : Nat)) := by simpa using h1
      have e4 : w4 = .sh (.lst ((rowsD (mat n n PF)).map .lst)) := by simpa using h4
      have h11 := h11 w11 rfl
      have h12 := h12 w12 rfl
      clear h1 h4
      subst e1 e4
      have inner : ∀ j, j < n → rComp (mapD (cStep (gN 12) [12] cYes (eBin ixD (eBin ixD (eR 4) (eR 12)) (eR 11)) [w0, .sh (.int (n : Nat)), w2, w3, .sh (.lst ((rowsD (mat n n PF)).map .lst)), w5, w6, w7, w8, w9, w10, .sh (.int (j : Nat)), w12]) (rangeD 0 (n : Nat))) = .ok (.lst (((List.range n).map fun i => PF i j).map .int)) := fun j hj => by
        rw [comp_range (fun i => .int (PF i j)) 0 (n : Nat) n (by omega) (by omega) (fun i hi => by
          have hin : i < n := by omega
          simp [cStep_s, gN, setS_s, h12, pxr i hin, pxa i j hin hj, pat i j hin hj])]
        rw [List.map_map]
        rfl
      rw [comp_range (fun j => .lst (((List.range n).map fun i => PF i j).map .int)) 0 (n : Nat) n (by omega) (by omega) (fun j hj => by
        have := inner j (by omega)
        rw [Int.zero_add]
        simp [cStep_s, gN, setS_s, h11, rg, -rComp_ok, -List.map_map]
        rw [this]
        rfl)]
      congr 2
      unfold rowsD mat
      rw [List.map_map, List.map_map]
      rfl
  rw [f_law, runB_s, m_cut]
  generalize ns.getD 0 0 = cell at *
  generalize hSC : D.lst (ns.map D.int) = SC at *
  simp [List.replicate, c0, modD_i, hn, g_1]
  simp [hpair, gN, setS_s, pr, rg]
  refine forR_then (k := fun r => fin false (bnd r _)) (fun t s => ∃ a6 : Sl, s = [.sh SC, .sh (.int (n : Nat)), .sh (.lst ((rowsD (mat n n (lowF N))).map .lst)), .sh (.lst ((rowsD (mat n n (uppF N))).map .lst)), .sh (.lst ((rowsD (mat n n PF)).map .lst)), .sh (.int (dueF N t)), a6, .no, .no, .no, .no, .no, .no] ∧ plS a6 = true) ⟨.no, rfl, rfl⟩ ?_ ?_
  · rintro t s ht ⟨a6, rfl, h6⟩
    rw [Int.zero_add]
    have htn : t < n := by omega
    have ml : mulD (.int (dueF N t)) (.int (uppF N t t)) = .ok (.int (dueF N (t + 1))) := by
      rw [mulD_i, if_pos (.inr (.inl (by have := upp_bound hN t t; omega)))]
      rfl
    refine ⟨_, ?_, .sh (.int (t : Nat)), rfl, rfl⟩
    simp [turn_s, gN, setS_s, plS_can h6, uxr t htn, uxa t htn, ml]
  · rintro s ⟨a6, rfl, h6⟩
    rw [Int.sub_zero, Int.toNat_natCast]
    have lw : listWD [.lst ((rowsD (mat n n PF)).map .lst)] = .ok (.lst ((rowsD (mat n n PF)).map .lst)) := by simp
    simp [g_5, d1, law_whole_ok, rg, -rComp_ok]
    rw [comp _ rfl rfl rfl (by intro y hy; cases hy; rfl) (by intro y hy; cases hy; rfl)]
    simp [g_7, d2, law_whole_ok, lw]
    exact lp _ _ _ a6 _ h6
def topS (i : Nat) : Stmt := PySem.Challenge.pw_onceround_k30_determinants_of_products.main.body.getD i (.Pass ⟨0, 0, 0, 0⟩)
structure TF (K : PySem.W.Frag) (mg : Str → Option Value) (G : GE) : Prop where
  z_bool : mg "bool" = none
  z_int : mg "int" = none
  z_isinstance : mg "isinstance" = none
  z_len : mg "len" = none
  z_list : mg "list" = none
  z_range : mg "range" = none
  z_sum : mg "sum" = none
abbrev st_law_cell_at : Stmt := topS 4
theorem sc__law_cell_at : FnScope ["script", "k"] ["script", "k"] (defScope st_law_cell_at) := ⟨rfl, rfl, rfl, by decide +kernel, rfl, by decide +kernel, by decide +kernel⟩
theorem ok_law_cell_at {P : Program} {w : World} {K : PySem.W.Frag} {mg : Str → Option Value} {base : Heap} {G : GE} {f : Addr} {fd : FuncData} (hK : K = G.K) (T : TF K mg G)  (Fu : Fun K "_law_cell_at" "_law_cell_at" st_law_cell_at f fd) :
    FnOk P w K mg base (L2.CX P w) 1 f fd ["script", "k"] (spD G 2 f_law_cell_at false) :=
  fn_ok Fu sc__law_cell_at hK (by decide) (fun cdv A outer s H F E hr v =>
    (ss_cons (s_ifs (t_lt v (s_r 1) (s_b (s_bi lenD_ne (call_lenD v.K) rfl T.z_len (by decide +kernel) (s_bcons (s_r 0) s_bnil)))) (ss_one (s_ret (s_ix v.K v.hu (s_r 0) (s_r 1)))) ss_nil)
    (ss_one (s_ret s_int)))) (fun _ _ _ => rfl)
abbrev st_law_number : Stmt := topS 6
theorem sc__law_number : FnScope ["script", "k", "cell"] ["script", "k"] (defScope st_law_number) := ⟨rfl, rfl, rfl, by decide +kernel, rfl, by decide +kernel, by decide +kernel⟩
theorem ok_law_number {P : Program} {w : World} {K : PySem.W.Frag} {mg : Str → Option Value} {base : Heap} {G : GE} {f : Addr} {fd : FuncData} (hK : K = G.K) (T : TF K mg G)  (Fu : Fun K "_law_number" "_law_number" st_law_number f fd) :
    FnOk P w K mg base (L2.CX P w) 1 f fd ["script", "k"] (spD G 2 f_law_number false) :=
  fn_ok Fu sc__law_number hK (by decide) (fun cdv A outer s H F E hr v =>
    (ss_cons (s_set 2 (s_add v (s_b (s_mul v (s_b (s_mul v (s_b s_int) (s_r 1))) (s_r 1))) (s_b (s_mul v (s_b s_int) (s_r 1)))) sc__law_number.nd)
    (ss_cons (s_ifs (t_gt v (s_b (s_bi lenD_ne (call_lenD v.K) rfl T.z_len (by decide +kernel) (s_bcons (s_r 0) s_bnil))) (s_b s_int)) (ss_one (s_set 2 (s_add v (s_r 2) (s_b (s_fdiv v (s_b (s_ix v.K v.hu (s_r 0) (s_b (s_mod v (s_r 1) (s_b (s_bi lenD_ne (call_lenD v.K) rfl T.z_len (by decide +kernel) (s_bcons (s_r 0) s_bnil))))))) (s_b (s_add v (s_b s_int) (s_b (s_fdiv v (s_r 1) (s_b (s_bi lenD_ne (call_lenD v.K) rfl T.z_len (by decide +kernel) (s_bcons (s_r 0) s_bnil)))))))))) sc__law_number.nd)) ss_nil)
    (ss_cons (s_ifs (t_eq v (s_b (s_mod v (s_r 2) (s_b s_int))) (s_b s_int)) (ss_one (s_ret (s_sub v (s_b (s_mod v (s_b (s_fdiv v (s_r 2) (s_b s_int))) (s_b (s_add v (s_b (s_mul v (s_b s_int) (s_b (s_pow v (s_b s_int) (s_b s_int))))) (s_b s_int))))) (s_b (s_pow v (s_b s_int) (s_b s_int)))))) ss_nil)
    (ss_one (s_ret (s_sub v (s_b (s_mod v (s_b (s_fdiv v (s_r 2) (s_b s_int))) (s_b s_int))) (s_b s_int)))))))) (fun _ _ _ => rfl)
abbrev st_law_pair : Stmt := topS 8
theorem sc__law_pair : FnScope ["script", "many", "one", "other", "i", "j"] ["script", "many"] (defScope st_law_pair) := ⟨rfl, rfl, rfl, by decide +kernel, rfl, by decide +kernel, by decide +kernel⟩
theorem ok_law_pair {P : Program} {w : World} {K : PySem.W.Frag} {mg : Str → Option Value} {base : Heap} {G : GE} {f : Addr} {fd : FuncData} (hK : K = G.K) (T : TF K mg G) (K__law_number : Kn P w K mg base G "_law_number" 2 f_law_number false 1) (Fu : Fun K "_law_pair" "_law_pair" st_law_pair f fd) :
    FnOk P w K mg base (L2.CX P w) 2 f fd ["script", "many"] (spD G 2 f_law_pair false) :=
  fn_ok Fu sc__law_pair hK (by decide) (fun cdv A outer s H F E hr v =>
    (ss_cons (s_seto 2 (s_lst s_anil) sc__law_pair.nd)
    (ss_cons (s_seto 3 (s_lst s_anil) sc__law_pair.nd)
    (ss_cons (s_for v (s_range1 v rfl T.z_range (s_bcons (s_r 1) s_bnil)) (g_n 4 sc__law_pair.nd) (ss_cons (s_app 2 (s_f (s_comp v (own := [("j", 5)]) (ok := blkOk_by (N := ["script", "many", "one", "other", "i", "j"]) (sc := defScope st_law_pair) (by decide +kernel)) sc__law_pair.nd (s_range1 v rfl T.z_range (s_bcons (s_r 1) s_bnil)) rfl (fun _ _ _ _ _ v => (g_n 5 sc__law_pair.nd)) (fun _ _ _ _ _ v => c_none) (fun _ _ _ _ _ v => (s_if (t_lt v (s_r 5) (s_r 4)) (s_call v K__law_number (hr.mono (by decide)) rfl (n_cons (n_cons n_nil)) (s_acons (s_v 0) (s_acons (s_add v (s_b (s_mul v (s_r 4) (s_b s_int))) (s_r 5)) s_anil))) (s_ty intZ_ne call_intZ rfl T.z_int (by decide +kernel) (s_bcons (s_b (s_eq v (s_r 4) (s_r 5))) s_bnil)))))))
    (ss_one (s_app 3 (s_f (s_comp v (own := [("j", 5)]) (ok := blkOk_by (N := ["script", "many", "one", "other", "i", "j"]) (sc := defScope st_law_pair) (by decide +kernel)) sc__law_pair.nd (s_range1 v rfl T.z_range (s_bcons (s_r 1) s_bnil)) rfl (fun _ _ _ _ _ v => (g_n 5 sc__law_pair.nd)) (fun _ _ _ _ _ v => c_none) (fun _ _ _ _ _ v => (s_if (t_ge v (s_r 5) (s_r 4)) (s_call v K__law_number (hr.mono (by decide)) rfl (n_cons (n_cons n_nil)) (s_acons (s_v 0) (s_acons (s_add v (s_b (s_add v (s_b s_int) (s_b (s_mul v (s_r 4) (s_b s_int))))) (s_r 5)) s_anil))) s_int))))))))
    (ss_one (s_frz 3 (s_frz 2 (s_ret (s_tup (s_acons (s_v 2) (s_acons (s_v 3) s_anil))))))))))) (fun _ _ _ => rfl)
abbrev st_law_product : Stmt := topS 7
theorem sc__law_product : FnScope ["one", "other", "many", "made", "i", "j", "k"] ["one", "other"] (defScope st_law_product) := ⟨rfl, rfl, rfl, by decide +kernel, rfl, by decide +kernel, by decide +kernel⟩
theorem ok_law_product {P : Program} {w : World} {K : PySem.W.Frag} {mg : Str → Option Value} {base : Heap} {G : GE} {f : Addr} {fd : FuncData} (hK : K = G.K) (T : TF K mg G)  (Fu : Fun K "_law_product" "_law_product" st_law_product f fd) :
    FnOk P w K mg base (L2.CX P w) 1 f fd ["one", "other"] (spD G 2 f_law_product false) :=
  fn_ok Fu sc__law_product hK (by decide) (fun cdv A outer s H F E hr v =>
    (ss_cons (s_set 2 (s_bi lenD_ne (call_lenD v.K) rfl T.z_len (by decide +kernel) (s_bcons (s_r 0) s_bnil)) sc__law_product.nd)
    (ss_cons (s_seto 3 (s_lst s_anil) sc__law_product.nd)
    (ss_cons (s_for v (s_range1 v rfl T.z_range (s_bcons (s_r 2) s_bnil)) (g_n 4 sc__law_product.nd) (ss_one (s_app 3 (s_f (s_comp v (own := [("j", 5)]) (ok := blkOk_by (N := ["one", "other", "many", "made", "i", "j", "k"]) (sc := defScope st_law_product) (by decide +kernel)) sc__law_product.nd (s_range1 v rfl T.z_range (s_bcons (s_r 2) s_bnil)) rfl (fun _ _ _ _ _ v => (g_n 5 sc__law_product.nd)) (fun _ _ _ _ _ v => c_none) (fun _ _ _ _ _ v => (s_bi sumD_ne (call_sumD v) rfl T.z_sum (by decide +kernel) (s_bcons (s_b (s_f (s_comp v (own := [("k", 6)]) (ok := blkOk_by (by first | decide +kernel | kernel_rfl | rfl)) sc__law_product.nd (s_range1 v rfl T.z_range (s_bcons (s_r 2) s_bnil)) rfl (fun _ _ _ _ _ v => (g_n 6 sc__law_product.nd)) (fun _ _ _ _ _ v => c_none) (fun _ _ _ _ _ v => (s_mul v (s_b (s_ix v.K v.hu (s_b (s_ix v.K v.hu (s_r 0) (s_r 4))) (s_r 6))) (s_b (s_ix v.K v.hu (s_b (s_ix v.K v.hu (s_r 1) (s_r 6))) (s_r 5)))))))) s_bnil))))))))
    (ss_one (s_frz 3 (s_ret (s_v 3)))))))) (fun _ _ _ => rfl)
abbrev st_swapped_in : Stmt := topS 1
theorem sc_swapped_in : FnScope ["rows", "k", "at", "row"] ["rows", "k"] (defScope st_swapped_in) := ⟨rfl, rfl, rfl, by decide +kernel, rfl, by decide +kernel, by decide +kernel⟩
theorem ok_swapped_in {P : Program} {w : World} {K : PySem.W.Frag} {mg : Str → Option Value} {base : Heap} {G : GE} {f : Addr} {fd : FuncData} (hK : K = G.K) (T : TF K mg G)  (Fu : Fun K "swapped_in" "swapped_in" st_swapped_in f fd) :
    FnOk P w K mg base (L2.CX P w) 1 f fd ["rows", "k"] (spM G 1 f_swapped_in) :=
  fn_okM Fu sc_swapped_in hK (by decide) (by decide) (fun cdv A outer s H F H0 E hr v =>
    (ss_cons (s_ifs (t_brwN 0 (t_ne v (s_b (s_ix v.K v.hu (s_b (s_ix v.K v.hu (s_r 0) (s_r 1))) (s_r 1))) (s_b s_int))) (ss_one (s_retm s_int)) ss_nil)
    (ss_cons (s_for v (s_range2 v rfl T.z_range (s_bcons (s_b (s_add v (s_r 1) (s_b s_int))) (s_bcons (s_b (s_brwN 0 (s_bi lenD_ne (call_lenD v.K) rfl T.z_len (by decide +kernel) (s_bcons (s_r 0) s_bnil)))) s_bnil))) (g_n 2 sc_swapped_in.nd) (ss_one (s_ifs (t_brwN 0 (t_ne v (s_b (s_ix v.K v.hu (s_b (s_ix v.K v.hu (s_r 0) (s_r 2))) (s_r 1))) (s_b s_int))) (ss_swap 0 2 1 3 (ss_one (s_retm (s_neg v (s_b s_int)))) sc_swapped_in.nd) ss_nil)))
    (ss_one (s_retm s_int))))) (fun _ _ _ => rfl)
abbrev st_determinant : Stmt := topS 2
theorem sc_determinant : FnScope ["square", "rows", "many", "sign", "last", "k", "i", "j", "row"] ["square"] (defScope st_determinant) := ⟨rfl, rfl, rfl, by decide +kernel, rfl, by decide +kernel, by decide +kernel⟩
theorem ok_determinant {P : Program} {w : World} {K : PySem.W.Frag} {mg : Str → Option Value} {base : Heap} {G : GE} {f : Addr} {fd : FuncData} (hK : K = G.K) (T : TF K mg G) (K_swapped_in : KnM P w K mg base G "swapped_in" 1 f_swapped_in 1) (Fu : Fun K "determinant" "determinant" st_determinant f fd) :
    FnOk P w K mg base (L2.CX P w) 2 f fd ["square"] (spD G 1 f_determinant false) :=
  fn_ok Fu sc_determinant hK (by decide) (fun cdv A outer s H F E hr v =>
    (ss_cons (s_setcN v 1 (own := [("row", 8)]) (ok := blkOk_by (N := ["square", "rows", "many", "sign", "last", "k", "i", "j", "row"]) (sc := defScope st_determinant) (by decide +kernel)) sc_determinant.nd (s_iter v (s_v 0)) rfl (fun _ _ _ _ _ v => (g_n 8 sc_determinant.nd)) (fun _ _ _ _ _ v => c_none) (fun _ _ _ _ _ v => (s_tyF listWD_ne (call_listWD v) rfl T.z_list (by decide +kernel) (s_bcons (s_r 8) s_bnil))))
    (ss_cons (s_set 2 (s_brwN 1 (s_bi lenD_ne (call_lenD v.K) rfl T.z_len (by decide +kernel) (s_bcons (s_r 1) s_bnil))) sc_determinant.nd)
    (ss_cons (s_ifs (t_eq v (s_r 2) (s_b s_int)) (ss_one (s_ret s_int)) ss_nil)
    (ss_cons (s_set 3 s_int sc_determinant.nd)
    (ss_cons (s_set 4 s_int sc_determinant.nd)
    (ss_cons (s_for v (s_range1 v rfl T.z_range (s_bcons (s_b (s_sub v (s_r 2) (s_b s_int))) s_bnil)) (g_n 5 sc_determinant.nd) (ss_cons (s_mulX v 3 3 (s_callX v 1 K_swapped_in (hr.mono (by decide)) rfl (n_cons n_nil) (s_acons (s_v 5) s_anil)) sc_determinant.nd)
    (ss_cons (s_ifs (t_eq v (s_r 3) (s_b s_int)) (ss_one (s_ret s_int)) ss_nil)
    (ss_cons (s_for v (s_range2 v rfl T.z_range (s_bcons (s_b (s_add v (s_r 5) (s_b s_int))) (s_bcons (s_r 2) s_bnil))) (g_n 6 sc_determinant.nd) (ss_one (s_for v (s_range2 v rfl T.z_range (s_bcons (s_b (s_add v (s_r 5) (s_b s_int))) (s_bcons (s_r 2) s_bnil))) (g_n 7 sc_determinant.nd) (ss_one (s_setII 1 (s_r 6) (s_r 7) (s_brwN 1 (s_fdiv v (s_b (s_sub v (s_b (s_mul v (s_b (s_ix v.K v.hu (s_b (s_ix v.K v.hu (s_r 1) (s_r 6))) (s_r 7))) (s_b (s_ix v.K v.hu (s_b (s_ix v.K v.hu (s_r 1) (s_r 5))) (s_r 5))))) (s_b (s_mul v (s_b (s_ix v.K v.hu (s_b (s_ix v.K v.hu (s_r 1) (s_r 6))) (s_r 5))) (s_b (s_ix v.K v.hu (s_b (s_ix v.K v.hu (s_r 1) (s_r 5))) (s_r 7))))))) (s_r 4))))))))
    (ss_one (s_set 4 (s_brwN 1 (s_ix v.K v.hu (s_b (s_ix v.K v.hu (s_r 1) (s_r 5))) (s_r 5))) sc_determinant.nd))))))
    (ss_one (s_ret (s_brwN 1 (s_mul v (s_r 3) (s_b (s_ix v.K v.hu (s_b (s_ix v.K v.hu (s_r 1) (s_b (s_sub v (s_r 2) (s_b s_int))))) (s_b (s_sub v (s_r 2) (s_b s_int)))))))))))))))) (fun _ _ _ => rfl)
abbrev st_law_whole : Stmt := topS 5
theorem sc__law_whole : FnScope ["found", "due"] ["found", "due"] (defScope st_law_whole) := ⟨rfl, rfl, rfl, by decide +kernel, rfl, by decide +kernel, by decide +kernel⟩
theorem ok_law_whole {P : Program} {w : World} {K : PySem.W.Frag} {mg : Str → Option Value} {base : Heap} {G : GE} {f : Addr} {fd : FuncData} (hK : K = G.K) (T : TF K mg G)  (Fu : Fun K "_law_whole" "_law_whole" st_law_whole f fd) :
    FnOk P w K mg base (L2.CX P w) 1 f fd ["found", "due"] (spD G 2 f_law_whole false) :=
  fn_ok Fu sc__law_whole hK (by decide) (fun cdv A outer s H F E hr v =>
    (ss_one (s_ret (s_and (s_isi v "int" rfl rfl T.z_isinstance rfl T.z_int (by decide +kernel) (s_r 0)) (s_and (s_not (s_isi v "bool" rfl rfl T.z_isinstance rfl T.z_bool (by decide +kernel) (s_r 0))) (s_one (s_eq v (s_r 0) (s_r 1)))))))) (fun _ _ _ => rfl)
abbrev st_law : Stmt := topS 9
theorem sc_law : FnScope ["script", "many", "one", "other", "square", "due", "k", "across", "rows", "at", "row", "j", "i"] ["script"] (defScope st_law) := ⟨rfl, rfl, rfl, by decide +kernel, rfl, by decide +kernel, by decide +kernel⟩
theorem ok_law {P : Program} {w : World} {K : PySem.W.Frag} {mg : Str → Option Value} {base : Heap} {G : GE} {f : Addr} {fd : FuncData} (hK : K = G.K) (T : TF K mg G) (K__law_cell_at : Kn P w K mg base G "_law_cell_at" 2 f_law_cell_at false 1) (K__law_pair : Kn P w K mg base G "_law_pair" 2 f_law_pair false 2) (K__law_product : Kn P w K mg base G "_law_product" 2 f_law_product false 1) (K_determinant : Kn P w K mg base G "determinant" 1 f_determinant false 2) (K__law_whole : Kn P w K mg base G "_law_whole" 2 f_law_whole false 1) (Fu : Fun K "law" "law" st_law f fd) :
    FnOk P w K mg base (L2.CX P w) 3 f fd ["script"] (spD G 1 f_law false) :=
  fn_ok Fu sc_law hK (by decide) (fun cdv A outer s H F E hr v =>
    (ss_cons (s_set 1 (s_mod v (s_b (s_call v K__law_cell_at (hr.mono (by decide)) rfl (n_cons (n_cons n_nil)) (s_acons (s_v 0) (s_acons s_int s_anil)))) (s_b s_int)) sc_law.nd)
    (ss_cons (s_asg (s_call v K__law_pair (hr.mono (by decide)) rfl (n_cons (n_cons n_nil)) (s_acons (s_v 0) (s_acons (s_v 1) s_anil))) (g_t v (g_cons (g_n 2 sc_law.nd) (g_cons (g_n 3 sc_law.nd) g_nil))))
    (ss_cons (s_set 4 (s_call v K__law_product (hr.mono (by decide)) rfl (n_cons (n_cons n_nil)) (s_acons (s_v 2) (s_acons (s_v 3) s_anil))) sc_law.nd)
    (ss_cons (s_set 5 s_int sc_law.nd)
    (ss_cons (s_for v (s_range1 v rfl T.z_range (s_bcons (s_r 1) s_bnil)) (g_n 6 sc_law.nd) (ss_one (s_set 5 (s_mul v (s_r 5) (s_b (s_ix v.K v.hu (s_b (s_ix v.K v.hu (s_r 3) (s_r 6))) (s_r 6)))) sc_law.nd)))
    (ss_cons (s_ifs (s_tnot (s_t (s_call v K__law_whole (hr.mono (by decide)) rfl (n_cons (n_cons n_nil)) (s_acons (s_call v K_determinant (hr.mono (by decide)) rfl (n_cons n_nil) (s_acons (s_v 4) s_anil)) (s_acons (s_v 5) s_anil))))) (ss_one (s_ret s_bl)) ss_nil)
    (ss_cons (s_setcS v 7 (own := [("j", 11)]) (ok := blkOk_by (N := ["script", "many", "one", "other", "square", "due", "k", "across", "rows", "at", "row", "j", "i"]) (sc := defScope st_law) (by decide +kernel)) sc_law.nd (s_range1 v rfl T.z_range (s_bcons (s_r 1) s_bnil)) rfl (fun _ _ _ _ _ v => (g_n 11 sc_law.nd)) (fun _ _ _ _ _ v => c_none) (fun _ _ _ _ _ v => (s_f (s_comp v (own := [("i", 12)]) (ok := blkOk_by (by first | decide +kernel | kernel_rfl | rfl)) sc_law.nd (s_range1 v rfl T.z_range (s_bcons (s_r 1) s_bnil)) rfl (fun _ _ _ _ _ v => (g_n 12 sc_law.nd)) (fun _ _ _ _ _ v => c_none) (fun _ _ _ _ _ v => (s_ix v.K v.hu (s_b (s_ix v.K v.hu (s_r 4) (s_r 12))) (s_r 11)))))))
    (ss_cons (s_ifs (s_tnot (s_t (s_call v K__law_whole (hr.mono (by decide)) rfl (n_cons (n_cons n_nil)) (s_acons (s_call v K_determinant (hr.mono (by decide)) rfl (n_cons n_nil) (s_acons (s_v 7) s_anil)) (s_acons (s_v 5) s_anil))))) (ss_one (s_ret s_bl)) ss_nil)
    (ss_cons (s_seto 8 (s_tyF listWD_ne (call_listWD v) rfl T.z_list (by decide +kernel) (s_bcons (s_r 4) s_bnil)) sc_law.nd)
    (ss_cons (s_for v (s_range1 v rfl T.z_range (s_bcons (s_r 1) s_bnil)) (g_n 6 sc_law.nd) (ss_cons (s_set 9 (s_add v (s_r 6) (s_b (s_mod v (s_b (s_call v K__law_cell_at (hr.mono (by decide)) rfl (n_cons (n_cons n_nil)) (s_acons (s_v 0) (s_acons (s_v 6) s_anil)))) (s_b (s_sub v (s_r 1) (s_r 6)))))) sc_law.nd)
    (ss_cons (s_ifs (t_ne v (s_r 9) (s_r 6)) (ss_one (s_set 5 (s_sub v (s_b s_int) (s_r 5)) sc_law.nd)) ss_nil)
    (ss_cons (s_set 10 (s_ix v.K v.hu (s_r 8) (s_r 9)) sc_law.nd)
    (ss_cons (s_seti 8 (s_r 9) (s_ix v.K v.hu (s_r 8) (s_r 6)))
    (ss_one (s_seti 8 (s_r 6) (s_v 10))))))))
    (ss_one (s_frz 8 (s_ret (s_call v K__law_whole (hr.mono (by decide)) rfl (n_cons (n_cons n_nil)) (s_acons (s_call v K_determinant (hr.mono (by decide)) rfl (n_cons n_nil) (s_acons (s_v 8) s_anil)) (s_acons (s_v 5) s_anil))))))))))))))))) (fun _ _ _ => rfl)
def xtbl : List (Option (Str × List Str)) := []
def ctbl : List (Option (Str × List Str)) := []
def GOf (K : PySem.W.Frag) : GE := ⟨K, xclOf K ctbl, xclOf K xtbl⟩
theorem all_mk {l : PySem.W.OpenLaw} {w : World} {K : PySem.W.Frag} {G : GE} {h : Heap} {mg : Str → Option Value} {fa : Addr} (hK : K = G.K) (hx : G.xcl = xclOf K xtbl) (hc : G.cls = xclOf K ctbl) (X : K.In h) (Gm : h.Ns mainGlobals mg) (hfa : mg "law" = some (.ref fa))
    {od0 an0 : Option Addr} {sl0 : Array (Option Value)} {oc0 kV0 dc0 pm0 cd0 ct0 : Value} {g0 : Addr}
    {od1 an1 : Option Addr} {sl1 : Array (Option Value)} {oc1 kV1 dc1 pm1 cd1 ct1 : Value} {g1 : Addr}
    {od2 an2 : Option Addr} {sl2 : Array (Option Value)} {oc2 kV2 dc2 pm2 cd2 ct2 : Value} {g2 : Addr}
    {od3 an3 : Option Addr} {sl3 : Array (Option Value)} {oc3 kV3 dc3 pm3 cd3 ct3 : Value} {g3 : Addr}
    {od4 an4 : Option Addr} {sl4 : Array (Option Value)} {oc4 kV4 dc4 pm4 cd4 ct4 : Value} {g4 : Addr}
    {od5 an5 : Option Addr} {sl5 : Array (Option Value)} {oc5 kV5 dc5 pm5 cd5 ct5 : Value} {g5 : Addr}
    {od6 an6 : Option Addr} {sl6 : Array (Option Value)} {oc6 kV6 dc6 pm6 cd6 ct6 : Value} {g6 : Addr}
    {od7 an7 : Option Addr} {sl7 : Array (Option Value)} {oc7 kV7 dc7 pm7 cd7 ct7 : Value} {g7 : Addr}
    (a0 : PySem.W.nsIn K mainGlobals "_law_cell_at" = some (some (.ref g0))) (l0 : K.lookup g0 = some ⟨oc0, od0, .func (PySem.W.fnOf "_law_cell_at" "_law_cell_at" (defArgs st_law_cell_at) (defBody st_law_cell_at) (defScope st_law_cell_at) .none kV0 dc0 pm0 an0 cd0 ct0), sl0⟩) (c0 : PySem.W.codeIn K cd0 "_law_cell_at" = true) (k0 : PySem.W.keepIn K (.ref g0) = true)
    (a1 : PySem.W.nsIn K mainGlobals "_law_number" = some (some (.ref g1))) (l1 : K.lookup g1 = some ⟨oc1, od1, .func (PySem.W.fnOf "_law_number" "_law_number" (defArgs st_law_number) (defBody st_law_number) (defScope st_law_number) .none kV1 dc1 pm1 an1 cd1 ct1), sl1⟩) (c1 : PySem.W.codeIn K cd1 "_law_number" = true) (k1 : PySem.W.keepIn K (.ref g1) = true)
    (a2 : PySem.W.nsIn K mainGlobals "_law_pair" = some (some (.ref g2))) (l2 : K.lookup g2 = some ⟨oc2, od2, .func (PySem.W.fnOf "_law_pair" "_law_pair" (defArgs st_law_pair) (defBody st_law_pair) (defScope st_law_pair) .none kV2 dc2 pm2 an2 cd2 ct2), sl2⟩) (c2 : PySem.W.codeIn K cd2 "_law_pair" = true) (k2 : PySem.W.keepIn K (.ref g2) = true)
    (a3 : PySem.W.nsIn K mainGlobals "_law_product" = some (some (.ref g3))) (l3 : K.lookup g3 = some ⟨oc3, od3, .func (PySem.W.fnOf "_law_product" "_law_product" (defArgs st_law_product) (defBody st_law_product) (defScope st_law_product) .none kV3 dc3 pm3 an3 cd3 ct3), sl3⟩) (c3 : PySem.W.codeIn K cd3 "_law_product" = true) (k3 : PySem.W.keepIn K (.ref g3) = true)
    (a4 : PySem.W.nsIn K mainGlobals "swapped_in" = some (some (.ref g4))) (l4 : K.lookup g4 = some ⟨oc4, od4, .func (PySem.W.fnOf "swapped_in" "swapped_in" (defArgs st_swapped_in) (defBody st_swapped_in) (defScope st_swapped_in) .none kV4 dc4 pm4 an4 cd4 ct4), sl4⟩) (c4 : PySem.W.codeIn K cd4 "swapped_in" = true) (k4 : PySem.W.keepIn K (.ref g4) = true)
    (a5 : PySem.W.nsIn K mainGlobals "determinant" = some (some (.ref g5))) (l5 : K.lookup g5 = some ⟨oc5, od5, .func (PySem.W.fnOf "determinant" "determinant" (defArgs st_determinant) (defBody st_determinant) (defScope st_determinant) .none kV5 dc5 pm5 an5 cd5 ct5), sl5⟩) (c5 : PySem.W.codeIn K cd5 "determinant" = true) (k5 : PySem.W.keepIn K (.ref g5) = true)
    (a6 : PySem.W.nsIn K mainGlobals "_law_whole" = some (some (.ref g6))) (l6 : K.lookup g6 = some ⟨oc6, od6, .func (PySem.W.fnOf "_law_whole" "_law_whole" (defArgs st_law_whole) (defBody st_law_whole) (defScope st_law_whole) .none kV6 dc6 pm6 an6 cd6 ct6), sl6⟩) (c6 : PySem.W.codeIn K cd6 "_law_whole" = true) (k6 : PySem.W.keepIn K (.ref g6) = true)
    (a7 : PySem.W.nsIn K mainGlobals "law" = some (some (.ref g7))) (l7 : K.lookup g7 = some ⟨oc7, od7, .func (PySem.W.fnOf "law" "law" (defArgs st_law) (defBody st_law) (defScope st_law) .none kV7 dc7 pm7 an7 cd7 ct7), sl7⟩) (c7 : PySem.W.codeIn K cd7 "law" = true) (k7 : PySem.W.keepIn K (.ref g7) = true)
    (z0 : PySem.W.nsIn K mainGlobals "bool" = some none)
    (z1 : PySem.W.nsIn K mainGlobals "int" = some none)
    (z2 : PySem.W.nsIn K mainGlobals "isinstance" = some none)
    (z3 : PySem.W.nsIn K mainGlobals "len" = some none)
    (z4 : PySem.W.nsIn K mainGlobals "list" = some none)
    (z5 : PySem.W.nsIn K mainGlobals "range" = some none)
    (z6 : PySem.W.nsIn K mainGlobals "sum" = some none) :
    ∃ fd : FuncData, (∀ (s : Shared) (v : Value), BindsTo s fd ⟨[v], []⟩ [("script", v)]) ∧ ∀ base : Heap, K.In base → base.Ns mainGlobals mg → FnOk l.prog w K mg base (L2.CX l.prog w) 3 fa fd ["script"] (spD G 1 f_law false) := by
  have e := hfa.symm.trans (PySem.W.mg_of X Gm a7)
  cases e
  have F0 := fun_mk (st := st_law_cell_at) l0 c0 k0
  have b0 := F0.binds (ps := ["script", "k"]) fun _ _ _ _ _ _ us hl => match us, hl with | [_, _], _ => rfl
  have F1 := fun_mk (st := st_law_number) l1 c1 k1
  have b1 := F1.binds (ps := ["script", "k"]) fun _ _ _ _ _ _ us hl => match us, hl with | [_, _], _ => rfl
  have F2 := fun_mk (st := st_law_pair) l2 c2 k2
  have b2 := F2.binds (ps := ["script", "many"]) fun _ _ _ _ _ _ us hl => match us, hl with | [_, _], _ => rfl
  have F3 := fun_mk (st := st_law_product) l3 c3 k3
  have b3 := F3.binds (ps := ["one", "other"]) fun _ _ _ _ _ _ us hl => match us, hl with | [_, _], _ => rfl
  have F4 := fun_mk (st := st_swapped_in) l4 c4 k4
  have b4 := F4.binds (ps := ["rows", "k"]) fun _ _ _ _ _ _ us hl => match us, hl with | [_, _], _ => rfl
  have F5 := fun_mk (st := st_determinant) l5 c5 k5
  have b5 := F5.binds (ps := ["square"]) fun _ _ _ _ _ _ us hl => match us, hl with | [_], _ => rfl
  have F6 := fun_mk (st := st_law_whole) l6 c6 k6
  have b6 := F6.binds (ps := ["found", "due"]) fun _ _ _ _ _ _ us hl => match us, hl with | [_, _], _ => rfl
  have F7 := fun_mk (st := st_law) l7 c7 k7
  have T : TF K mg G := ⟨PySem.W.mg_none_of X Gm z0, PySem.W.mg_none_of X Gm z1, PySem.W.mg_none_of X Gm z2, PySem.W.mg_none_of X Gm z3, PySem.W.mg_none_of X Gm z4, PySem.W.mg_none_of X Gm z5, PySem.W.mg_none_of X Gm z6⟩
  refine ⟨PySem.W.fnOf "law" "law" (defArgs st_law) (defBody st_law) (defScope st_law) .none kV7 dc7 pm7 an7 cd7 ct7, fun s v => .of_eq rfl, fun base _ _ => ?_⟩
  have K__law_cell_at : Kn l.prog w K mg base G "_law_cell_at" 2 f_law_cell_at false 1 := kn_mk (ok_law_cell_at (P := l.prog) (w := w) (base := base) hK T  F0) (PySem.W.mg_of X Gm a0) F0.kp b0
  have K__law_number : Kn l.prog w K mg base G "_law_number" 2 f_law_number false 1 := kn_mk (ok_law_number (P := l.prog) (w := w) (base := base) hK T  F1) (PySem.W.mg_of X Gm a1) F1.kp b1
  have K__law_pair : Kn l.prog w K mg base G "_law_pair" 2 f_law_pair false 2 := kn_mk (ok_law_pair (P := l.prog) (w := w) (base := base) hK T K__law_number F2) (PySem.W.mg_of X Gm a2) F2.kp b2
  have K__law_product : Kn l.prog w K mg base G "_law_product" 2 f_law_product false 1 := kn_mk (ok_law_product (P := l.prog) (w := w) (base := base) hK T  F3) (PySem.W.mg_of X Gm a3) F3.kp b3
  have K_swapped_in : KnM l.prog w K mg base G "swapped_in" 1 f_swapped_in 1 := kn_mkM (ok_swapped_in (P := l.prog) (w := w) (base := base) hK T  F4) (PySem.W.mg_of X Gm a4) F4.kp b4
  have K_determinant : Kn l.prog w K mg base G "determinant" 1 f_determinant false 2 := kn_mk (ok_determinant (P := l.prog) (w := w) (base := base) hK T K_swapped_in F5) (PySem.W.mg_of X Gm a5) F5.kp b5
  have K__law_whole : Kn l.prog w K mg base G "_law_whole" 2 f_law_whole false 1 := kn_mk (ok_law_whole (P := l.prog) (w := w) (base := base) hK T  F6) (PySem.W.mg_of X Gm a6) F6.kp b6
  exact ok_law (P := l.prog) (w := w) (base := base) hK T K__law_cell_at K__law_pair K__law_product K_determinant K__law_whole F7
end L30
open PySem PySem.W PyProof.Rows
set_option maxRecDepth 100000 in
set_option maxHeartbeats 0 in
theorem PySem.Challenge.cw_onceround_k30_determinants_of_products_holds : PySem.Challenge.rw_onceround_k30_determinants_of_products.Holds := by
  w_on; o_law; k_head; (case hw => w_witness2)
  k_fill
  refine L2.walk_of (l := PySem.Challenge.rw_onceround_k30_determinants_of_products) (n := 63) (k := 3) (x := "script") (CX := fun w => L2.CX PySem.Challenge.rw_onceround_k30_determinants_of_products.prog w) (sp := fun w => Z.spD (L30.GOf _) 1 L30.f_law false) rfl (by decide) rfl ⟨rfl, by decide, by decide⟩ (fun w h Y => PySem.W.kIn_of Y) ?F (fun w H a ns hl _ hS => Z.law_sp rfl L30.main H a ns hl hS) (fun _ _ _ _ _ h => Z.law_cx (P := PySem.Challenge.rw_onceround_k30_determinants_of_products.prog) h)
  case F =>
    intro w mg fa h KX Gm hmg
    refine' L30.all_mk rfl rfl rfl KX Gm hmg ?a0 ?l0 ?c0 ?k0 ?a1 ?l1 ?c1 ?k1 ?a2 ?l2 ?c2 ?k2 ?a3 ?l3 ?c3 ?k3 ?a4 ?l4 ?c4 ?k4 ?a5 ?l5 ?c5 ?k5 ?a6 ?l6 ?c6 ?k6 ?a7 ?l7 ?c7 ?k7 ?z0 ?z1 ?z2 ?z3 ?z4 ?z5 ?z6
    (case a0 => k_is); (case l0 => k_is); (case c0 => k_is); (case k0 => k_is); (case a1 => k_is); (case l1 => k_is); (case c1 => k_is); (case k1 => k_is); (case a2 => k_is); (case l2 => k_is); (case c2 => k_is); (case k2 => k_is); (case a3 => k_is); (case l3 => k_is); (case c3 => k_is); (case k3 => k_is); (case a4 => k_is); (case l4 => k_is); (case c4 => k_is); (case k4 => k_is); (case a5 => k_is); (case l5 => k_is); (case c5 => k_is); (case k5 => k_is); (case a6 => k_is); (case l6 => k_is); (case c6 => k_is); (case k6 => k_is); (case a7 => k_is); (case l7 => k_is); (case c7 => k_is); (case k7 => k_is); (case z0 => k_is); (case z1 => k_is); (case z2 => k_is); (case z3 => k_is); (case z4 => k_is); (case z5 => k_is); (case z6 => k_is)
