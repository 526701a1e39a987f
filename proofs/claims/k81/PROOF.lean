import PyProof.Rows.All
import Wide.All
import OpenK.AllK
import Wide.FinOn
import HandS.ForMost
import HandS.ForExc
import HandS.Wide
import HandS.TupAny
import HandS.Deep
import HandS.TupLe
import HandS.Rev
import HandS.Conv
import HandS.Style
import HandS.Dict
import HandS.Iter
import HandS.Zip
import HandS.Comp
import HandS.IsInst
import HandS.Text
import HandS.Ends
import HandS.Exc
import HandS.ExcOwn
import HandS.WordsExc
import HandS.Codes
import HandS.StrMore
import HandS.SortInts
import HandS.ExcIs
import KE.KExcIs
import KE.RegKIsAll
import KE.RegKTryMore
import HandS.MapJoin
import HandS.MapObj
import HandS.RevTup
import HandS.Set
import HandS.Strs
import HandS.SetFor
import HandS.TryMany
import HandS.More
import PyProof.SliceStr2
import PyProof.CollectStr
import KE.GoesZip
import KE.GoesMore
import HandS.ExcInit
import HandS.ExcField
import HandS.SetKeys
import PyProof.StrLawsChain
import KE.IntTextLaws
import KE.IntTextText
import PySem.Challenge.RW_onceround_k81_answers_from_far
set_option Elab.async false
set_option linter.all false
set_option maxRecDepth 100000
set_option maxHeartbeats 4000000
namespace Z
noncomputable section
open PySem PySem.Spec PyProof.Rows L2

inductive D where
  | non | bl (b : Bool) | int (i : Int) | str (x : List Nat) | lst (xs : List D) | tup (xs : List D) | dic (ks : List Key) (vs : List D)
  | obj (c : Nat) (vs : List D) | exc (c : Nat) (vs : List D)
  deriving Inhabited

inductive R (A : Type) where
  | ok (a : A) | ex (c : Nat) (vs : List D) | bad
def R.bind {A B : Type} (x : R A) (f : A → R B) : R B := match x with
  | .ok a => f a
  | .ex c vs => .ex c vs
  | .bad => .bad
instance : Monad R where
  pure := R.ok
  bind := R.bind

inductive Sl where
  | no | sh (d : D) | ow (d : D) | lk (d : D) | nt (k : Bool) (d : D) | pt (i j : Nat)
abbrev SS := List Sl
inductive RS where
  | nx (s : SS) | rt (fresh : Bool) (d : D) | bk (s : SS) | ct (s : SS) | ex (c : Nat) (vs : List D) (s : SS) | rm (d : D) (s : SS) | rn (i : Nat) (s : SS) | bad

structure GE where
  K : PySem.W.Frag
  cls : Nat → Option (Addr × List Str)
  xcl : Nat → Option (Addr × List Str)

def exo (a : Addr) (cls : Value) (dx : Option Addr) : HO := .ext fun h => ∃ oe vs, h.get? a = some oe ∧ Zc cls dx oe ∧ oe.data = .fields vs

def okS (x : List Nat) : Bool := x.all fun c => decide (c < 1114112)

mutual
def Rep (G : GE) (H : Hp) : D → V → Prop
  | .non, v => v = .non
  | .bl b, v => v = .bl b
  | .int i, v => v = .int i
  | .str x, v => v = .str ⟨x.toArray⟩ ∧ okS x = true
  | .lst ds, v => ∃ a xs, v = .ref a ∧ SqL G.K H a xs ∧ RepL G H ds xs
  | .tup ds, v => ∃ a xs, v = .ref a ∧ SqT G.K H a xs ∧ RepL G H ds xs
  | .dic ks ds, v => ∃ a kvs, v = .ref a ∧ (∃ o, H a = some (.frz o (.dK kvs))) ∧ kvs.map (·.1) = ks ∧ ks.Nodup ∧ RepL G H ds (kvs.map (·.2))
  | .obj c ds, v => ∃ a C dx fs ns, v = .ref a ∧ G.cls c = some (C, ns) ∧ H a = some (.ins C dx fs) ∧ fs.map (·.1) = ns ∧ RepL G H ds (fs.map (·.2))
  | .exc c ds, v => ∃ a C ns dx, v = .ref a ∧ G.xcl c = some (C, ns) ∧ H a = some (exo a (.ref C) dx) ∧
      ((ns = [] ∧ dx = none ∧ ds = []) ∨ ∃ d fs, dx = some d ∧ H d = some (.xd fs) ∧ fs.map (·.1) = ns ∧ RepL G H ds (fs.map (·.2)))
def RepL (G : GE) (H : Hp) : List D → List V → Prop
  | [], vs => vs = []
  | d :: ds, vs => ∃ v r, vs = v :: r ∧ Rep G H d v ∧ RepL G H ds r
end

theorem Same.rd {H H' : Hp} {a : Addr} {u : HO} (s : Same H H') (h : Rd H a u) : Rd H' a u := by
  rcases h with h | ⟨o, h⟩
  · exact .inl (s _ _ h)
  · exact .inr ⟨o, s _ _ h⟩
theorem Same.seqT {K : PySem.W.Frag} {H H' : Hp} {a : Addr} {xs : List V} (e : Same H H') (h : SqT K H a xs) : SqT K H' a xs := by
  rcases h with h | h
  · exact .inl (Same.rd e h)
  · exact .inr h

mutual
theorem Rep.mono {G : GE} {H H' : Hp} (s : Same H H') : ∀ {d : D} {v : V}, Rep G H d v → Rep G H' d v
  | .non, v, h => by unfold Rep at h ⊢; exact h
  | .bl b, v, h => by unfold Rep at h ⊢; exact h
  | .int i, v, h => by unfold Rep at h ⊢; exact h
  | .str x, v, h => by unfold Rep at h ⊢; exact h
  | .lst ds, v, h => by
    unfold Rep at h ⊢
    obtain ⟨a, xs, e, q, r⟩ := h
    exact ⟨a, xs, e, s.seq q, RepL.mono s r⟩
  | .tup ds, v, h => by
    unfold Rep at h ⊢
    obtain ⟨a, xs, e, q, r⟩ := h
    exact ⟨a, xs, e, Same.seqT s q, RepL.mono s r⟩
  | .dic ks ds, v, h => by
    unfold Rep at h ⊢
    obtain ⟨a, kvs, e, ⟨o, q⟩, k, nd, r⟩ := h
    exact ⟨a, kvs, e, ⟨o, s _ _ q⟩, k, nd, RepL.mono s r⟩
  | .obj c ds, v, h => by
    unfold Rep at h ⊢
    obtain ⟨a, C, dx, fs, ns, e, g, q, k, r⟩ := h
    exact ⟨a, C, dx, fs, ns, e, g, s _ _ q, k, RepL.mono s r⟩
  | .exc c ds, v, h => by
    unfold Rep at h ⊢
    obtain ⟨a, C, ns, dx, e, g, q, k⟩ := h
    refine ⟨a, C, ns, dx, e, g, s _ _ q, ?_⟩
    rcases k with k | ⟨d, fs, e1, e2, e3, r⟩
    · exact .inl k
    · exact .inr ⟨d, fs, e1, s _ _ e2, e3, RepL.mono s r⟩
theorem RepL.mono {G : GE} {H H' : Hp} (s : Same H H') : ∀ {ds : List D} {vs : List V}, RepL G H ds vs → RepL G H' ds vs
  | [], vs, h => by unfold RepL at h ⊢; exact h
  | d :: ds, vs, h => by
    unfold RepL at h ⊢
    obtain ⟨v, r, e, h1, h2⟩ := h
    exact ⟨v, r, e, Rep.mono s h1, RepL.mono s h2⟩
end

section
variable {G : GE} {H : Hp}
theorem RepL.nil : RepL G H [] [] := by unfold RepL; rfl
theorem RepL.cons {d : D} {ds : List D} {v : V} {vs : List V} (a : Rep G H d v) (b : RepL G H ds vs) : RepL G H (d :: ds) (v :: vs) := by unfold RepL; exact ⟨v, vs, rfl, a, b⟩
theorem RepL.length : ∀ {ds : List D} {vs : List V}, RepL G H ds vs → vs.length = ds.length
  | [], vs, h => by unfold RepL at h; subst h; rfl
  | d :: ds, vs, h => by
    unfold RepL at h
    obtain ⟨v, r, rfl, _, h⟩ := h
    rw [List.length_cons, List.length_cons, RepL.length h]
theorem RepL.append : ∀ {ds es : List D} {vs us : List V}, RepL G H ds vs → RepL G H es us → RepL G H (ds ++ es) (vs ++ us)
  | [], _, vs, _, h, k => by unfold RepL at h; subst h; exact k
  | d :: ds, _, vs, _, h, k => by
    unfold RepL at h
    obtain ⟨v, r, rfl, h1, h⟩ := h
    exact RepL.cons h1 (RepL.append h k)
theorem RepL.get : ∀ {ds : List D} {vs : List V} {i : Nat} {d : D}, RepL G H ds vs → ds[i]? = some d → ∃ v, vs[i]? = some v ∧ Rep G H d v
  | [], vs, i, d, h, e => by simp at e
  | d :: ds, vs, 0, e, h, k => by
    unfold RepL at h
    obtain ⟨v, r, rfl, h1, h⟩ := h
    simp at k
    subst k
    exact ⟨v, rfl, h1⟩
  | d :: ds, vs, i + 1, e, h, k => by
    unfold RepL at h
    obtain ⟨v, r, rfl, h1, h⟩ := h
    obtain ⟨u, h2, h3⟩ := RepL.get (i := i) h (by simpa using k)
    exact ⟨u, by simpa using h2, h3⟩
theorem RepL.get' {ds : List D} {vs : List V} {i : Nat} {v : V} (h : RepL G H ds vs) (e : vs[i]? = some v) : ∃ d, ds[i]? = some d ∧ Rep G H d v := by
  have hl := h.length
  obtain ⟨hi, _⟩ := List.getElem?_eq_some_iff.mp e
  have hi' : i < ds.length := by omega
  obtain ⟨u, h1, h2⟩ := h.get (List.getElem?_eq_getElem hi')
  rw [e] at h1
  cases h1
  exact ⟨_, List.getElem?_eq_getElem hi', h2⟩
theorem RepL.of_get : ∀ {ds : List D} {vs : List V}, vs.length = ds.length → (∀ (i : Nat) (d : D) (v : V), ds[i]? = some d → vs[i]? = some v → Rep G H d v) → RepL G H ds vs
  | [], vs, e, h => by
    have : vs = [] := List.eq_nil_of_length_eq_zero e
    subst this
    exact RepL.nil
  | d :: ds, [], e, h => by simp at e
  | d :: ds, v :: vs, e, h => RepL.cons (h 0 d v rfl rfl) (RepL.of_get (by simpa using e) fun i d' v' e1 e2 => h (i + 1) d' v' (by simpa using e1) (by simpa using e2))
theorem RepL.take {ds : List D} {vs : List V} (n : Nat) (h : RepL G H ds vs) : RepL G H (ds.take n) (vs.take n) :=
  RepL.of_get (by simp [h.length]) fun i d v e1 e2 => by
    rw [List.getElem?_take] at e1 e2
    split at e1
    · rename_i hi
      rw [if_pos hi] at e2
      obtain ⟨u, h1, h2⟩ := h.get e1
      rw [e2] at h1
      cases h1
      exact h2
    · cases e1
theorem RepL.drop {ds : List D} {vs : List V} (n : Nat) (h : RepL G H ds vs) : RepL G H (ds.drop n) (vs.drop n) :=
  RepL.of_get (by simp [h.length]) fun i d v e1 e2 => by
    rw [List.getElem?_drop] at e1 e2
    obtain ⟨u, h1, h2⟩ := h.get e1
    rw [e2] at h1
    cases h1
    exact h2
theorem RepL.set {ds : List D} {vs : List V} {d : D} {v : V} (n : Nat) (h : RepL G H ds vs) (q : Rep G H d v) : RepL G H (ds.set n d) (vs.set n v) :=
  RepL.of_get (by simp [h.length]) fun i e u e1 e2 => by
    have hl := h.length
    by_cases hi : n = i
    · subst hi
      by_cases hn : n < ds.length
      · rw [List.getElem?_set_self hn] at e1
        rw [List.getElem?_set_self (by omega)] at e2
        cases e1; cases e2
        exact q
      · rw [List.getElem?_eq_none (by simpa using hn)] at e1
        cases e1
    · rw [List.getElem?_set_ne hi] at e1 e2
      obtain ⟨u', h1, h2⟩ := h.get e1
      rw [e2] at h1
      cases h1
      exact h2
theorem rep_int {i : Int} {v : V} : Rep G H (.int i) v ↔ v = .int i := by unfold Rep; exact Iff.rfl
theorem rep_bl {i : Bool} {v : V} : Rep G H (.bl i) v ↔ v = .bl i := by unfold Rep; exact Iff.rfl
theorem rep_str {i : List Nat} {v : V} : Rep G H (.str i) v ↔ v = .str ⟨i.toArray⟩ ∧ okS i = true := by unfold Rep; exact Iff.rfl
theorem rep_non {v : V} : Rep G H .non v ↔ v = .non := by unfold Rep; exact Iff.rfl
theorem rep_lst {ds : List D} {v : V} : Rep G H (.lst ds) v ↔ ∃ a xs, v = .ref a ∧ SqL G.K H a xs ∧ RepL G H ds xs := by conv => lhs; unfold Rep
theorem rep_tup {ds : List D} {v : V} : Rep G H (.tup ds) v ↔ ∃ a xs, v = .ref a ∧ SqT G.K H a xs ∧ RepL G H ds xs := by conv => lhs; unfold Rep
theorem rep_dic {ks : List Key} {ds : List D} {v : V} : Rep G H (.dic ks ds) v ↔ ∃ a kvs, v = .ref a ∧ (∃ o, H a = some (.frz o (.dK kvs))) ∧ kvs.map (·.1) = ks ∧ ks.Nodup ∧ RepL G H ds (kvs.map (·.2)) := by conv => lhs; unfold Rep
theorem rep_obj {c : Nat} {ds : List D} {v : V} : Rep G H (.obj c ds) v ↔ ∃ a C dx fs ns, v = .ref a ∧ G.cls c = some (C, ns) ∧ H a = some (.ins C dx fs) ∧ fs.map (·.1) = ns ∧ RepL G H ds (fs.map (·.2)) := by conv => lhs; unfold Rep
end

def OwR (G : GE) (F H : Hp) (a : Addr) : D → Prop
  | .lst ds => ∃ xs, H a = some (.lst xs) ∧ RepL G F ds xs
  | .dic ks ds => ∃ kvs, H a = some (.dK kvs) ∧ kvs.map (·.1) = ks ∧ ks.Nodup ∧ RepL G F ds (kvs.map (·.2))
  | .obj c ds => ∃ C dx fs ns, G.cls c = some (C, ns) ∧ H a = some (.ins C dx fs) ∧ fs.map (·.1) = ns ∧ RepL G F ds (fs.map (·.2))
  | _ => False
theorem OwR.mono {G : GE} {F F' H H' : Hp} {a : Addr} {d : D} (f : Same F F') (h : ∀ o, H a = some o → H' a = some o) (q : OwR G F H a d) : OwR G F' H' a d := by
  cases d <;> try exact False.elim q
  · obtain ⟨xs, e, r⟩ := q
    exact ⟨xs, h _ e, RepL.mono f r⟩
  · obtain ⟨kvs, e, k, nd, r⟩ := q
    exact ⟨kvs, h _ e, k, nd, RepL.mono f r⟩
  · obtain ⟨C, dx, fs, ns, g, e, k, r⟩ := q
    exact ⟨C, dx, fs, ns, g, h _ e, k, RepL.mono f r⟩
theorem OwR.there {G : GE} {F H : Hp} {a : Addr} {d : D} (q : OwR G F H a d) : ∃ o, H a = some o := by
  cases d <;> try exact False.elim q
  · obtain ⟨xs, e, r⟩ := q
    exact ⟨_, e⟩
  · obtain ⟨kvs, e, k, nd, r⟩ := q
    exact ⟨_, e⟩
  · obtain ⟨C, dx, fs, ns, g, e, k, r⟩ := q
    exact ⟨_, e⟩
def Fz (o o' : HO) : Prop := o' = o ∨ ∃ od kvs, o = .dK kvs ∧ o' = .frz od (.dK kvs)
def isDic : D → Bool
  | .dic _ _ => true
  | _ => false
theorem OwR.rep {G : GE} {F H F' : Hp} {a : Addr} {d : D} (q : OwR G F H a d) (f : Same F F') (h : ∀ o, H a = some o → ∃ o', F' a = some o' ∧ Fz o o' ∧ (isDic d = true → o' ≠ o)) : Rep G F' d (.ref a) := by
  cases d <;> try exact False.elim q
  · obtain ⟨xs, e, r⟩ := q
    obtain ⟨o', e1, z, -⟩ := h _ e
    rcases z with rfl | ⟨_, _, z, _⟩
    · exact rep_lst.mpr ⟨a, xs, rfl, .inl (.inl e1), RepL.mono f r⟩
    · cases z
  · obtain ⟨kvs, e, k, nd, r⟩ := q
    obtain ⟨o', e1, z, n⟩ := h _ e
    rcases z with rfl | ⟨od, _, z, rfl⟩
    · exact absurd rfl (n rfl)
    · cases z
      exact rep_dic.mpr ⟨a, kvs, rfl, ⟨od, e1⟩, k, nd, RepL.mono f r⟩
  · obtain ⟨C, dx, fs, ns, g, e, k, r⟩ := q
    obtain ⟨o', e1, z, -⟩ := h _ e
    rcases z with rfl | ⟨_, _, z, _⟩
    · exact rep_obj.mpr ⟨a, C, dx, fs, ns, rfl, g, e1, k, RepL.mono f r⟩
    · cases z
theorem OwR.rep1 {G : GE} {F H F' : Hp} {a : Addr} {d : D} (hd : isDic d = false) (q : OwR G F H a d) (f : Same F F') (h : ∀ o, H a = some o → F' a = some o) : Rep G F' d (.ref a) :=
  q.rep f fun o e => ⟨o, h o e, .inl rfl, fun z => by rw [hd] at z; cases z⟩

def Bor (G : GE) (F H : Hp) (d : D) (v : V) : Prop := Rep G F d v ∨ ∃ a, v = .ref a ∧ F a = none ∧ OwR G F H a d

structure Ext (F H F' H' : Hp) : Prop where
  ff : Same F F'
  hh : Same H H'
  fh : Same F' H'
  ow : ∀ b o, H b = some o → F b = none → F' b = none
theorem Ext.refl {F H : Hp} (s : Same F H) : Ext F H F H := ⟨Same.refl F, Same.refl H, s, fun _ _ _ h => h⟩
theorem Ext.trans {F H F1 H1 F2 H2 : Hp} (a : Ext F H F1 H1) (b : Ext F1 H1 F2 H2) : Ext F H F2 H2 :=
  ⟨a.ff.trans b.ff, a.hh.trans b.hh, b.fh, fun c o h1 h2 => b.ow c o (a.hh _ _ h1) (a.ow c o h1 h2)⟩
theorem Ext.new {F H : Hp} {p : Addr} {o : HO} (s : Same F H) (n : H p = none) : Ext F H (upd F p o) (upd H p o) := by
  have nf : F p = none := s.free n
  refine ⟨same_upd' nf, same_upd' n, fun b u e => ?_, fun b u e1 e2 => ?_⟩
  · by_cases hb : b = p
    · subst hb; rw [upd_same] at e ⊢; exact e
    · rw [upd_ne hb] at e ⊢; exact s _ _ e
  · have hb : b ≠ p := fun z => by subst z; rw [n] at e1; cases e1
    rw [upd_ne hb]; exact e2
where
  same_upd' {H : Hp} {p : Addr} {o : HO} (h : H p = none) : Same H (upd H p o) := fun b x e => by
    rw [upd_ne (ne_of_none e h)]
    exact e
theorem same_new {H : Hp} {p : Addr} {o : HO} (h : H p = none) : Same H (upd H p o) := fun b x e => by
  rw [upd_ne (ne_of_none e h)]
  exact e
theorem Ext.newOwn {F H : Hp} {p : Addr} {o : HO} (s : Same F H) (n : H p = none) : Ext F H F (upd H p o) :=
  ⟨Same.refl F, same_new n, s.trans (same_new n), fun _ _ _ h => h⟩

theorem Bor.mono {G : GE} {F H F' H' : Hp} {d : D} {v : V} (e : Ext F H F' H') (h : Bor G F H d v) : Bor G F' H' d v := by
  rcases h with h | ⟨a, rfl, hn, q⟩
  · exact .inl (Rep.mono e.ff h)
  · obtain ⟨o, ho⟩ := q.there
    exact .inr ⟨a, rfl, e.ow _ _ ho hn, q.mono e.ff fun o h => e.hh _ _ h⟩

structure CT where
  G : GE
  F0 : Hp
  H0 : Hp

inductive ItL (G : GE) (F H : Hp) : List D → List V → List Addr → Prop
  | nil : ItL G F H [] [] []
  | sh {d : D} {v : V} {ds : List D} {vs : List V} {L : List Addr} (n : ∀ es, d ≠ .lst es) (r : Rep G F d v) (t : ItL G F H ds vs L) : ItL G F H (d :: ds) (v :: vs) L
  | ow {es : List D} {b : Addr} {xs : List V} {ds : List D} {vs : List V} {L : List Addr} (h : H b = some (.lst xs)) (r : RepL G F es xs) (t : ItL G F H ds vs L) : ItL G F H (.lst es :: ds) (.ref b :: vs) (b :: L)
theorem ItL.mono {G : GE} {F H F' H' : Hp} (ff : Same F F') {ds : List D} {vs : List V} {L : List Addr} (h : ItL G F H ds vs L) : (∀ b o, b ∈ L → H b = some o → H' b = some o) → ItL G F' H' ds vs L := by
  induction h with
  | nil => exact fun _ => .nil
  | sh n r t ih => exact fun k => .sh n (Rep.mono ff r) (ih k)
  | ow h r t ih => exact fun k => .ow (k _ _ (List.mem_cons_self ..) h) (RepL.mono ff r) (ih fun b o m => k b o (List.mem_cons_of_mem _ m))
theorem ItL.there {G : GE} {F H : Hp} {ds : List D} {vs : List V} {L : List Addr} (h : ItL G F H ds vs L) : ∀ b, b ∈ L → ∃ o, H b = some o := by
  induction h with
  | nil => exact fun b m => absurd m (List.not_mem_nil)
  | sh n r t ih => exact ih
  | ow h r t ih =>
    intro b m
    rcases List.mem_cons.mp m with rfl | m
    · exact ⟨_, h⟩
    · exact ih b m
def NtR (G : GE) (F H : Hp) (a : Addr) (d : D) (L : List Addr) : Prop := match d with
  | .lst ds => ∃ xs, H a = some (.lst xs) ∧ ItL G F H ds xs L
  | .tup ds => ∃ xs, H a = some (.tup xs) ∧ ItL G F H ds xs L
  | .dic ks ds => ∃ kvs, H a = some (.dK kvs) ∧ kvs.map (·.1) = ks ∧ ks.Nodup ∧ ItL G F H ds (kvs.map (·.2)) L
  | .obj c ds => ∃ C dx fs ns, G.cls c = some (C, ns) ∧ H a = some (.ins C dx fs) ∧ fs.map (·.1) = ns ∧ ItL G F H ds (fs.map (·.2)) L
  | _ => False
theorem NtR.mono {G : GE} {F H F' H' : Hp} (ff : Same F F') {a : Addr} {d : D} {L : List Addr} (h : NtR G F H a d L) (k : ∀ b o, b ∈ a :: L → H b = some o → H' b = some o) : NtR G F' H' a d L := by
  have k1 : ∀ b o, b ∈ L → H b = some o → H' b = some o := fun b o m => k b o (List.mem_cons_of_mem _ m)
  cases d <;> try exact False.elim h
  · obtain ⟨xs, e, r⟩ := h
    exact ⟨xs, k _ _ (List.mem_cons_self ..) e, r.mono ff k1⟩
  · obtain ⟨xs, e, r⟩ := h
    exact ⟨xs, k _ _ (List.mem_cons_self ..) e, r.mono ff k1⟩
  · obtain ⟨kvs, e, h1, h2, r⟩ := h
    exact ⟨kvs, k _ _ (List.mem_cons_self ..) e, h1, h2, r.mono ff k1⟩
  · obtain ⟨C, dx, fs, ns, g, e, h1, r⟩ := h
    exact ⟨C, dx, fs, ns, g, k _ _ (List.mem_cons_self ..) e, h1, r.mono ff k1⟩
theorem NtR.there {G : GE} {F H : Hp} {a : Addr} {d : D} {L : List Addr} (h : NtR G F H a d L) : ∀ b, b ∈ a :: L → ∃ o, H b = some o := by
  intro b m
  cases d <;> try exact False.elim h
  · obtain ⟨xs, e, r⟩ := h
    rcases List.mem_cons.mp m with rfl | m
    · exact ⟨_, e⟩
    · exact r.there b m
  · obtain ⟨xs, e, r⟩ := h
    rcases List.mem_cons.mp m with rfl | m
    · exact ⟨_, e⟩
    · exact r.there b m
  · obtain ⟨kvs, e, h1, h2, r⟩ := h
    rcases List.mem_cons.mp m with rfl | m
    · exact ⟨_, e⟩
    · exact r.there b m
  · obtain ⟨C, dx, fs, ns, g, e, h1, r⟩ := h
    rcases List.mem_cons.mp m with rfl | m
    · exact ⟨_, e⟩
    · exact r.there b m
def NtOk (C : CT) (H₁ F H : Hp) (sd : SS) (σ : L2.St) : Prop := ∃ O : Addr → Option Nat,
  (∀ (i : Nat) (k : Bool) (d : D), sd[i]? = some (.nt k d) → ∃ a L, σ[i]? = some (some (.ref a)) ∧ NtR C.G F H a d L ∧ (a :: L).Nodup ∧ (∀ b ∈ a :: L, C.H0 b = none ∧ F b = none ∧ (∃ o, H₁ b = some o) ∧ O b = some i) ∧ ∀ (r j : Nat), sd[r]? = some (.pt i j) → ∃ b, L[j]? = some b ∧ σ[r]? = some (some (.ref b))) ∧
  ∀ (j : Nat) (e : D) (b : Addr), sd[j]? = some (.ow e) ∨ sd[j]? = some (.lk e) → σ[j]? = some (some (.ref b)) → O b = none
theorem NtOk.zero {C : CT} {H₁ F H : Hp} {sd : SS} {σ : L2.St} (h : ∀ (i : Nat) (k : Bool) (d : D), sd[i]? ≠ some (.nt k d)) : NtOk C H₁ F H sd σ :=
  ⟨fun _ => Option.none, fun i k d e => (h i k d e).elim, fun _ _ _ _ _ => rfl⟩
theorem NtOk.up {C : CT} {H₁ F H : Hp} {sd : SS} {σ : L2.St} (h : NtOk C H₁ F H sd σ) : NtOk C H F H sd σ := by
  obtain ⟨O, h1, h2⟩ := h
  refine ⟨O, fun i k d e => ?_, h2⟩
  obtain ⟨a, L, k1, k2, k3, k4, k5⟩ := h1 i k d e
  exact ⟨a, L, k1, k2, k3, fun b m => ⟨(k4 b m).1, (k4 b m).2.1, k2.there b m, (k4 b m).2.2.2⟩, k5⟩
theorem NtOk.step {C : CT} {H₁ F H F' H' : Hp} {sd sd' : SS} {σ σ' : L2.St} (h : NtOk C H₁ F H sd σ)
    (hn : ∀ (i : Nat) (k : Bool) (d : D), sd'[i]? = some (.nt k d) → sd[i]? = some (.nt k d) ∧ σ'[i]? = σ[i]?)
    (hp : ∀ (r i j : Nat), sd'[r]? = some (.pt i j) → sd[r]? = some (.pt i j) ∧ σ'[r]? = σ[r]?)
    (ho : ∀ (j : Nat) (e : D) (b : Addr), sd'[j]? = some (.ow e) ∨ sd'[j]? = some (.lk e) → σ'[j]? = some (some (.ref b)) → (∃ (k : Nat) (e' : D), (sd[k]? = some (.ow e') ∨ sd[k]? = some (.lk e')) ∧ σ[k]? = some (some (.ref b))) ∨ H₁ b = none)
    (ff : Same F F')
    (st : ∀ (b : Addr) (o : HO), H b = some o → F b = none → (∀ (k : Nat) (e : D), sd[k]? = some (.ow e) ∨ sd[k]? = some (.lk e) → σ[k]? ≠ some (some (.ref b))) → H' b = some o ∧ F' b = none) : NtOk C H₁ F' H' sd' σ' := by
  obtain ⟨O, h1, h2⟩ := h
  refine ⟨fun b => if H₁ b = none then none else O b, fun i kk0 d e => ?_, fun j e b q z => ?_⟩
  · obtain ⟨e1, e2⟩ := hn i kk0 d e
    obtain ⟨a, L, k1, k2, k3, k4, k5⟩ := h1 i kk0 d e1
    have kk : ∀ b o, b ∈ a :: L → H b = some o → H' b = some o ∧ F' b = none := fun b o m hb => st b o hb (k4 b m).2.1 fun k e' q z => by
      have := h2 k e' b q z
      rw [(k4 b m).2.2.2] at this
      cases this
    refine ⟨a, L, e2.trans k1, k2.mono ff fun b o m hb => (kk b o m hb).1, k3, fun b m => ?_, fun r j q => ?_⟩
    case refine_2 =>
      obtain ⟨q1, q2⟩ := hp r i j q
      obtain ⟨b, g1, g2⟩ := k5 r j q1
      exact ⟨b, g1, q2.trans g2⟩
    obtain ⟨o, ho⟩ := k2.there b m
    refine ⟨(k4 b m).1, (kk b o m ho).2, (k4 b m).2.2.1, ?_⟩
    obtain ⟨o', h'⟩ := (k4 b m).2.2.1
    show (if H₁ b = Option.none then Option.none else O b) = some i
    rw [if_neg (by rw [h']; exact fun z => by cases z)]
    exact (k4 b m).2.2.2
  · rcases ho j e b q z with ⟨k, e', q', z'⟩ | hb
    · dsimp only
      rw [h2 k e' b q' z']
      split <;> rfl
    · dsimp only
      rw [if_pos hb]

structure StR (C : CT) (F H : Hp) (sd : SS) (σ : L2.St) : Prop where
  ext : Ext C.F0 C.H0 F H
  len : sd.length = σ.length
  sh : ∀ (i : Nat) (d : D), sd[i]? = some (.sh d) → ∃ v, σ[i]? = some (some v) ∧ Rep C.G F d v
  ow : ∀ (i : Nat) (d : D), sd[i]? = some (.ow d) ∨ sd[i]? = some (.lk d) → ∃ a, σ[i]? = some (some (.ref a)) ∧ C.H0 a = none ∧ F a = none ∧ OwR C.G F H a d
  dis : ∀ (i j : Nat) (d e : D) (a : Addr), sd[i]? = some (.ow d) ∨ sd[i]? = some (.lk d) → sd[j]? = some (.ow e) ∨ sd[j]? = some (.lk e) → σ[i]? = some (some (.ref a)) → σ[j]? = some (some (.ref a)) → i = j
  nt : NtOk C H F H sd σ
theorem StR.fh {C : CT} {F H : Hp} {sd : SS} {σ : L2.St} (s : StR C F H sd σ) : Same F H := s.ext.fh
theorem StR.mono {C : CT} {F H F' H' : Hp} {sd : SS} {σ : L2.St} (s : StR C F H sd σ) (e : Ext F H F' H') : StR C F' H' sd σ := by
  refine ⟨s.ext.trans e, s.len, fun i d h => ?_, fun i d h => ?_, s.dis, (s.nt.step (fun i k d q => ⟨q, rfl⟩) (fun r i j q => ⟨q, rfl⟩) (fun j e b q z => .inl ⟨j, e, q, z⟩) e.ff fun b o h1 h2 _ => ⟨e.hh _ _ h1, e.ow _ _ h1 h2⟩).up⟩
  · obtain ⟨v, h1, h2⟩ := s.sh i d h
    exact ⟨v, h1, Rep.mono e.ff h2⟩
  · obtain ⟨a, h1, h2, h3, h4⟩ := s.ow i d h
    obtain ⟨o, ho⟩ := h4.there
    exact ⟨a, h1, h2, e.ow _ _ ho h3, h4.mono e.ff fun o h => e.hh _ _ h⟩

def XR (G : GE) (F : Hp) (c : Nat) (vs : List D) (cls : Value) (dx : Option Addr) : Prop :=
  ∃ C ns, G.xcl c = some (C, ns) ∧ cls = .ref C ∧ ((ns = [] ∧ dx = none ∧ vs = []) ∨ ∃ d fs, dx = some d ∧ F d = some (.xd fs) ∧ fs.map (·.1) = ns ∧ RepL G F vs (fs.map (·.2)))

def PostE (C : CT) (W : WX) (F H : Hp) (σ : L2.St) (P : Hp → Hp → D → V → Prop) (Q : VK) : R D → Prop
  | .ok d => ∀ v F' H', Ext F H F' H' → P F' H' d v → Q v H'
  | .ex c vs => ∀ cls dx F' H', Ext F H F' H' → XR C.G F' c vs cls dx → W cls dx σ H'
  | .bad => False
abbrev pD (C : CT) : Hp → Hp → D → V → Prop := fun F _ d v => Rep C.G F d v
abbrev pB (C : CT) : Hp → Hp → D → V → Prop := fun F H d v => Bor C.G F H d v
abbrev pF (C : CT) (H₀ : Hp) : Hp → Hp → D → V → Prop := fun F H d v => ∃ a, v = .ref a ∧ H₀ a = none ∧ F a = none ∧ OwR C.G F H a d
def tD (C : CT) (W : WX) (f : SS → R D) : TE := fun σ H Q => ∃ F sd, StR C F H sd σ ∧ PostE C W F H σ (pD C) Q (f sd)
def tB (C : CT) (W : WX) (f : SS → R D) : TE := fun σ H Q => ∃ F sd, StR C F H sd σ ∧ PostE C W F H σ (pB C) Q (f sd)
def tF (C : CT) (W : WX) (f : SS → R D) : TE := fun σ H Q => ∃ F sd, StR C F H sd σ ∧ PostE C W F H σ (pF C H) Q (f sd)
def PostT (C : CT) (W : WX) (F H : Hp) (σ : L2.St) (Q : Bool → Hp → Prop) : R D → Prop
  | .ok (.bl b) => ∀ F' H', Ext F H F' H' → Q b H'
  | .ok _ => False
  | .ex c vs => ∀ cls dx F' H', Ext F H F' H' → XR C.G F' c vs cls dx → W cls dx σ H'
  | .bad => False
def tT (C : CT) (W : WX) (f : SS → R D) : TT := fun σ H Q => ∃ F sd, StR C F H sd σ ∧ PostT C W F H σ Q (f sd)
def PostA (C : CT) (W : WX) (F H : Hp) (σ : L2.St) (P : Hp → Hp → D → V → Prop) (Q : List V → Hp → Prop) : R (List D) → Prop
  | .ok ds => ∀ vs F' H', Ext F H F' H' → Paired (P F' H') ds vs → Q vs H'
  | .ex c vs => ∀ cls dx F' H', Ext F H F' H' → XR C.G F' c vs cls dx → W cls dx σ H'
  | .bad => False
def tA (C : CT) (W : WX) (f : SS → R (List D)) : TA := fun σ H Q => ∃ F sd, StR C F H sd σ ∧ PostA C W F H σ (pD C) Q (f sd)
def tAB (C : CT) (W : WX) (f : SS → R (List D)) : TA := fun σ H Q => ∃ F sd, StR C F H sd σ ∧ PostA C W F H σ (pB C) Q (f sd)

section
variable {G : GE} {F H : Hp} {v : V}
theorem bor_int {i : Int} (h : Bor G F H (.int i) v) : v = .int i := by
  rcases h with h | ⟨_, _, _, h⟩
  · exact rep_int.mp h
  · exact h.elim
theorem bor_bl {i : Bool} (h : Bor G F H (.bl i) v) : v = .bl i := by
  rcases h with h | ⟨_, _, _, h⟩
  · exact rep_bl.mp h
  · exact h.elim
theorem bor_non (h : Bor G F H .non v) : v = .non := by
  rcases h with h | ⟨_, _, _, h⟩
  · exact rep_non.mp h
  · exact h.elim
theorem bor_str {x : List Nat} (h : Bor G F H (.str x) v) : v = .str ⟨x.toArray⟩ ∧ okS x = true := by
  rcases h with h | ⟨_, _, _, h⟩
  · exact rep_str.mp h
  · exact h.elim
theorem bor_lst {ds : List D} (s : Same F H) (h : Bor G F H (.lst ds) v) : ∃ a xs, v = .ref a ∧ SqL G.K H a xs ∧ RepL G F ds xs := by
  rcases h with h | ⟨a, e, _, xs, h, r⟩
  · obtain ⟨a, xs, e, q, r⟩ := rep_lst.mp h
    exact ⟨a, xs, e, s.seq q, r⟩
  · exact ⟨a, xs, e, SqL.of h, r⟩
theorem bor_tup {ds : List D} (s : Same F H) (h : Bor G F H (.tup ds) v) : ∃ a xs, v = .ref a ∧ SqT G.K H a xs ∧ RepL G F ds xs := by
  rcases h with h | ⟨a, e, _, h⟩
  · obtain ⟨a, xs, e, q, r⟩ := rep_tup.mp h
    exact ⟨a, xs, e, Same.seqT s q, r⟩
  · exact h.elim
theorem bor_dic {ks : List Key} {ds : List D} (s : Same F H) (h : Bor G F H (.dic ks ds) v) : ∃ a kvs, v = .ref a ∧ Rd H a (.dK kvs) ∧ kvs.map (·.1) = ks ∧ ks.Nodup ∧ RepL G F ds (kvs.map (·.2)) := by
  rcases h with h | ⟨a, e, _, kvs, h, k, nd, r⟩
  · obtain ⟨a, kvs, e, q, k, nd, r⟩ := rep_dic.mp h
    obtain ⟨o, q⟩ := q
    exact ⟨a, kvs, e, .inr ⟨o, s _ _ q⟩, k, nd, r⟩
  · exact ⟨a, kvs, e, .inl h, k, nd, r⟩
theorem bor_obj {c : Nat} {ds : List D} (s : Same F H) (h : Bor G F H (.obj c ds) v) : ∃ a C dx fs ns, v = .ref a ∧ G.cls c = some (C, ns) ∧ H a = some (.ins C dx fs) ∧ fs.map (·.1) = ns ∧ RepL G F ds (fs.map (·.2)) := by
  rcases h with h | ⟨a, e, _, C, dx, fs, ns, g, h, k, r⟩
  · obtain ⟨a, C, dx, fs, ns, e, g, q, k, r⟩ := rep_obj.mp h
    exact ⟨a, C, dx, fs, ns, e, g, s _ _ q, k, r⟩
  · exact ⟨a, C, dx, fs, ns, e, g, h, k, r⟩
end

section
variable {C : CT} {W : WX} {F H F1 H1 : Hp} {σ : L2.St} {P P1 : Hp → Hp → D → V → Prop} {Q Q1 : VK}
theorem PostE.ext {r : R D} (e : Ext F H F1 H1) (h : PostE C W F H σ P Q r) : PostE C W F1 H1 σ P Q r := by
  cases r with
  | ok d => exact fun v F' H' e' p => h v F' H' (e.trans e') p
  | ex c vs => exact fun cls dx F' H' e' x => h cls dx F' H' (e.trans e') x
  | bad => exact h
theorem PostE.bind {x : R D} {k : D → R D} (h : PostE C W F H σ P Q (x.bind k))
    (hk : ∀ d v F1 H1, Ext F H F1 H1 → P1 F1 H1 d v → PostE C W F1 H1 σ P Q (k d) → Q1 v H1) : PostE C W F H σ P1 Q1 x := by
  cases x with
  | ok d => exact fun v F' H' e p => hk d v F' H' e p (PostE.ext e h)
  | ex c vs => exact h
  | bad => exact h
theorem PostE.imp {r : R D} (h : PostE C W F H σ P Q r) (hP : ∀ F' H' d v, Ext F H F' H' → P1 F' H' d v → P F' H' d v) : PostE C W F H σ P1 Q r := by
  cases r with
  | ok d => exact fun v F' H' e p => h v F' H' e (hP _ _ _ _ e p)
  | ex c vs => exact h
  | bad => exact h
end
theorem pe_imp {X : Cx} {e : Expr} {t t' : TE} (h : PE X e t) (i : ∀ σ H Q, t' σ H Q → t σ H Q) : PE X e t' := ⟨fun pins s σ H Q I q => h.run pins s σ H Q I (i σ H Q q)⟩
theorem pt_imp {X : Cx} {e : Expr} {t t' : TT} (h : PT X e t) (i : ∀ σ H Q, t' σ H Q → t σ H Q) : PT X e t' := ⟨fun pins s σ H Q I q => h.run pins s σ H Q I (i σ H Q q)⟩
theorem pa_imp {X : Cx} {e : List Expr} {t t' : TA} (h : PA X e t) (i : ∀ σ H Q, t' σ H Q → t σ H Q) : PA X e t' := ⟨fun pos pins s σ H Q I q => h.run pos pins s σ H Q I (i σ H Q q)⟩
theorem ps_imp {X : Cx} {e : Stmt} {t t' : TS} (h : PS X e t) (i : ∀ D σ H, t' D σ H → t D σ H) : PS X e t' := ⟨fun pins s σ H D I q => h.run pins s σ H D I (i D σ H q)⟩
theorem pss_imp {X : Cx} {e : List Stmt} {t t' : TS} (h : PSs X e t) (i : ∀ D σ H, t' D σ H → t D σ H) : PSs X e t' := ⟨fun pins s σ H D I q => h.run pins s σ H D I (i D σ H q)⟩

section
variable {X : Cx} {C : CT} {W : WX} {e : Expr} {f : SS → R D} {pos : Pos}
def eV (i : Nat) : SS → R D := fun s => match s[i]? with
  | some (.sh d) => .ok d
  | _ => .bad
def eR (i : Nat) : SS → R D := fun s => match s[i]? with
  | some (.sh d) => .ok d
  | some (.ow d) => .ok d
  | some (.lk d) => .ok d
  | _ => .bad
theorem s_v (i : Nat) {x : Str} (hN : X.N[i]? = some x := by rfl) (hv : Vis X.env.scope x := by first | exact Or.inl rfl | exact Or.inr (Or.inl rfl) | exact Or.inr (Or.inr rfl)) (hd : (x == ("__debug__" : Str)) = false := by decide)
    (hcd : (x == ("__classdict__" : Str)) = false := by decide) : PE X (.Name x pos) (tD C W (eV i)) := pe_imp (pe_var (i := i) hN hv hd hcd) fun σ H Q ⟨F, sd, S, h⟩ => by
  unfold eV at h
  cases q : sd[i]? with
  | none => rw [q] at h; exact h.elim
  | some u =>
    rw [q] at h
    cases u with
    | sh d =>
      obtain ⟨v, e1, e2⟩ := S.sh i d q
      exact ⟨v, e1, h v F H (Ext.refl S.fh) e2⟩
    | _ => exact h.elim
theorem s_r (i : Nat) {x : Str} (hN : X.N[i]? = some x := by rfl) (hv : Vis X.env.scope x := by first | exact Or.inl rfl | exact Or.inr (Or.inl rfl) | exact Or.inr (Or.inr rfl)) (hd : (x == ("__debug__" : Str)) = false := by decide)
    (hcd : (x == ("__classdict__" : Str)) = false := by decide) : PE X (.Name x pos) (tB C W (eR i)) := pe_imp (pe_var (i := i) hN hv hd hcd) fun σ H Q ⟨F, sd, S, h⟩ => by
  unfold eR at h
  cases q : sd[i]? with
  | none => rw [q] at h; exact h.elim
  | some u =>
    rw [q] at h
    cases u with
    | no => exact h.elim
    | nt k d => exact h.elim
    | pt k l => exact h.elim
    | sh d =>
      obtain ⟨v, e1, e2⟩ := S.sh i d q
      exact ⟨v, e1, h v F H (Ext.refl S.fh) (.inl e2)⟩
    | ow d =>
      obtain ⟨a, e1, _, e2, e3⟩ := S.ow i d (.inl q)
      exact ⟨_, e1, h _ F H (Ext.refl S.fh) (.inr ⟨a, rfl, e2, e3⟩)⟩
    | lk d =>
      obtain ⟨a, e1, _, e2, e3⟩ := S.ow i d (.inr q)
      exact ⟨_, e1, h _ F H (Ext.refl S.fh) (.inr ⟨a, rfl, e2, e3⟩)⟩
theorem s_b (h : PE X e (tD C W f)) : PE X e (tB C W f) := pe_imp h fun σ H Q ⟨F, sd, S, h⟩ => ⟨F, sd, S, PostE.imp h fun _ _ _ _ _ p => .inl p⟩
def eC (d : D) : SS → R D := fun _ => .ok d
theorem s_int {i : Int} {j} : PE X (.Constant (.int i) j pos) (tD C W (eC (.int i))) := pe_imp pe_int fun σ H Q ⟨F, sd, S, h⟩ => h _ F H (Ext.refl S.fh) (rep_int.mpr rfl)
theorem s_bl {i : Bool} {j} : PE X (.Constant (.bool i) j pos) (tD C W (eC (.bl i))) := pe_imp pe_bl fun σ H Q ⟨F, sd, S, h⟩ => h _ F H (Ext.refl S.fh) (rep_bl.mpr rfl)
theorem s_non {j} : PE X (.Constant .none j pos) (tD C W (eC .non)) := pe_imp pe_non fun σ H Q ⟨F, sd, S, h⟩ => h _ F H (Ext.refl S.fh) (rep_non.mpr rfl)
theorem s_str {x : Str} {j} (y : List Nat) (e : x.cps.toList = y := by decide +kernel) (k : okS y = true := by decide +kernel) : PE X (.Constant (.str x) j pos) (tD C W (eC (.str y))) := pe_imp pe_str fun σ H Q ⟨F, sd, S, h⟩ => by
  refine h _ F H (Ext.refl S.fh) (rep_str.mpr ⟨?_, k⟩)
  subst e
  rfl
theorem s_gint {x : Str} {i : Int} {tk : Tok} (hg : Gl X x) (hm : X.mg x = some (.int i tk)) (hd : (x == ("__debug__" : Str)) = false := by decide) : PE X (.Name x pos) (tD C W (eC (.int i))) :=
  pe_imp (pe_glob (v := .int i) hg hm ⟨_, rfl⟩ hd) fun σ H Q ⟨F, sd, S, h⟩ => h _ F H (Ext.refl S.fh) (rep_int.mpr rfl)
theorem s_gstr {x z : Str} {tk : Tok} (y : List Nat) (hg : Gl X x) (hm : X.mg x = some (.str z tk)) (e : z.cps.toList = y := by decide +kernel) (k : okS y = true := by decide +kernel) (hd : (x == ("__debug__" : Str)) = false := by decide) : PE X (.Name x pos) (tD C W (eC (.str y))) :=
  pe_imp (pe_glob (v := .str z) hg hm ⟨_, rfl⟩ hd) fun σ H Q ⟨F, sd, S, h⟩ => by
    refine h _ F H (Ext.refl S.fh) (rep_str.mpr ⟨?_, k⟩)
    subst e
    rfl
end

def PostV (G : GE) (F H : Hp) (Q : VK) : R D → Prop
  | .ok d => ∀ v F' H', Ext F H F' H' → Rep G F' d v → Q v H'
  | _ => False
theorem PostE.toV {C : CT} {W : WX} {F H : Hp} {σ : L2.St} {Q : VK} {r : R D} (hne : ∀ c vs, r ≠ .ex c vs) (h : PostE C W F H σ (pD C) Q r) : PostV C.G F H Q r := by
  cases r with
  | ok d => exact h
  | ex c vs => exact (hne c vs rfl).elim
  | bad => exact h
def r2 (G : GE) (g : D → D → R D) : R2 := fun x y H Q => ∃ F d e, Same F H ∧ Bor G F H d x ∧ Bor G F H e y ∧ PostV G F H Q (g d e)
def r1 (G : GE) (g : D → R D) : V → Hp → VK → Prop := fun x H Q => ∃ F d, Same F H ∧ Bor G F H d x ∧ PostV G F H Q (g d)
def eBin (g : D → D → R D) (fa fb : SS → R D) : SS → R D := fun s => (fa s).bind fun x => (fb s).bind fun y => g x y
def eUn (g : D → R D) (fa : SS → R D) : SS → R D := fun s => (fa s).bind fun x => g x
def NoEx2 (g : D → D → R D) : Prop := ∀ x y c vs, g x y ≠ .ex c vs
def NoEx1 (g : D → R D) : Prop := ∀ x c vs, g x ≠ .ex c vs
section
variable {X : Cx} {C : CT} {W : WX} {a b c : Expr} {fa fb fc : SS → R D} {g g' : D → D → R D} {g1 : D → R D} {pos : Pos}
theorem bin_read (hg : NoEx2 g) {σ : L2.St} {H : Hp} {Q : VK} (h : tD C W (eBin g fa fb) σ H Q) : tOp (r2 C.G g) (tB C W fa) (tB C W fb) σ H Q := by
  obtain ⟨F, sd, S, h⟩ := h
  refine ⟨F, sd, S, PostE.bind h fun d v F1 H1 e1 b1 h1 => ?_⟩
  refine ⟨F1, sd, S.mono e1, PostE.bind h1 fun d2 v2 F2 H2 e2 b2 h2 => ?_⟩
  exact ⟨F2, d, d2, e2.fh, Bor.mono e2 b1, b2, h2.toV (hg d d2)⟩
theorem un_read (hg : NoEx1 g1) {σ : L2.St} {H : Hp} {Q : VK} (h : tD C W (eUn g1 fa) σ H Q) : tUn (r1 C.G g1) (tB C W fa) σ H Q := by
  obtain ⟨F, sd, S, h⟩ := h
  refine ⟨F, sd, S, PostE.bind h fun d v F1 H1 e1 b1 h1 => ?_⟩
  exact ⟨F1, d, e1.fh, b1, h1.toV (hg d)⟩
theorem s_bin {op : Operator} (hg : NoEx2 g) (ho : OpR X (binaryOp op) (r2 C.G g)) (ha : PE X a (tB C W fa)) (hb : PE X b (tB C W fb)) : PE X (.BinOp a op b pos) (tD C W (eBin g fa fb)) :=
  pe_imp (pe_op ho ha hb) fun _ _ _ h => bin_read hg h
theorem s_un {op : UnaryOp} (hg : NoEx1 g1) (ho : UnR X (unaryOp op) (r1 C.G g1)) (ha : PE X a (tB C W fa)) : PE X (.UnaryOp op a pos) (tD C W (eUn g1 fa)) :=
  pe_imp (pe_un ho ha) fun _ _ _ h => un_read hg h
theorem s_cmp {op : CmpOp} (hg : NoEx2 g) (ho : OpR X (compareOp op) (r2 C.G g)) (ha : PE X a (tB C W fa)) (hb : PE X b (tB C W fb)) (hm : behindInMarks op b = false := by first | exact nomark _ | with_unfolding_all rfl) : PE X (.Compare a [op] [b] pos) (tD C W (eBin g fa fb)) :=
  pe_imp (pe_cmpR ho ha hb hm) fun _ _ _ h => bin_read hg h
end
end
end Z
namespace Z
noncomputable section
open PySem PySem.Spec PySem.P PyProof.Rows L2

def SZp : {n : Nat // n = 16777216} := Classical.choice ⟨⟨_, rfl⟩⟩
def SZ : Nat := SZp.1
theorem sz_is : SZ = 16777216 := SZp.2
theorem le_sz {n : Nat} (h : n ≤ 16777216) : n ≤ SZ := by rw [sz_is]; exact h
theorem sz_line {n : Nat} (h : n ≤ SZ) : n ≤ sizeLine := by rw [sizeLine_eq]; rw [sz_is] at h; exact h
theorem okS_append {x y : List Nat} (a : okS x = true) (b : okS y = true) : okS (x ++ y) = true := by
  unfold okS at *
  rw [List.all_append, a, b]
  rfl
theorem okS_take {x : List Nat} (n : Nat) (a : okS x = true) : okS (x.take n) = true := by
  unfold okS at *
  rw [List.all_eq_true] at *
  exact fun c h => a c (List.mem_of_mem_take h)
theorem okS_drop {x : List Nat} (n : Nat) (a : okS x = true) : okS (x.drop n) = true := by
  unfold okS at *
  rw [List.all_eq_true] at *
  exact fun c h => a c (List.mem_of_mem_drop h)
theorem okS_mem {x : List Nat} {c : Nat} (a : okS x = true) (h : c ∈ x) : okS [c] = true := by
  unfold okS at *
  rw [List.all_eq_true] at *
  intro d hd
  rw [List.mem_singleton] at hd
  subst hd
  exact a _ h

section
variable {X : Cx} {G : GE} {F H : Hp} {Q : VK}
theorem PostV.int {i : Int} (S : Same F H) (p : PostV G F H Q (.ok (.int i))) : Q (.int i) H := p _ F H (Ext.refl S) (rep_int.mpr rfl)
theorem PostV.bl {i : Bool} (S : Same F H) (p : PostV G F H Q (.ok (.bl i))) : Q (.bl i) H := p _ F H (Ext.refl S) (rep_bl.mpr rfl)
theorem PostV.str {x : List Nat} (S : Same F H) (k : okS x = true) (p : PostV G F H Q (.ok (.str x))) : Q (.str ⟨x.toArray⟩) H := p _ F H (Ext.refl S) (rep_str.mpr ⟨rfl, k⟩)
theorem PostV.lst {ds : List D} {vs : List V} (S : Same F H) (r : RepL G F ds vs) (p : PostV G F H Q (.ok (.lst ds))) : ∀ a, H a = none → Q (.ref a) (upd H a (.lst vs)) := fun a ha =>
  p _ (upd F a (.lst vs)) (upd H a (.lst vs)) (Ext.new S ha) (rep_lst.mpr ⟨a, vs, rfl, SqL.of upd_same, RepL.mono (same_new (S.free ha)) r⟩)
theorem PostV.tup {ds : List D} {vs : List V} (S : Same F H) (r : RepL G F ds vs) (p : PostV G F H Q (.ok (.tup ds))) : ∀ a, H a = none → Q (.ref a) (upd H a (.tup vs)) := fun a ha =>
  p _ (upd F a (.tup vs)) (upd H a (.tup vs)) (Ext.new S ha) (rep_tup.mpr ⟨a, vs, rfl, SqT.of upd_same, RepL.mono (same_new (S.free ha)) r⟩)
end

theorem list_addW (l : Addr) (items : Array Value) (n : Nat) (b : Addr) (items2 : Array Value) (n2 : Nat) (sl sl2 : Array (Option Value)) (hc0 : items.size + items2.size ≤ sizeLine) :
    Meets (Builtin.«list.__add__» ⟨[.ref l, .ref b], []⟩) (fun _ R s => s.heap.get? l = some { cls := .type "list", dict := none, data := .seq items n, slots := sl } ∧ s.heap.get? b = some { cls := .type "list", dict := none, data := .seq items2 n2, slots := sl2 } ∧ R (.ok (.ret (Value.ref s.heap.objs.size))) { s with heap := s.heap.push { cls := Value.type "list", data := Data.seq (items ++ items2) }, toks := s.toks }) :=
  .of_wp fun prog w A R s h => by obtain ⟨hp, g, d, tk, os⟩ := s; obtain ⟨hl, hb, h⟩ := h; have f1 := AutoSeq1.idx_int; have f2 := AutoSeq1.sub_tuple_tuple; have f3 := AutoSeq1.sub_list_list; have f4 := AutoSeq1.sub_tuple_list; have f5 := AutoSeq1.sub_list_tuple; wp_walk using AutoSeq1.wpAny_loadPart' hl, AutoSeq1.wpAny_loadPart' hb; exact ⟨_, rfl, h⟩
def rCatL (K : PySem.W.Frag) : R2 := fun x y H Q => ∃ l b xs zs, x = .ref l ∧ y = .ref b ∧ SqL K H l xs ∧ SqL K H b zs ∧ xs.length + zs.length ≤ sizeLine ∧ ∀ p, H p = none → Q (.ref p) (upd H p (.lst (xs ++ zs)))
theorem op_catL {X : Cx} : OpR X (binaryOp .Add) (rCatL X.K) := by
  intro pins s σ H x y v u Q I rx ry h
  obtain ⟨l, b, xs, zs, rfl, rfl, hH, hB, hz, q⟩ := h
  cases rx
  cases ry
  obtain ⟨its, r, ⟨o, n, e, c1, d1, e1⟩, z⟩ := I.list hH
  obtain ⟨its2, r2, ⟨o2, n2, e2, c2, d2, e3⟩, z2⟩ := I.list hB
  obtain ⟨cls, dd, data, sl⟩ := o
  obtain ⟨cls2, dd2, data2, sl2⟩ := o2
  simp only at c1 d1 e1 c2 d2 e3
  subst c1 d1 e1 c2 d2 e3
  have h1 := r.length
  have h2 := r2.length
  refine concat_meets ⟨_, e, rfl⟩ ⟨_, e2, rfl⟩ noFill_list_add seq_list_add F.slot_list_add F.entry_list_add (F.args_list_add_2 _ _)
    (list_addW l its.toArray n b its2.toArray n2 sl sl2 (by rw [List.size_toArray, List.size_toArray]; omega)) ⟨e, e2, ?_⟩
  have ea : its.toArray ++ its2.toArray = (its ++ its2).toArray := by simp
  rw [ea]
  exact ⟨.ref _, _, I.lnew (t' := s.toks) (r.append r2) (by rw [List.length_append]; omega), rfl, q _ I.fresh⟩

def addD : D → D → R D
  | .int i, .int j => .ok (.int (i + j))
  | .str x, .str y => if x.length + y.length ≤ SZ then .ok (.str (x ++ y)) else .bad
  | .lst x, .lst y => if x.length + y.length ≤ SZ then .ok (.lst (x ++ y)) else .bad
  | .tup x, .tup y => if x.length + y.length ≤ SZ then .ok (.tup (x ++ y)) else .bad
  | _, _ => .bad
theorem addD_ne : NoEx2 addD := fun x y c vs h => by
  unfold addD at h
  split at h <;> first | cases h | (split at h <;> cases h)
theorem strs_app (x y : List Nat) : (⟨x.toArray⟩ : Str) ++ ⟨y.toArray⟩ = ⟨(x ++ y).toArray⟩ := by
  show Str.append _ _ = _
  unfold Str.append
  simp
theorem op_addD {X : Cx} {C : CT} (hK : X.K = C.G.K) : OpR X (binaryOp .Add) (r2 C.G addD) := by
  intro pins s σ H x y v u Q I rx ry h
  obtain ⟨F, d, e, S, bd, be, p⟩ := h
  unfold addD at p
  split at p
  · exact op_add pins s σ H x y v u Q I rx ry ⟨_, _, bor_int bd, bor_int be, p.int S⟩
  · split at p
    · rename_i hz
      obtain ⟨e1, k1⟩ := bor_str bd
      obtain ⟨e2, k2⟩ := bor_str be
      refine op_add_str pins s σ H x y v u Q I rx ry ⟨_, _, e1, e2, ?_, ?_⟩
      · show Array.size _ + Array.size _ ≤ _
        rw [List.size_toArray, List.size_toArray]
        exact sz_line hz
      · rw [strs_app]
        exact p.str S (okS_append k1 k2)
    · exact p.elim
  · split at p
    · rename_i hz
      obtain ⟨a1, xs1, e1, q1, r1⟩ := bor_lst S bd
      obtain ⟨a2, xs2, e2, q2, r2⟩ := bor_lst S be
      rw [← hK] at q1 q2
      refine op_catL pins s σ H x y v u Q I rx ry ⟨a1, a2, xs1, xs2, e1, e2, q1, q2, ?_, p.lst S (r1.append r2)⟩
      rw [r1.length, r2.length]
      exact sz_line hz
    · exact p.elim
  · split at p
    · rename_i hz
      obtain ⟨a1, xs1, e1, q1, r1⟩ := bor_tup S bd
      obtain ⟨a2, xs2, e2, q2, r2⟩ := bor_tup S be
      have l1 := r1.length
      have l2 := r2.length
      have g1 : ∀ {F' : Hp} {ds : List D} {a : Addr} {xs : List V}, SqT C.G.K F' a xs → RepL C.G F' ds xs → Rep C.G F' (.tup ds) (.ref a) := fun q r => rep_tup.mpr ⟨_, _, rfl, q, r⟩
      rw [← hK] at q1 q2
      subst e1 e2
      have b1 : Rep C.G F (.tup _) _ := bd.elim id fun ⟨_, _, _, z⟩ => z.elim
      have b2 : Rep C.G F (.tup _) _ := be.elim id fun ⟨_, _, _, z⟩ => z.elim
      refine op_catA pins s σ H _ _ v u Q I rx ry ⟨a1, a2, xs1, xs2, rfl, rfl, q1, q2, ?_, fun z => ?_, fun _ z => ?_, fun _ _ => p.tup S (r1.append r2)⟩
      · rw [l1, l2]
        exact sz_line hz
      · subst z
        have : _ = [] := List.eq_nil_of_length_eq_zero (l1.symm.trans rfl)
        subst this
        exact p _ F H (Ext.refl S) b2
      · subst z
        have : _ = [] := List.eq_nil_of_length_eq_zero (l2.symm.trans rfl)
        subst this
        rw [List.append_nil] at p
        exact p _ F H (Ext.refl S) b1
    · exact p.elim
  · exact p.elim

def subD : D → D → R D
  | .int i, .int j => .ok (.int (i - j))
  | _, _ => .bad
theorem subD_ne : NoEx2 subD := fun x y c vs h => by
  unfold subD at h
  split at h <;> cases h
theorem op_subD {X : Cx} {G : GE} : OpR X (binaryOp .Sub) (r2 G subD) := by
  intro pins s σ H x y v u Q I rx ry h
  obtain ⟨F, d, e, S, bd, be, p⟩ := h
  unfold subD at p
  split at p
  · exact op_sub pins s σ H x y v u Q I rx ry ⟨_, _, bor_int bd, bor_int be, p.int S⟩
  · exact p.elim

def repS (x : List Nat) (n : Nat) : List Nat := (List.replicate n x).flatten
def mulD : D → D → R D
  | .int i, .int j => @ite _ (i.natAbs < 18446744073709551616 ∨ j.natAbs < 18446744073709551616 ∨ i.natAbs.log2 + j.natAbs.log2 < 1000000) (Classical.propDecidable _) (.ok (.int (i * j))) .bad
  | .str x, .int j => @ite _ (j < 9223372036854775808 ∧ -9223372036854775808 ≤ j ∧ x.length * j.toNat ≤ SZ) (Classical.propDecidable _) (.ok (.str (repS x j.toNat))) .bad
  | .lst x, .int j => @ite _ (j < 9223372036854775808 ∧ -9223372036854775808 ≤ j ∧ x.length * j.toNat ≤ SZ) (Classical.propDecidable _) (.ok (.lst ((List.replicate j.toNat x).flatten))) .bad
  | _, _ => .bad
theorem mulD_ne : NoEx2 mulD := fun x y c vs h => by
  unfold mulD at h
  split at h <;> first | cases h | (split at h <;> cases h)
theorem okS_rep {x : List Nat} (n : Nat) (h : okS x = true) : okS (repS x n) = true := by
  unfold okS repS at *
  rw [List.all_eq_true] at *
  intro c hc
  obtain ⟨l, hl, hcl⟩ := List.mem_flatten.mp hc
  rw [List.mem_replicate] at hl
  rw [hl.2] at hcl
  exact h c hcl
theorem fold_rep (x : List Nat) : ∀ (n : Nat) (acc : List Nat), List.foldl (· ++ ·) acc.toArray (List.replicate n x.toArray) = (acc ++ repS x n).toArray
  | 0, acc => by simp [repS]
  | n + 1, acc => by
    rw [List.replicate_succ, List.foldl_cons]
    have e : acc.toArray ++ x.toArray = (acc ++ x).toArray := by simp
    rw [e, fold_rep x n (acc ++ x)]
    unfold repS
    rw [List.replicate_succ, List.flatten_cons, List.append_assoc]
theorem list_mulW (l : Addr) (items : Array Value) (n : Nat) (sl : Array (Option Value)) (x : Int) (u : Tok) (hc0 : ¬(!Builtin.List.listFitsIndex x) = true) (hc1 : ¬items.size * x.toNat > (2 ^ 63 - 1) / 8) (hc2 : ¬Builtin.List.listTooLong (items.size * x.toNat) = true) :
    Meets (Builtin.«list.__mul__» ⟨[.ref l, .int x u], []⟩) (fun _ R s => s.heap.get? l = some { cls := .type "list", dict := none, data := .seq items n, slots := sl } ∧ R (.ok (.ret (Value.ref s.heap.objs.size))) { s with heap := s.heap.push { cls := Value.type "list", data := Data.seq (List.foldl (fun x1 x2 => x1 ++ x2) #[] (List.replicate (if items.isEmpty = true then 0 else x.toNat) items)) }, toks := s.toks }) :=
  .of_wp fun prog w A R s h => by
    obtain ⟨hp, g, d, tk, os⟩ := s; obtain ⟨hl, h⟩ := h
    have hsz := AutoListH.joined_fits hc2
    wp_walk using AutoSeq1.wpAny_loadPart' hl; refine wpAny_ite_false (decide_eq_false (Nat.not_lt.mpr hsz)) ?_; wp_walk using AutoSeq1.wpAny_loadPart' hl; exact ⟨_, rfl, h⟩
theorem int_rmulW (a : Int) (t : Tok) (l : Addr) (items : Array Value) (n : Nat) (sl : Array (Option Value)) :
    Meets (Builtin.«int.__rmul__» ⟨[.int a t, .ref l], []⟩) (fun _ R s => s.heap.get? l = some { cls := .type "list", dict := none, data := .seq items n, slots := sl } ∧ R (.ok (.ret Value.notImplemented)) s) :=
  .of_wp fun prog w A R s h => by obtain ⟨hp, g, d, tk, os⟩ := s; obtain ⟨hl, h⟩ := h; wp_walk using AutoSeq1.wpAny_loadPart' hl; exact ⟨_, rfl, h⟩
def rRepL (K : PySem.W.Frag) : R2 := fun x y H Q => ∃ l k xs, x = .ref l ∧ y = .int k ∧ SqL K H l xs ∧ -(2 ^ 63) ≤ k ∧ k < 2 ^ 63 ∧ xs.length * k.toNat ≤ sizeLine ∧
  ∀ p, H p = none → Q (.ref p) (upd H p (.lst (List.replicate k.toNat xs).flatten))
theorem op_repL {X : Cx} : OpR X (binaryOp .Mult) (rRepL X.K) := by
  intro pins s σ H x y v u Q I rx ry h
  obtain ⟨l, k, xs, rfl, rfl, hH, h1, h2, hz, q⟩ := h
  cases rx
  obtain ⟨t, rfl⟩ := ry
  obtain ⟨its, r, ⟨o, n, e, c1, d1, e1⟩, z⟩ := I.list hH
  obtain ⟨cls, dd, data, sl⟩ := o
  simp only at c1 d1 e1
  subst c1 d1 e1
  have hl := r.length
  have hlen : its.toArray.size * k.toNat ≤ sizeLine := by rw [List.size_toArray, ← hl]; exact hz
  have hcap : ¬ its.toArray.size * k.toNat > (2 ^ 63 - 1) / 8 := by
    have : (sizeLine : Nat) ≤ (2 ^ 63 - 1) / 8 := by decide
    omega
  have hfit : ¬ (!Builtin.List.listFitsIndex k) = true := by
    rw [fitsIndex_both h1 h2]
    exact Bool.false_ne_true
  have hlong : ¬ Builtin.List.listTooLong (its.toArray.size * k.toNat) = true := by
    rw [notLongL hlen]
    exact Bool.false_ne_true
  have hnew : List.foldl (fun x1 x2 => x1 ++ x2) #[] (List.replicate (if its.toArray.isEmpty = true then 0 else k.toNat) its.toArray) = (List.replicate k.toNat its).flatten.toArray := by
    have f0 : ∀ m : Nat, List.foldl (fun x1 x2 => x1 ++ x2) #[] (List.replicate m its.toArray) = (List.replicate m its).flatten.toArray := fun m => by
      have := foldl_rep its m []
      rw [List.nil_append] at this
      exact this
    rw [f0]
    cases its with
    | nil => simp
    | cons a r' => rw [if_neg (by simp)]
  refine wpAny_binaryOp_repeat_ref (T := "list") (U := "int") (by decide) ⟨_, e, rfl⟩ (fun s' => typeIs_int s' k t) noFill_list_mul F.fills_int_mul F.slot_int_rmul repeat_list F.slot_int_index.lookup
    (call_meets F.slot_int_rmul (typeIs_int s k t) F.entry_int_rmul (F.args_int_rmul_2 _ _) (int_rmulW k t l its.toArray n sl)
      ⟨e, rfl, ⟨_, e, rfl⟩, call_meets F.slot_list_mul ⟨_, e, rfl⟩ F.entry_list_mul (F.args_list_mul_2 _ _) (list_mulW l its.toArray n sl k t hfit hcap hlong) ⟨e, ?_⟩⟩)
  rw [hnew]
  exact ⟨.ref _, _, I.lnew (t' := s.toks) (r.rep k.toNat) (by rw [PyProof.Rows.lm_len_rep_flat, Nat.mul_comm]; exact hz), rfl, q _ I.fresh⟩
theorem RepL.rep {G : GE} {H : Hp} {ds : List D} {vs : List V} (r : RepL G H ds vs) : ∀ n, RepL G H (List.replicate n ds).flatten (List.replicate n vs).flatten
  | 0 => RepL.nil
  | n + 1 => by
    rw [List.replicate_succ, List.replicate_succ, List.flatten_cons, List.flatten_cons]
    exact r.append (RepL.rep r n)
theorem op_mulD {X : Cx} {C : CT} (hK : X.K = C.G.K) : OpR X (binaryOp .Mult) (r2 C.G mulD) := by
  intro pins s σ H x y v u Q I rx ry h
  obtain ⟨F, d, e, S, bd, be, p⟩ := h
  unfold mulD at p
  split at p
  · split at p
    · rename_i i j hz
      by_cases hw : CMulW i j
      · exact op_mulW pins s σ H x y v u Q I rx ry ⟨_, _, bor_int bd, bor_int be, hw, p.int S⟩
      · refine op_mul pins s σ H x y v u Q I rx ry ⟨_, _, bor_int bd, bor_int be, ?_, p.int S⟩
        rcases hz with hz | hz | hz
        · exact .inl ⟨by omega, by omega⟩
        · exact .inr ⟨by omega, by omega⟩
        · exact absurd hz hw
    · exact p.elim
  · split at p
    · rename_i zs j hz
      obtain ⟨e1, k1⟩ := bor_str bd
      have e2 := bor_int be
      subst e1 e2
      obtain ⟨t, rfl⟩ := rx
      obtain ⟨t', rfl⟩ := ry
      have fin : ∀ tk tk', EP X pins σ Q (.str ⟨(repS zs j.toNat).toArray⟩ tk) { s with toks := tk' } := fun tk tk' => ⟨.str ⟨(repS zs j.toNat).toArray⟩, H, I.tok _, ⟨_, rfl⟩, p.str S (okS_rep _ k1)⟩
      have hlen : (⟨zs.toArray⟩ : Str).length = zs.length := by show Array.size _ = _; rw [List.size_toArray]
      have hlt : ∀ n : Nat, n ≤ SZ → Builtin.Str.tooLong n = false := fun n hn => by
        unfold Builtin.Str.tooLong
        exact decide_eq_false (by have := sz_line hn; omega)
      refine PySem.P.mul_str ?_ (fun h1 h2 => ?_) (fun h1 h2 => ?_) ?_
      · rw [decide_eq_false (by omega), decide_eq_false (by omega)]
        rfl
      · rw [hlen]
        intro z
        have h3 : 1 ≤ j := by omega
        have h4 : (2 ^ 63 - 1) / j * j ≤ 2 ^ 63 - 1 := Int.ediv_mul_le _ (by omega)
        have h5 : ((2 ^ 63 - 1) / j + 1) * j ≤ (zs.length : Int) * j := Int.mul_le_mul_of_nonneg_right (by omega) (by omega)
        have h6 : (2 ^ 63 - 1 : Int) < ((2 ^ 63 - 1) / j + 1) * j := Int.lt_ediv_add_one_mul_self _ (by omega)
        have h7 : ((zs.length * j.toNat : Nat) : Int) = (zs.length : Int) * j := by
          rw [Int.natCast_mul, Int.toNat_of_nonneg (by omega)]
        have h8 : zs.length * j.toNat ≤ 16777216 := by have := hz.2.2; rw [sz_is] at this; exact this
        omega
      · rw [hlen]
        exact hlt _ hz.2.2
      · split
        · rename_i hn
          have h0 : j.toNat = 0 := by omega
          have f := fin s.toks (s.toks + 1)
          rw [h0] at f
          refine ⟨?_, ?_⟩
          · first | exact rfl | exact True.intro | decide
          · exact f
        · split
          · rename_i hn hc
            rw [hlen] at hc
            have f : repS zs j.toNat = zs := by
              rw [Bool.or_eq_true] at hc
              rcases hc with hc | hc
              · have h1 : j = 1 := by simpa using hc
                subst h1
                simp [repS]
              · have h1 : zs = [] := by simpa using hc
                subst h1
                unfold repS
                simp
            have g := fin t s.toks
            rw [f] at g
            exact g
          · have g := fin s.toks (s.toks + 1)
            refine ⟨?_, ?_⟩
            · rename_i h1 h2
              have e3 := fold_rep zs j.toNat []
              rw [List.nil_append] at e3
              have e4 : (List.replicate j.toNat (⟨zs.toArray⟩ : Str).cps).foldl (· ++ ·) #[] = (repS zs j.toNat).toArray := e3
              rw [e4]
              show Array.size _ ≤ _
              rw [List.size_toArray]
              unfold repS
              rw [List.length_flatten, List.map_replicate, List.sum_replicate_nat]
              have h8 : zs.length * j.toNat ≤ SZ := hz.2.2
              rw [Nat.mul_comm]
              exact sz_line h8
            · have e3 := fold_rep zs j.toNat []
              rw [List.nil_append] at e3
              have e4 : (List.replicate j.toNat (⟨zs.toArray⟩ : Str).cps).foldl (· ++ ·) #[] = (repS zs j.toNat).toArray := e3
              rw [e4]
              exact g
    · exact p.elim
  · split at p
    · rename_i hz
      obtain ⟨a1, xs1, e1, q1, r1⟩ := bor_lst S bd
      rw [← hK] at q1
      refine op_repL pins s σ H x y v u Q I rx ry ⟨a1, _, xs1, e1, bor_int be, q1, by omega, by omega, ?_, p.lst S (r1.rep _)⟩
      rw [r1.length]
      exact sz_line hz.2.2
    · exact p.elim
  · exact p.elim

def fdivD : D → D → R D
  | .int i, .int j => if 0 < j ∧ j.natAbs.log2 < 9000 then .ok (.int (i / j)) else if j < 0 ∧ j.natAbs.log2 < 9000 then .ok (.int (i.fdiv j)) else .bad
  | _, _ => .bad
theorem fdivD_ne : NoEx2 fdivD := fun x y c vs h => by
  unfold fdivD at h
  split at h <;> first | cases h | (split at h <;> first | cases h | (split at h <;> cases h))
theorem op_fdivD {X : Cx} {G : GE} : OpR X (binaryOp .FloorDiv) (r2 G fdivD) := by
  intro pins s σ H x y v u Q I rx ry h
  obtain ⟨F, d, e, S, bd, be, p⟩ := h
  unfold fdivD at p
  split at p
  · split at p
    · rename_i hz
      exact op_fdivW pins s σ H x y v u Q I rx ry ⟨_, _, bor_int bd, bor_int be, hz, p.int S⟩
    · split at p
      · rename_i i j _ hz
        have e1 := bor_int bd
        have e2 := bor_int be
        subst e1 e2
        obtain ⟨t, rfl⟩ := rx
        obtain ⟨t', rfl⟩ := ry
        exact floordiv_int (by omega) ⟨.int (i.fdiv j), H, I.tok _, ⟨_, rfl⟩, p.int S⟩ (.inl (PyProof.noPylong_of_log2 hz.2))
      · exact p.elim
  · exact p.elim
def modD : D → D → R D
  | .int i, .int j => if 0 < j then .ok (.int (i % j)) else .bad
  | _, _ => .bad
theorem modD_ne : NoEx2 modD := fun x y c vs h => by
  unfold modD at h
  split at h <;> first | cases h | (split at h <;> cases h)
theorem op_modD {X : Cx} {G : GE} : OpR X (binaryOp .Mod) (r2 G modD) := by
  intro pins s σ H x y v u Q I rx ry h
  obtain ⟨F, d, e, S, bd, be, p⟩ := h
  unfold modD at p
  split at p
  · split at p
    · rename_i hz
      exact op_mod pins s σ H x y v u Q I rx ry ⟨_, _, bor_int bd, bor_int be, hz, p.int S⟩
    · exact p.elim
  · exact p.elim
def powD : D → D → R D
  | .int i, .int j => if 0 ≤ j ∧ j ≤ 1000000 ∧ i.natAbs < 18446744073709551616 then .ok (.int (i ^ j.toNat)) else .bad
  | _, _ => .bad
theorem powD_ne : NoEx2 powD := fun x y c vs h => by
  unfold powD at h
  split at h <;> first | cases h | (split at h <;> cases h)
theorem op_powD {X : Cx} {G : GE} : OpR X (binaryOp .Pow) (r2 G powD) := by
  intro pins s σ H x y v u Q I rx ry h
  obtain ⟨F, d, e, S, bd, be, p⟩ := h
  unfold powD at p
  split at p
  · split at p
    · rename_i hz
      exact op_pow pins s σ H x y v u Q I rx ry ⟨_, _, bor_int bd, bor_int be, hz, p.int S⟩
    · exact p.elim
  · exact p.elim
def negD : D → R D
  | .int i => .ok (.int (-i))
  | _ => .bad
theorem negD_ne : NoEx1 negD := fun x c vs h => by
  unfold negD at h
  split at h <;> cases h
theorem un_negD {X : Cx} {G : GE} : UnR X (unaryOp .USub) (r1 G negD) := by
  intro pins s σ H x v Q I rx h
  obtain ⟨F, d, S, bd, p⟩ := h
  unfold negD at p
  split at p
  · exact un_neg pins s σ H x v Q I rx ⟨_, bor_int bd, p.int S⟩
  · exact p.elim

def ltS (x y : List Nat) : Bool := decide (x < y)
def ltD : D → D → R D
  | .int i, .int j => .ok (.bl (decide (i < j)))
  | .str x, .str y => .ok (.bl (ltS x y))
  | _, _ => .bad
def leD : D → D → R D
  | .int i, .int j => .ok (.bl (decide (i ≤ j)))
  | .str x, .str y => .ok (.bl (!ltS y x))
  | _, _ => .bad
def gtD : D → D → R D
  | .int i, .int j => .ok (.bl (decide (j < i)))
  | .str x, .str y => .ok (.bl (ltS y x))
  | _, _ => .bad
def geD : D → D → R D
  | .int i, .int j => .ok (.bl (decide (j ≤ i)))
  | .str x, .str y => .ok (.bl (!ltS x y))
  | _, _ => .bad
theorem ltD_ne : NoEx2 ltD := fun x y c vs h => by unfold ltD at h; split at h <;> cases h
theorem leD_ne : NoEx2 leD := fun x y c vs h => by unfold leD at h; split at h <;> cases h
theorem gtD_ne : NoEx2 gtD := fun x y c vs h => by unfold gtD at h; split at h <;> cases h
theorem geD_ne : NoEx2 geD := fun x y c vs h => by unfold geD at h; split at h <;> cases h
theorem op_ltD {X : Cx} {G : GE} : OpR X (compareOp .Lt) (r2 G ltD) := by
  intro pins s σ H x y v u Q I rx ry h
  obtain ⟨F, d, e, S, bd, be, p⟩ := h
  unfold ltD at p
  split at p
  · exact op_lt pins s σ H x y v u Q I rx ry ⟨_, _, bor_int bd, bor_int be, p.bl S⟩
  · exact op_lt_str pins s σ H x y v u Q I rx ry ⟨_, _, (bor_str bd).1, (bor_str be).1, p.bl S⟩
  · exact p.elim
theorem op_leD {X : Cx} {G : GE} : OpR X (compareOp .LtE) (r2 G leD) := by
  intro pins s σ H x y v u Q I rx ry h
  obtain ⟨F, d, e, S, bd, be, p⟩ := h
  unfold leD at p
  split at p
  · exact op_le pins s σ H x y v u Q I rx ry ⟨_, _, bor_int bd, bor_int be, p.bl S⟩
  · exact op_le_str pins s σ H x y v u Q I rx ry ⟨_, _, (bor_str bd).1, (bor_str be).1, p.bl S⟩
  · exact p.elim
theorem op_gtD {X : Cx} {G : GE} : OpR X (compareOp .Gt) (r2 G gtD) := by
  intro pins s σ H x y v u Q I rx ry h
  obtain ⟨F, d, e, S, bd, be, p⟩ := h
  unfold gtD at p
  split at p
  · exact op_gt pins s σ H x y v u Q I rx ry ⟨_, _, bor_int bd, bor_int be, p.bl S⟩
  · exact op_gt_str pins s σ H x y v u Q I rx ry ⟨_, _, (bor_str bd).1, (bor_str be).1, p.bl S⟩
  · exact p.elim
theorem op_geD {X : Cx} {G : GE} : OpR X (compareOp .GtE) (r2 G geD) := by
  intro pins s σ H x y v u Q I rx ry h
  obtain ⟨F, d, e, S, bd, be, p⟩ := h
  unfold geD at p
  split at p
  · exact op_ge pins s σ H x y v u Q I rx ry ⟨_, _, bor_int bd, bor_int be, p.bl S⟩
  · exact op_ge_str pins s σ H x y v u Q I rx ry ⟨_, _, (bor_str bd).1, (bor_str be).1, p.bl S⟩
  · exact p.elim

mutual
def eqv : D → D → Bool
  | .non, .non => true
  | .bl a, .bl b => a == b
  | .bl a, .int j => (if a then 1 else 0) == j
  | .int i, .bl b => i == (if b then 1 else 0)
  | .int i, .int j => i == j
  | .str x, .str y => x == y
  | .lst xs, .lst ys => eqvL xs ys
  | .tup xs, .tup ys => eqvL xs ys
  | _, _ => false
def eqvL : List D → List D → Bool
  | [], [] => true
  | x :: xs, y :: ys => eqv x y && eqvL xs ys
  | _, _ => false
end
mutual
/-- how deep; 99 for what is not compared -/
def dep : D → Nat
  | .non => 0 | .bl _ => 0 | .int _ => 0 | .str _ => 0
  | .lst xs => depL xs + 1 | .tup xs => depL xs + 1
  | _ => 99
def depL : List D → Nat
  | [] => 0
  | x :: xs => max (dep x) (depL xs)
end
mutual
def py : D → PyData
  | .non => .none | .bl b => .bool b | .int i => .int i | .str x => .str ⟨x.toArray⟩
  | .lst xs => .list (pyL xs) | .tup xs => .tuple (pyL xs)
  | _ => .none
def pyL : List D → List PyData
  | [] => []
  | x :: xs => py x :: pyL xs
end
mutual
theorem py_eqv : ∀ (d e : D), dep d ≤ 64 → dep e ≤ 64 → PyData.eqv (py d) (py e) = eqv d e := by
  intro d e hd he
  cases d with
  | lst xs => cases e with
    | lst ys =>
      unfold dep at hd he
      simp only [py, PyData.eqv, eqv]
      exact py_eqvL xs ys (by omega) (by omega)
    | dic ks vs => simp [dep] at he
    | obj c vs => simp [dep] at he
    | exc c vs => simp [dep] at he
    | _ => simp [py, PyData.eqv, eqv]
  | tup xs => cases e with
    | tup ys =>
      unfold dep at hd he
      simp only [py, PyData.eqv, eqv]
      exact py_eqvL xs ys (by omega) (by omega)
    | dic ks vs => simp [dep] at he
    | obj c vs => simp [dep] at he
    | exc c vs => simp [dep] at he
    | _ => simp [py, PyData.eqv, eqv]
  | dic ks vs => simp [dep] at hd
  | obj c vs => simp [dep] at hd
  | exc c vs => simp [dep] at hd
  | str x => cases e with
    | str y =>
      simp only [py, PyData.eqv, eqv]
      rw [Bool.eq_iff_iff]
      simp
    | dic ks vs => simp [dep] at he
    | obj c vs => simp [dep] at he
    | exc c vs => simp [dep] at he
    | _ => simp [py, PyData.eqv, eqv]
  | _ => cases e with
    | dic ks vs => simp [dep] at he
    | obj c vs => simp [dep] at he
    | exc c vs => simp [dep] at he
    | _ => simp [py, PyData.eqv, eqv]
theorem py_eqvL : ∀ (xs ys : List D), depL xs ≤ 63 → depL ys ≤ 63 → PyData.eqvAll (pyL xs) (pyL ys) = eqvL xs ys
  | [], [], _, _ => by simp [pyL, PyData.eqvAll, eqvL]
  | [], y :: ys, _, _ => by simp [pyL, PyData.eqvAll, eqvL]
  | x :: xs, [], _, _ => by simp [pyL, PyData.eqvAll, eqvL]
  | x :: xs, y :: ys, hx, hy => by
    unfold depL at hx hy
    simp only [pyL, PyData.eqvAll, eqvL]
    rw [py_eqv x y (by omega) (by omega), py_eqvL xs ys (by omega) (by omega)]
end
mutual
theorem rep_dp {G : GE} {K : PySem.W.Frag} (hK : K = G.K) {H : Hp} : ∀ {d : D} {v : V}, dep d ≤ 64 → Rep G H d v → Dp K H v (py d) ∧ (py d).canLay0 = true ∧ (py d).depth ≤ dep d
  | .non, v, _, h => by have := rep_non.mp h; subst this; exact ⟨.non, rfl, Nat.le_refl _⟩
  | .bl b, v, _, h => by have := rep_bl.mp h; subst this; exact ⟨.bl b, rfl, Nat.le_refl _⟩
  | .int b, v, _, h => by have := rep_int.mp h; subst this; exact ⟨.int b, rfl, Nat.le_refl _⟩
  | .str x, v, _, h => by
    obtain ⟨rfl, k⟩ := rep_str.mp h
    refine ⟨.str _, ?_, Nat.le_refl _⟩
    show PyData.canLay0 (.str _) = true
    unfold PyData.canLay0 PyData.strOk
    unfold okS at k
    simpa using k
  | .lst xs, v, hd, h => by
    obtain ⟨a, vs, rfl, q, r⟩ := rep_lst.mp h
    unfold dep at hd
    obtain ⟨h1, h2, h3⟩ := repL_dp hK (by omega) r
    subst hK
    refine ⟨.lst q h1, ?_, ?_⟩
    · unfold py PyData.canLay0; exact h2
    · unfold py PyData.depth dep; omega
  | .tup xs, v, hd, h => by
    obtain ⟨a, vs, rfl, q, r⟩ := rep_tup.mp h
    unfold dep at hd
    obtain ⟨h1, h2, h3⟩ := repL_dp hK (by omega) r
    subst hK
    refine ⟨.tup q h1, ?_, ?_⟩
    · unfold py PyData.canLay0; exact h2
    · unfold py PyData.depth dep; omega
  | .dic _ _, _, hd, _ => by simp [dep] at hd
  | .obj _ _, _, hd, _ => by simp [dep] at hd
  | .exc _ _, _, hd, _ => by simp [dep] at hd
theorem repL_dp {G : GE} {K : PySem.W.Frag} (hK : K = G.K) {H : Hp} : ∀ {ds : List D} {vs : List V}, depL ds ≤ 63 → RepL G H ds vs → DpAll K H vs (pyL ds) ∧ PyData.canLayAll0 (pyL ds) = true ∧ PyData.depthAll (pyL ds) ≤ depL ds
  | [], vs, _, h => by unfold RepL at h; subst h; exact ⟨.nil, rfl, Nat.le_refl _⟩
  | d :: ds, vs, hd, h => by
    unfold RepL at h
    obtain ⟨v, r, rfl, h1, h2⟩ := h
    unfold depL at hd
    obtain ⟨a1, a2, a3⟩ := rep_dp hK (by omega) h1
    obtain ⟨b1, b2, b3⟩ := repL_dp hK (by omega) h2
    refine ⟨.cons a1 b1, ?_, ?_⟩
    · unfold pyL PyData.canLayAll0; rw [a2, b2]; rfl
    · unfold pyL PyData.depthAll depL; omega
end
theorem bor_dp {G : GE} {K : PySem.W.Frag} (hK : K = G.K) {F H : Hp} (S : Same F H) {d : D} {v : V} (hd : dep d ≤ 64) (h : Bor G F H d v) : Dp K H v (py d) ∧ SeqAt.shaped (py d) = true := by
  have fin : ∀ {d : D} {v : V}, dep d ≤ 64 → Rep G H d v → Dp K H v (py d) ∧ SeqAt.shaped (py d) = true := fun hd h => by
    obtain ⟨a, b, c⟩ := rep_dp hK hd h
    refine ⟨a, ?_⟩
    unfold SeqAt.shaped
    rw [b, Bool.true_and]
    exact decide_eq_true (by omega)
  rcases h with h | ⟨a, rfl, hn, q⟩
  · exact fin hd (Rep.mono S h)
  · exact fin hd (q.rep1 (by cases d <;> first | rfl | (simp [dep] at hd)) S fun _ e => e)
def eqD (d e : D) : R D := if dep d ≤ 64 ∧ dep e ≤ 64 then .ok (.bl (eqv d e)) else .bad
def neD (d e : D) : R D := if dep d ≤ 64 ∧ dep e ≤ 64 then .ok (.bl (!eqv d e)) else .bad
theorem eqD_ne : NoEx2 eqD := fun x y c vs h => by unfold eqD at h; split at h <;> cases h
theorem neD_ne : NoEx2 neD := fun x y c vs h => by unfold neD at h; split at h <;> cases h
theorem op_eqDD {X : Cx} {C : CT} (hK : X.K = C.G.K) (hu : X.A.units + 64 < cLine) : OpR X (compareOp .Eq) (r2 C.G eqD) := by
  intro pins s σ H x y v u Q I rx ry h
  obtain ⟨F, d, e, S, bd, be, p⟩ := h
  unfold eqD at p
  split at p
  · rename_i hz
    obtain ⟨a1, a2⟩ := bor_dp hK S hz.1 bd
    obtain ⟨b1, b2⟩ := bor_dp hK S hz.2 be
    refine op_eqD hu pins s σ H x y v u Q I rx ry ⟨_, _, a1, b1, a2, b2, ?_⟩
    rw [py_eqv d e hz.1 hz.2]
    exact p.bl S
  · exact p.elim
theorem op_neDD {X : Cx} {C : CT} (hK : X.K = C.G.K) (hu : X.A.units + 64 < cLine) : OpR X (compareOp .NotEq) (r2 C.G neD) := by
  intro pins s σ H x y v u Q I rx ry h
  obtain ⟨F, d, e, S, bd, be, p⟩ := h
  unfold neD at p
  split at p
  · rename_i hz
    obtain ⟨a1, a2⟩ := bor_dp hK S hz.1 bd
    obtain ⟨b1, b2⟩ := bor_dp hK S hz.2 be
    refine op_neD hu pins s σ H x y v u Q I rx ry ⟨_, _, a1, b1, a2, b2, ?_⟩
    rw [py_eqv d e hz.1 hz.2]
    exact p.bl S
  · exact p.elim
end
end Z
namespace Z
noncomputable section
open PySem PySem.Spec PySem.P PyProof.Rows L2

def look : List Key → List D → Key → Option D
  | k :: ks, v :: vs, j => if k = j then some v else look ks vs j
  | _, _, _ => none
def has (ks : List Key) (j : Key) : Bool := ks.any fun k => decide (k = j)
def keyD : D → Option Key
  | .int i => some (.inl i)
  | .str x => some (.inr ⟨x.toArray⟩)
  | _ => none
section
variable {G : GE} {F H : Hp}
theorem keyD_rep {d : D} {k : Key} {v : V} (h : keyD d = some k) (r : Bor G F H d v) : v = kV k := by
  cases d <;> simp [keyD] at h
  · subst h; exact bor_int r
  · subst h; exact (bor_str r).1
theorem look_val : ∀ {kvs : List (Key × V)} {ds : List D} {k : Key}, RepL G F ds (kvs.map (·.2)) → (∀ d, look (kvs.map (·.1)) ds k = some d → ∃ v, valV kvs k = some v ∧ Rep G F d v) ∧ (look (kvs.map (·.1)) ds k = none → valV kvs k = none)
  | [], ds, k, r => ⟨fun d h => by simp [look] at h, fun _ => rfl⟩
  | p :: kvs, [], k, r => by
    have := r.length
    simp at this
  | p :: kvs, d :: ds, k, r => by
    simp only [List.map_cons] at r ⊢
    unfold RepL at r
    obtain ⟨v, t, e, h1, h2⟩ := r
    injection e with e1 e2
    subst e1 e2
    unfold look
    by_cases hk : p.1 = k
    · rw [if_pos hk, valV_pos hk]
      exact ⟨fun d' h => by cases h; exact ⟨_, rfl, h1⟩, fun h => by cases h⟩
    · rw [if_neg hk, valV_neg hk]
      exact look_val h2
theorem look_some {kvs : List (Key × V)} {ds : List D} {k : Key} (r : RepL G F ds (kvs.map (·.2))) : (look (kvs.map (·.1)) ds k).isSome = (valV kvs k).isSome := by
  obtain ⟨h1, h2⟩ := look_val (k := k) r
  cases q : look (kvs.map (·.1)) ds k with
  | none => rw [h2 q]; rfl
  | some d => obtain ⟨v, e, _⟩ := h1 d q; rw [e]; rfl
theorem look_has : ∀ {ks : List Key} {ds : List D} {k : Key}, ds.length = ks.length → (look ks ds k).isSome = has ks k
  | [], ds, k, h => by simp [look, has]
  | j :: ks, [], k, h => by simp at h
  | j :: ks, d :: ds, k, h => by
    have ih := look_has (ks := ks) (ds := ds) (k := k) (by simpa using h)
    unfold look has
    rw [List.any_cons]
    by_cases e : j = k
    · rw [if_pos e, decide_eq_true e]; rfl
    · rw [if_neg e, decide_eq_false e, ih]; rfl
end

def inS (x y : List Nat) : Bool := (List.range (y.length + 1)).any fun i => (y.drop i).take x.length == x
def flat : D → Bool
  | .non => true | .bl _ => true | .int _ => true | .str _ => true
  | _ => false
def inD (neg : Bool) (x y : D) : R D := match x, y with
  | .str x, .str y => .ok (.bl (xor neg (inS x y)))
  | x, .lst ys => if dep x ≤ 64 ∧ depL ys ≤ 63 then .ok (.bl (xor neg (ys.any fun y => eqv y x))) else .bad
  | x, .tup ys => if flat x = true ∧ ys.all flat = true then .ok (.bl (xor neg (ys.any fun y => eqv y x))) else .bad
  | x, .dic ks vs => match keyD x with
    | some k => .ok (.bl (xor neg (has ks k)))
    | none => .bad
  | _, _ => .bad
theorem inD_ne {neg : Bool} : NoEx2 (inD neg) := fun x y c vs h => by
  unfold inD at h
  split at h <;> first | cases h | (split at h <;> cases h)
theorem pyL_any (x : D) (hx : dep x ≤ 64) : ∀ ys : List D, depL ys ≤ 63 → (pyL ys).any (fun z => PyData.eqv z (py x)) = ys.any fun y => eqv y x
  | [], _ => by simp [pyL]
  | y :: ys, h => by
    unfold depL at h
    simp only [pyL, List.any_cons]
    rw [py_eqv y x (by omega) hx, pyL_any x hx ys (by omega)]
theorem inS_iff (x y : List Nat) : inS x y = true ↔ ∃ i, i + x.length ≤ y.length ∧ (y.drop i).take x.length = x := by
  unfold inS
  rw [List.any_eq_true]
  constructor
  · rintro ⟨i, hi, e⟩
    have e : (y.drop i).take x.length = x := by simpa using e
    have h := congrArg List.length e
    rw [List.length_take, List.length_drop] at h
    have hi : i < y.length + 1 := by simpa using hi
    exact ⟨i, by omega, e⟩
  · rintro ⟨i, hi, e⟩
    exact ⟨i, by simp; omega, by simpa using e⟩
theorem flat_bor {G : GE} {F H : Hp} {d : D} {v : V} (h : flat d = true) (r : Bor G F H d v) : flatV v = true := by
  cases d <;> simp [flat] at h
  · rw [bor_non r]; rfl
  · rw [bor_bl r]; rfl
  · rw [bor_int r]; rfl
  · rw [(bor_str r).1]; rfl
theorem flat_eqv {G : GE} {F H F' H' : Hp} {d e : D} {v u : V} (hd : flat d = true) (he : flat e = true) (r : Bor G F H d v) (q : Bor G F' H' e u) : eqV v u = eqv d e := by
  cases d <;> simp [flat] at hd <;> cases e <;> simp [flat] at he
  all_goals first
    | (rw [bor_non r]; first | rw [bor_non q] | rw [bor_bl q] | rw [bor_int q] | rw [(bor_str q).1]) <;> rfl
    | skip
  all_goals first
    | (rw [bor_bl r]; first | rw [bor_non q] | rw [bor_bl q] | rw [bor_int q] | rw [(bor_str q).1]) <;> rfl
    | skip
  all_goals first
    | (rw [bor_int r]; first | rw [bor_non q] | rw [bor_bl q] | rw [bor_int q] | rw [(bor_str q).1]) <;> rfl
    | skip
  all_goals first
    | (rw [(bor_str r).1]; first | rw [bor_non q] | rw [bor_bl q] | rw [bor_int q] | rw [(bor_str q).1]) <;> first | rfl | (unfold eqV eqv; rw [Bool.eq_iff_iff]; simp)
    | skip
theorem flat_all {G : GE} {F : Hp} : ∀ {ds : List D} {vs : List V}, ds.all flat = true → RepL G F ds vs → vs.all flatV = true
  | [], vs, _, r => by unfold RepL at r; subst r; rfl
  | d :: ds, vs, h, r => by
    unfold RepL at r
    obtain ⟨v, t, rfl, h1, h2⟩ := r
    rw [List.all_cons, Bool.and_eq_true] at h
    rw [List.all_cons, flat_bor (H := F) h.1 (.inl h1), flat_all h.2 h2]
    rfl
theorem flat_any {G : GE} {F F' H' : Hp} {x : D} {u : V} (hx : flat x = true) (q : Bor G F' H' x u) : ∀ {ds : List D} {vs : List V}, ds.all flat = true → RepL G F ds vs → inV u vs = ds.any fun y => eqv y x
  | [], vs, _, r => by unfold RepL at r; subst r; rfl
  | d :: ds, vs, h, r => by
    unfold RepL at r
    obtain ⟨v, t, rfl, h1, h2⟩ := r
    rw [List.all_cons, Bool.and_eq_true] at h
    have ih := flat_any hx q h.2 h2
    unfold inV at ih ⊢
    rw [List.any_cons, List.any_cons, ih, flat_eqv (H := F) h.1 hx (.inl h1) q]
theorem occ_inS (x y : List Nat) : (!(Builtin.Str.occurrences (⟨y.toArray⟩ : Str) ⟨x.toArray⟩ 0 (⟨y.toArray⟩ : Str).length 1).isEmpty) = inS x y := by
  rw [Bool.eq_iff_iff, StrLaws.found_iff, inS_iff]
  have l1 : (⟨y.toArray⟩ : Str).length = y.length := List.size_toArray
  have l2 : (⟨x.toArray⟩ : Str).length = x.length := List.size_toArray
  rw [l1, l2]
  refine exists_congr fun i => and_congr_right fun hi => ?_
  rw [StrLaws.subAt_eq, l2]
  simp
theorem op_notInDD {X : Cx} {C : CT} (hK : X.K = C.G.K) (hu : X.A.units + 65 < cLine) : OpR X (compareOp .NotIn) (r2 C.G (inD true)) := by
  intro pins s σ H x y v u Q I rx ry h
  obtain ⟨F, d, e, S, bd, be, p⟩ := h
  unfold inD at p
  split at p
  · rename_i a b
    refine op_notin_str pins s σ H x y v u Q I rx ry ⟨_, _, (bor_str bd).1, (bor_str be).1, ?_⟩
    rw [occ_inS]
    simpa using p.bl S
  · split at p
    · rename_i hz
      obtain ⟨a1, a2⟩ := bor_dp hK S hz.1 bd
      obtain ⟨b1, b2⟩ := bor_dp hK S (by unfold dep; omega) be
      unfold py at b1 b2
      refine op_notInD hu pins s σ H x y v u Q I rx ry ⟨_, _, a1, b1, a2, b2, ?_⟩
      rw [pyL_any _ hz.1 _ hz.2]
      simpa using p.bl S
    · exact p.elim
  · split at p
    · rename_i hz
      obtain ⟨a, vs, rfl, q, r⟩ := bor_tup S be
      rw [← hK] at q
      refine op_notIn_seq pins s σ H x _ v u Q I rx ry ⟨a, vs, rfl, .inr q, flat_bor hz.1 bd, flat_all hz.2 r, ?_⟩
      rw [if_pos rfl, flat_any hz.1 bd hz.2 r]
      simpa using p.bl S
    · exact p.elim
  · split at p
    · rename_i k hk
      obtain ⟨a, kvs, rfl, q, e1, nd, r⟩ := bor_dic S be
      cases ry
      have ex := keyD_rep hk bd
      refine d_notIn (by omega) I (o := valV kvs k) (.inl ⟨kvs, k, q, ex, rfl⟩) rx fun s' I' => ?_
      refine ⟨.bl _, H, I', rfl, ?_⟩
      rw [← look_some r, look_has (by rw [List.length_map, ← r.length, List.length_map]), e1]
      simpa using p.bl S
    · exact p.elim
  · exact p.elim

def isNone : D → Bool
  | .non => true
  | _ => false
def isN (neg : Bool) (x y : D) : R D := match y with
  | .non => .ok (.bl (xor neg (isNone x)))
  | .bl b => (match x with
    | .bl a => .ok (.bl (xor neg (decide (a = b))))
    | _ => .bad)
  | _ => .bad
theorem isN_ne {neg : Bool} : NoEx2 (isN neg) := fun x y c vs h => by
  unfold isN at h
  split at h
  · cases h
  · split at h <;> cases h
  · cases h
theorem bor_isN {G : GE} {F H : Hp} (S : Same F H) {d : D} {v : V} (r : Bor G F H d v) : decide (v = .non) = isNone d := by
  cases d with
  | non => rw [bor_non r]; rfl
  | bl b => rw [bor_bl r]; rfl
  | int b => rw [bor_int r]; rfl
  | str b => rw [(bor_str r).1]; rfl
  | lst b => obtain ⟨a, xs, rfl, _⟩ := bor_lst S r; rfl
  | tup b => obtain ⟨a, xs, rfl, _⟩ := bor_tup S r; rfl
  | dic k b => obtain ⟨a, xs, rfl, _⟩ := bor_dic S r; rfl
  | obj k b => obtain ⟨a, C, dx, fs, ns, rfl, _⟩ := bor_obj S r; rfl
  | exc k b =>
    rcases r with r | ⟨_, _, _, r⟩
    · unfold Rep at r
      obtain ⟨a, C, ns, dx, rfl, _⟩ := r
      rfl
    · exact r.elim
theorem op_isND {X : Cx} {G : GE} : OpR X (compareOp .Is) (r2 G (isN false)) := by
  intro pins s σ H x y v u Q I rx ry h
  obtain ⟨F, d, e, S, bd, be, p⟩ := h
  unfold isN at p
  split at p
  · refine op_isN pins s σ H x y v u Q I rx ry ⟨bor_non be, ?_⟩
    rw [bor_isN S bd]
    simpa using p.bl S
  · split at p
    · exact op_isBl pins s σ H x y v u Q I rx ry ⟨_, _, bor_bl bd, bor_bl be, by simpa using p.bl S⟩
    · exact p.elim
  · exact p.elim
def eAnd (fa fb : SS → R D) : SS → R D := fun s => (fa s).bind fun x => match x with
  | .bl true => fb s
  | .bl false => .ok (.bl false)
  | _ => .bad
def eOr (fa fb : SS → R D) : SS → R D := fun s => (fa s).bind fun x => match x with
  | .bl true => .ok (.bl true)
  | .bl false => fb s
  | _ => .bad
def eNot (fa : SS → R D) : SS → R D := fun s => (fa s).bind fun x => match x with
  | .bl b => .ok (.bl (!b))
  | _ => .bad
section
variable {X : Cx} {C : CT} {W : WX} {a b c : Expr} {rest : List Expr} {fa fb fc f : SS → R D} {g : D → D → R D} {pos : Pos} {σ : L2.St} {H F F1 H1 : Hp} {sd : SS}
theorem PostT.ext {r : R D} {Q : Bool → Hp → Prop} (e : Ext F H F1 H1) (h : PostT C W F H σ Q r) : PostT C W F1 H1 σ Q r := by
  cases r with
  | ok d => cases d with
    | bl b => exact fun F' H' e' => h F' H' (e.trans e')
    | _ => exact h.elim
  | ex c vs => exact fun cls dx F' H' e' x => h cls dx F' H' (e.trans e') x
  | bad => exact h.elim
theorem t_of {Q : Bool → Hp → Prop} (h : tT C W f σ H Q) : tD C W f σ H fun x H1 => ∃ k, x = .bl k ∧ Q k H1 := by
  obtain ⟨F, sd, S, h⟩ := h
  refine ⟨F, sd, S, ?_⟩
  cases q : f sd with
  | ok d =>
    rw [q] at h
    cases d with
    | bl b => exact fun v F' H' e r => ⟨b, rep_bl.mp r, h F' H' e⟩
    | _ => exact h.elim
  | ex c vs => rw [q] at h; exact h
  | bad => rw [q] at h; exact h
theorem s_t (h : PE X a (tD C W f)) (he : ∀ whole, isTrue a X.env whole = (do let v ← whole; standAt a.pos; holding [v] (truthy v)) := by intro _; rfl) : PT X a (tT C W f) :=
  pt_imp (pt_val h he) fun _ _ _ h => t_of h
theorem s_tcmp {op : CmpOp} (hg : NoEx2 g) (ho : OpR X (compareOp op) (r2 C.G g)) (ha : PE X a (tB C W fa)) (hb : PE X b (tB C W fb)) (hm : behindInMarks op b = false := by first | exact nomark _ | with_unfolding_all rfl) : PT X (.Compare a [op] [b] pos) (tT C W (eBin g fa fb)) :=
  pt_imp (pt_cmpR ho ha hb hm) fun _ _ _ h => bin_read hg (t_of h)
theorem t_bind {k : Bool → R D} {Q Q1 : Bool → Hp → Prop} {r : R D}
    (h : PostT C W F H σ Q (r.bind fun x => match x with | .bl b => k b | _ => .bad)) (hk : ∀ b F1 H1, Ext F H F1 H1 → PostT C W F1 H1 σ Q (k b) → Q1 b H1) : PostT C W F H σ Q1 r := by
  cases r with
  | ok d => cases d with
    | bl b => exact fun F' H' e => hk b F' H' e (PostT.ext e h)
    | _ => exact h.elim
  | ex c vs => exact h
  | bad => exact h
theorem bind_bl {r : R D} {k k' : D → R D} (h : ∀ d, k d = k' d) : r.bind k = r.bind k' := by
  have : k = k' := funext h
  rw [this]
theorem s_tand (ha : PT X a (tT C W fa)) (hb : PW X (.BoolOp .And (b :: rest) pos) (tT C W fb)) : PW X (.BoolOp .And (a :: b :: rest) pos) (tT C W (eAnd fa fb)) := by
  refine ⟨fun wh pins s σ H Q I h => (pw_and ha hb).run wh pins s σ H Q I ?_⟩
  obtain ⟨F, sd, S, h⟩ := h
  refine ⟨F, sd, S, t_bind (Q := Q) (k := fun b => if b = true then fb sd else .ok (.bl false)) ?_ fun b F1 H1 e h1 => ?_⟩
  · unfold eAnd at h
    rw [bind_bl (k' := fun x => match x with | .bl true => fb sd | .bl false => .ok (.bl false) | _ => .bad)]
    · exact h
    · intro d
      cases d with
      | bl b => cases b <;> rfl
      | _ => rfl
  · cases b with
    | true =>
      rw [if_pos rfl] at h1 ⊢
      exact ⟨F1, sd, S.mono e, h1⟩
    | false =>
      rw [if_neg Bool.false_ne_true] at h1 ⊢
      exact h1 F1 H1 (Ext.refl e.fh)
theorem s_tor (ha : PT X a (tT C W fa)) (hb : PW X (.BoolOp .Or (b :: rest) pos) (tT C W fb)) : PW X (.BoolOp .Or (a :: b :: rest) pos) (tT C W (eOr fa fb)) := by
  refine ⟨fun wh pins s σ H Q I h => (pw_or ha hb).run wh pins s σ H Q I ?_⟩
  obtain ⟨F, sd, S, h⟩ := h
  refine ⟨F, sd, S, t_bind (Q := Q) (k := fun b => if b = true then .ok (.bl true) else fb sd) ?_ fun b F1 H1 e h1 => ?_⟩
  · unfold eOr at h
    rw [bind_bl (k' := fun x => match x with | .bl true => .ok (.bl true) | .bl false => fb sd | _ => .bad)]
    · exact h
    · intro d
      cases d with
      | bl b => cases b <;> rfl
      | _ => rfl
  · cases b with
    | true =>
      rw [if_pos rfl] at h1 ⊢
      exact h1 F1 H1 (Ext.refl e.fh)
    | false =>
      rw [if_neg Bool.false_ne_true] at h1 ⊢
      exact ⟨F1, sd, S.mono e, h1⟩
theorem s_tand1 (ha : PT X a (tT C W fa)) : PW X (.BoolOp .And [a] pos) (tT C W fa) := pw_and1 ha
theorem s_tor1 (ha : PT X a (tT C W fa)) : PW X (.BoolOp .Or [a] pos) (tT C W fa) := pw_or1 ha
theorem s_tnot (ha : PT X a (tT C W fa)) : PT X (.UnaryOp .Not a pos) (tT C W (eNot fa)) := by
  refine pt_imp (pt_not ha) fun σ H Q h => ?_
  obtain ⟨F, sd, S, h⟩ := h
  refine ⟨F, sd, S, t_bind (Q := Q) (k := fun b => .ok (.bl (!b))) ?_ fun b F1 H1 e h1 => h1 F1 H1 (Ext.refl e.fh)⟩
  unfold eNot at h
  rw [bind_bl (k' := fun x => match x with | .bl b => .ok (.bl (!b)) | _ => .bad)]
  · exact h
  · intro d
    cases d <;> rfl
theorem e_bind {k : Bool → R D} {Q Q1 : VK} {r : R D}
    (h : PostE C W F H σ (pD C) Q (r.bind fun x => match x with | .bl b => k b | _ => .bad)) (hk : ∀ b F1 H1, Ext F H F1 H1 → PostE C W F1 H1 σ (pD C) Q (k b) → Q1 (.bl b) H1) : PostE C W F H σ (pD C) Q1 r := by
  cases r with
  | ok d => cases d with
    | bl b => exact fun v F' H' e p => by rw [rep_bl.mp p]; exact hk b F' H' e (PostE.ext e h)
    | _ => exact h.elim
  | ex c vs => exact h
  | bad => exact h
theorem s_and (ha : PE X a (tD C W fa)) (hb : PE X (.BoolOp .And (b :: rest) pos) (tD C W fb)) : PE X (.BoolOp .And (a :: b :: rest) pos) (tD C W (eAnd fa fb)) := by
  refine pe_imp (pe_and ha hb) fun σ H Q h => ?_
  obtain ⟨F, sd, S, h⟩ := h
  refine ⟨F, sd, S, e_bind (Q := Q) (k := fun b => if b = true then fb sd else .ok (.bl false)) ?_ fun b F1 H1 e h1 => ⟨b, rfl, ?_⟩⟩
  · unfold eAnd at h
    rw [bind_bl (k' := fun x => match x with | .bl true => fb sd | .bl false => .ok (.bl false) | _ => .bad)]
    · exact h
    · intro d
      cases d with
      | bl b => cases b <;> rfl
      | _ => rfl
  · cases b with
    | true =>
      rw [if_pos rfl] at h1 ⊢
      exact ⟨F1, sd, S.mono e, h1⟩
    | false =>
      rw [if_neg Bool.false_ne_true] at h1 ⊢
      exact h1 _ F1 H1 (Ext.refl e.fh) (rep_bl.mpr rfl)
theorem s_or (ha : PE X a (tD C W fa)) (hb : PE X (.BoolOp .Or (b :: rest) pos) (tD C W fb)) : PE X (.BoolOp .Or (a :: b :: rest) pos) (tD C W (eOr fa fb)) := by
  refine pe_imp (pe_or ha hb) fun σ H Q h => ?_
  obtain ⟨F, sd, S, h⟩ := h
  refine ⟨F, sd, S, e_bind (Q := Q) (k := fun b => if b = true then .ok (.bl true) else fb sd) ?_ fun b F1 H1 e h1 => ⟨b, rfl, ?_⟩⟩
  · unfold eOr at h
    rw [bind_bl (k' := fun x => match x with | .bl true => .ok (.bl true) | .bl false => fb sd | _ => .bad)]
    · exact h
    · intro d
      cases d with
      | bl b => cases b <;> rfl
      | _ => rfl
  · cases b with
    | true =>
      rw [if_pos rfl] at h1 ⊢
      exact h1 _ F1 H1 (Ext.refl e.fh) (rep_bl.mpr rfl)
    | false =>
      rw [if_neg Bool.false_ne_true] at h1 ⊢
      exact ⟨F1, sd, S.mono e, h1⟩
theorem s_one {op} (ha : PE X a (tD C W fa)) : PE X (.BoolOp op [a] pos) (tD C W fa) := pe_one ha
end
end
end Z
namespace Z
noncomputable section
open PySem PySem.Spec PySem.P PyProof.Rows L2

def ixD : D → D → R D
  | .lst xs, .int i => match atI xs i with
    | some d => .ok d
    | none => .bad
  | .tup xs, .int i => match atI xs i with
    | some d => .ok d
    | none => .bad
  | .str x, .int i => if x.length ≤ SZ then (match atI x i with
    | some c => .ok (.str [c])
    | none => .bad) else .bad
  | .dic ks vs, k => match keyD k with
    | some k => (match look ks vs k with
      | some d => .ok d
      | none => .bad)
    | none => .bad
  | _, _ => .bad
theorem ixD_ne : NoEx2 ixD := fun x y c vs h => by
  unfold ixD at h
  split at h <;> first | cases h | (split at h <;> first | cases h | (split at h <;> cases h))
theorem atI_rep {G : GE} {F : Hp} {ds : List D} {vs : List V} {i : Int} {d : D} (r : RepL G F ds vs) (h : atI ds i = some d) : ∃ v, atI vs i = some v ∧ Rep G F d v := by
  unfold atI at h ⊢
  rw [r.length]
  cases q : ixN ds.length i with
  | none => rw [q] at h; cases h
  | some j =>
    rw [q] at h
    exact r.get h
theorem atI_mem {α : Type} {xs : List α} {i : Int} {d : α} (h : atI xs i = some d) : d ∈ xs := by
  obtain ⟨j, _, e, _⟩ := atI_get h
  exact List.mem_of_getElem? e
theorem ix_D {X : Cx} {C : CT} (hK : X.K = C.G.K) (hu : X.A.units + 65 < cLine) : IxR X (r2 C.G ixD) := by
  intro value slice pins s σ H x y v u Q I rx ry h hs
  obtain ⟨F, d, e, S, bd, be, p⟩ := h
  unfold ixD at p
  split at p
  · split at p
    · rename_i hz
      obtain ⟨a, vs, e1, q, r⟩ := bor_lst S bd
      obtain ⟨w, h1, h2⟩ := atI_rep r hz
      rw [← hK] at q
      exact ix_list value slice pins s σ H x y v u Q I rx ry ⟨a, vs, _, w, e1, bor_int be, q, h1, p w F H (Ext.refl S) h2⟩ hs
    · exact p.elim
  · split at p
    · rename_i hz
      obtain ⟨a, vs, e1, q, r⟩ := bor_tup S bd
      obtain ⟨w, h1, h2⟩ := atI_rep r hz
      rw [← hK] at q
      exact ix_tup value slice pins s σ H x y v u Q I rx ry ⟨a, vs, _, w, e1, bor_int be, q, h1, p w F H (Ext.refl S) h2⟩ hs
    · exact p.elim
  · split at p
    · split at p
      · rename_i hl _ c hz
        obtain ⟨e1, k⟩ := bor_str bd
        refine ix_str value slice pins s σ H x y v u Q I rx ry ⟨_, _, c, e1, bor_int be, ?_, hz, p.str S (okS_mem k (atI_mem hz))⟩ hs
        show Array.size _ ≤ _
        rw [List.size_toArray]
        exact sz_line hl
      · exact p.elim
    · exact p.elim
  · split at p
    · rename_i k hk
      split at p
      · rename_i d' hd
        obtain ⟨a, kvs, rfl, q, e1, nd, r⟩ := bor_dic S bd
        rw [← e1] at hd
        obtain ⟨w, h1, h2⟩ := (look_val r).1 _ hd
        have ey := keyD_rep hk be
        have g : DGet H a y (some w) := .inl ⟨kvs, k, q, ey, h1.symm⟩
        obtain rfl : v = Value.ref a := rx
        exact tail_any (dict_typeIs I g) PySem.F.slot_dict_getitem.lookup (d_getItem (by omega) I g ry fun w' s3 I3 rw' => ⟨w, H, I3, rw', p w F H (Ext.refl S) h2⟩) hs
      · exact p.elim
    · exact p.elim
  · exact p.elim
section
variable {X : Cx} {C : CT} {W : WX} {a b c : Expr} {rest : List Expr} {fa fb fc f : SS → R D} {pos p2 : Pos}
theorem s_ix (hK : X.K = C.G.K) (hu : X.A.units + 65 < cLine) (ha : PE X a (tB C W fa)) (hb : PE X b (tB C W fb)) (hs : PlainIx b := by exact fun _ _ => rfl) : PE X (.Subscript a b pos) (tD C W (eBin ixD fa fb)) :=
  pe_imp (pe_ix (ix_D hK hu) ha hb hs) fun _ _ _ h => bin_read ixD_ne h

def cutL {α : Type} (xs : List α) (lo hi : Option Int) : List α := (xs.drop (HT.sIx xs.length 0 lo)).take (HT.sIx xs.length xs.length hi - HT.sIx xs.length 0 lo)
def slD (x : D) (lo hi : Option Int) : R D := match x with
  | .lst xs => .ok (.lst (cutL xs lo hi))
  | .tup xs => .ok (.tup (cutL xs lo hi))
  | .str x => if x.length ≤ SZ then .ok (.str (cutL x lo hi)) else .bad
  | _ => .bad
def optI : D → R (Option Int)
  | .int i => .ok (some i)
  | _ => .bad
def oNo : SS → R (Option Int) := fun _ => .ok none
def oSo (f : SS → R D) : SS → R (Option Int) := fun s => (f s).bind fun x => match x with
  | .int i => .ok (some i)
  | _ => .bad
def eSl (fa : SS → R D) (fl fh : SS → R (Option Int)) : SS → R D := fun s => (fa s).bind fun x => (fl s).bind fun l => (fh s).bind fun h => slD x l h
def PostO (C : CT) (W : WX) (F H : Hp) (σ : L2.St) (Q : Option Int → Hp → Prop) : R (Option Int) → Prop
  | .ok o => ∀ F' H', Ext F H F' H' → Q o H'
  | .ex c vs => ∀ cls dx F' H', Ext F H F' H' → XR C.G F' c vs cls dx → W cls dx σ H'
  | .bad => False
def tO (C : CT) (W : WX) (f : SS → R (Option Int)) : TO := fun σ H Q => ∃ F sd, StR C F H sd σ ∧ PostO C W F H σ Q (f sd)
theorem po_imp {e : Option Expr} {t t' : TO} (h : PO X e t) (i : ∀ σ H Q, t' σ H Q → t σ H Q) : PO X e t' := ⟨fun pins s σ H Q I q => h.run pins s σ H Q I (i σ H Q q)⟩
theorem s_ono : PO X none (tO C W oNo) := po_imp po_none fun σ H Q ⟨F, sd, S, h⟩ => h F H (Ext.refl S.fh)
theorem s_oso (ha : PE X a (tD C W fa)) : PO X (some a) (tO C W (oSo fa)) := po_imp (po_some ha) fun σ H Q ⟨F, sd, S, h⟩ => by
  refine ⟨F, sd, S, ?_⟩
  unfold oSo at h
  cases q : fa sd with
  | ok d =>
    rw [q] at h
    cases d with
    | int i => exact fun v F' H' e r => ⟨i, rep_int.mp r, h F' H' e⟩
    | _ => exact h.elim
  | ex c vs => rw [q] at h; exact h
  | bad => rw [q] at h; exact h
theorem PostE.bindO {F H : Hp} {σ : L2.St} {P : Hp → Hp → D → V → Prop} {Q : VK} {Q1 : Option Int → Hp → Prop} {x : R (Option Int)} {k : Option Int → R D} (h : PostE C W F H σ P Q (x.bind k))
    (hk : ∀ d F1 H1, Ext F H F1 H1 → PostE C W F1 H1 σ P Q (k d) → Q1 d H1) : PostO C W F H σ Q1 x := by
  cases x with
  | ok d => exact fun F' H' e => hk d F' H' e (PostE.ext e h)
  | ex c vs => exact h
  | bad => exact h
theorem RepL.cut {G : GE} {F : Hp} {ds : List D} {vs : List V} (r : RepL G F ds vs) (lo hi : Option Int) : RepL G F (cutL ds lo hi) (cutV vs lo hi) := by
  unfold cutL cutV
  rw [r.length]
  exact (r.drop _).take _
def rSD (G : GE) : V → Option Int → Option Int → Hp → VK → Prop := fun x lo hi H Q => ∃ F d, Same F H ∧ Bor G F H d x ∧ PostV G F H Q (slD d lo hi)
theorem sl_D (hK : X.K = C.G.K) : SlR X (rSD C.G) := by
  intro pins s σ H x v vl vu lo hi sl Q I rx hs pl pu h
  obtain ⟨F, d, S, bd, p⟩ := h
  unfold slD at p
  split at p
  · obtain ⟨a, vs, e1, q, r⟩ := bor_lst S bd
    rw [← hK] at q
    exact sl_list pins s σ H x v vl vu lo hi sl Q I rx hs pl pu ⟨a, vs, e1, q, p.lst S (r.cut lo hi)⟩
  · rename_i xs
    obtain ⟨a, vs, rfl, q, r⟩ := bor_tup S bd
    rw [← hK] at q
    refine sl_tupA pins s σ H _ v vl vu lo hi sl Q I rx hs pl pu ⟨a, vs, rfl, q, fun hw => ?_, fun _ => p.tup S (r.cut lo hi)⟩
    have e : cutL xs lo hi = xs := by
      unfold cutL
      rw [← r.length, hw.1, hw.2, List.drop_zero, Nat.sub_zero, r.length]
      exact List.take_length
    rw [e] at p
    exact p _ F H (Ext.refl S) (bd.elim id fun ⟨_, _, _, z⟩ => z.elim)
  · split at p
    · rename_i xs hl
      obtain ⟨e1, k⟩ := bor_str bd
      refine sl_str pins s σ H x v vl vu lo hi sl Q I rx hs pl pu ⟨_, e1, ?_, ?_⟩
      · show Array.size _ ≤ _
        rw [List.size_toArray]
        exact sz_line hl
      · have := p.str S (okS_take _ (okS_drop _ k))
        unfold cutS
        have l1 : (⟨xs.toArray⟩ : Str).length = xs.length := List.size_toArray
        rw [l1]
        exact this
    · exact p.elim
  · exact p.elim
theorem s_sl (hK : X.K = C.G.K) {lo hi : Option Expr} {fl fh : SS → R (Option Int)} (ha : PE X a (tB C W fa)) (hl : PO X lo (tO C W fl)) (hh : PO X hi (tO C W fh)) : PE X (.Subscript a (.Slice lo hi none p2) pos) (tD C W (eSl fa fl fh)) := by
  refine pe_imp (pe_slice (sl_D hK) ha hl hh) fun σ H Q ⟨F, sd, S, h⟩ => ?_
  refine ⟨F, sd, S, PostE.bind h fun d v F1 H1 e1 b1 h1 => ?_⟩
  refine ⟨F1, sd, S.mono e1, PostE.bindO h1 fun l F2 H2 e2 h2 => ?_⟩
  refine ⟨F2, sd, (S.mono e1).mono e2, PostE.bindO h2 fun u F3 H3 e3 h3 => ?_⟩
  refine ⟨F3, d, e3.fh, Bor.mono (e2.trans e3) b1, h3.toV fun c vs z => ?_⟩
  unfold slD at z
  split at z <;> first | cases z | (split at z <;> cases z)

def aNil : SS → R (List D) := fun _ => .ok []
def aCons (fa : SS → R D) (fs : SS → R (List D)) : SS → R (List D) := fun s => (fa s).bind fun x => (fs s).bind fun xs => .ok (x :: xs)
variable {es : List Expr} {fs : SS → R (List D)}
theorem a_cons {F H : Hp} {σ : L2.St} {sd : SS} {P : Hp → Hp → D → V → Prop} {Q : List V → Hp → Prop} (mono : ∀ {F H F' H' d v}, Ext F H F' H' → P F H d v → P F' H' d v) (S : StR C F H sd σ) (h : PostA C W F H σ P Q (aCons fa fs sd)) :
    PostE C W F H σ P (fun x H1 => ∃ F sd, StR C F H1 sd σ ∧ PostA C W F H1 σ P (fun xs H2 => Q (x :: xs) H2) (fs sd)) (fa sd) := by
  unfold aCons at h
  cases q : fa sd with
  | ok d =>
    rw [q] at h
    intro v F1 H1 e1 p1
    refine ⟨F1, sd, S.mono e1, ?_⟩
    cases q2 : fs sd with
    | ok ds =>
      have h : PostA C W F H σ P Q ((R.ok d).bind fun x => (fs sd).bind fun xs => .ok (x :: xs)) := h
      simp only [R.bind, q2] at h
      intro vs F2 H2 e2 p2
      exact h (v :: vs) F2 H2 (e1.trans e2) (.cons (mono e2 p1) p2)
    | ex c vs =>
      have h : PostA C W F H σ P Q ((R.ok d).bind fun x => (fs sd).bind fun xs => .ok (x :: xs)) := h
      simp only [R.bind, q2] at h
      exact fun cls dx F2 H2 e2 x => h cls dx F2 H2 (e1.trans e2) x
    | bad =>
      have h : PostA C W F H σ P Q ((R.ok d).bind fun x => (fs sd).bind fun xs => .ok (x :: xs)) := h
      simp only [R.bind, q2] at h
      exact h
  | ex c vs => rw [q] at h; exact h
  | bad => rw [q] at h; exact h
theorem s_anil : PA X [] (tA C W aNil) := pa_imp pa_nil fun σ H Q ⟨F, sd, S, h⟩ => h [] F H (Ext.refl S.fh) .nil
theorem s_acons (ha : PE X a (tD C W fa)) (hr : PA X es (tA C W fs)) (hs : starEach (a :: es) X.env = (false, eval a X.env) :: starEach es X.env := by rfl) : PA X (a :: es) (tA C W (aCons fa fs)) :=
  pa_imp (pa_cons ha hr hs) fun σ H Q ⟨F, sd, S, h⟩ => ⟨F, sd, S, a_cons (fun e p => Rep.mono e.ff p) S h⟩
theorem s_bnil : PA X [] (tAB C W aNil) := pa_imp pa_nil fun σ H Q ⟨F, sd, S, h⟩ => h [] F H (Ext.refl S.fh) .nil
theorem s_bcons (ha : PE X a (tB C W fa)) (hr : PA X es (tAB C W fs)) (hs : starEach (a :: es) X.env = (false, eval a X.env) :: starEach es X.env := by rfl) : PA X (a :: es) (tAB C W (aCons fa fs)) :=
  pa_imp (pa_cons ha hr hs) fun σ H Q ⟨F, sd, S, h⟩ => ⟨F, sd, S, a_cons (fun e p => Bor.mono e p) S h⟩
theorem pairL {G : GE} {F : Hp} : ∀ {ds : List D} {vs : List V}, Paired (Rep G F) ds vs → RepL G F ds vs
  | _, _, .nil => RepL.nil
  | _, _, .cons r t => RepL.cons r (pairL t)

theorem PostE.fresh {F H : Hp} {σ : L2.St} {Q : VK} {ds : List D} {vs : List V} {H₀ : Hp} (e₀ : Same H₀ H) (S : Same F H) (r : RepL C.G F ds vs) (p : PostE C W F H σ (pF C H₀) Q (.ok (.lst ds))) : ∀ a, H a = none → Q (.ref a) (upd H a (.lst vs)) := fun a ha =>
  p _ F (upd H a (.lst vs)) (Ext.newOwn S ha) ⟨a, rfl, e₀.free ha, S.free ha, vs, upd_same, r⟩
theorem lay_fast {X : Cx} {pins : List (Addr × Obj)} {σ : L2.St} {H : Hp} {s : Shared} {G : GE} {F : Hp} {a : Addr} {d : D} (I : Inv X pins σ H s) (q : OwR G F H a d) : ∃ o o', H a = some o ∧ Fz o o' ∧ (isDic d = true → o' ≠ o) ∧ Inv X pins σ (upd H a o') s := by
  obtain ⟨o, ho⟩ := q.there
  by_cases hd : isDic d = true
  · cases d with
    | dic ks vs =>
      obtain ⟨kvs, e, -⟩ := q
      obtain ⟨od, I1⟩ := I.lock e (by trivial)
      exact ⟨_, _, e, .inr ⟨od, kvs, rfl, rfl⟩, (fun _ z => by cases z), I1⟩
    | _ => cases hd
  · refine ⟨o, o, ho, .inl rfl, fun z => absurd z hd, ?_⟩
    have : upd H a o = H := by
      funext b
      by_cases hb : b = a
      · subst hb; rw [upd_same, ho]
      · rw [upd_ne hb]
    rw [this]
    exact I
theorem s_f (h : PE X a (tF C W f)) : PE X a (tD C W f) := ⟨fun pins s σ H Q I hh => by
  obtain ⟨F, sd, S, hh⟩ := hh
  refine thn (h.run pins s σ H (fun v H1 => ∃ F' d, Ext F H F' H1 ∧ (∃ a, v = .ref a ∧ H a = none ∧ F' a = none ∧ OwR C.G F' H1 a d) ∧ PostE C W F H σ (pD C) Q (.ok d)) I ⟨F, sd, S, ?_⟩) ?_
  · cases q : f sd with
    | ok d =>
      rw [q] at hh
      exact fun v F' H' e p => ⟨F', d, e, p, hh⟩
    | ex c vs => rw [q] at hh; exact hh
    | bad => rw [q] at hh; exact hh
  · intro u s1 ⟨x, H1, I1, r1, F', d, e, ⟨p, ex, hn, fn, ow⟩, hd⟩
    subst ex
    obtain ⟨o, o', ho, fz, nd, I2⟩ := lay_fast I1 ow
    have s1' : Same F' (upd F' p o') := same_new fn
    have s2 : Same (upd F' p o') (upd H1 p o') := fun b u z => by
      by_cases hb : b = p
      · subst hb; rw [upd_same] at z ⊢; exact z
      · rw [upd_ne hb] at z ⊢; exact e.fh _ _ z
    refine ⟨.ref p, upd H1 p o', I2, r1, hd _ (upd F' p o') (upd H1 p o') ⟨e.ff.trans s1', fun b u z => ?_, s2, fun b u h1 h2 => ?_⟩ (ow.rep s1' fun u z => ?_)⟩
    · have hb : b ≠ p := fun y => by subst y; rw [hn] at z; cases z
      rw [upd_ne hb]
      exact e.hh _ _ z
    · have hb : b ≠ p := fun z => by subst z; rw [hn] at h1; cases h1
      rw [upd_ne hb]
      exact e.ow b u h1 h2
    · rw [ho] at z; cases z; exact ⟨o', upd_same, fz, nd⟩⟩
def eLst (fs : SS → R (List D)) : SS → R D := fun s => (fs s).bind fun xs => if xs.length ≤ SZ then .ok (.lst xs) else .bad
def eTup (fs : SS → R (List D)) : SS → R D := fun s => (fs s).bind fun xs => if xs.length ≤ SZ then .ok (.tup xs) else .bad
theorem PostE.bindA {F H : Hp} {σ : L2.St} {P : Hp → Hp → D → V → Prop} {P1 : Hp → Hp → D → V → Prop} {Q : VK} {Q1 : List V → Hp → Prop} {x : R (List D)} {k : List D → R D} (h : PostE C W F H σ P Q (x.bind k))
    (hk : ∀ ds vs F1 H1, Ext F H F1 H1 → Paired (P1 F1 H1) ds vs → PostE C W F1 H1 σ P Q (k ds) → Q1 vs H1) : PostA C W F H σ P1 Q1 x := by
  cases x with
  | ok d => exact fun vs F' H' e r => hk d vs F' H' e r (PostE.ext e h)
  | ex c vs => exact h
  | bad => exact h
theorem s_lst (hs : PA X es (tA C W fs)) : PE X (.List es pos) (tF C W (eLst fs)) := by
  refine pe_imp (pe_lst hs) fun σ H Q ⟨F, sd, S, h⟩ => ?_
  refine ⟨F, sd, S, PostE.bindA h fun ds vs F1 H1 e1 r h1 => ?_⟩
  split at h1
  · rename_i hz
    have r := pairL r
    exact ⟨by rw [r.length]; exact sz_line hz, PostE.fresh e1.hh e1.fh r h1⟩
  · exact h1.elim
theorem s_tup {k} (hs : PA X es (tA C W fs)) : PE X (.Tuple es k pos) (tD C W (eTup fs)) := by
  refine pe_imp (pe_tup hs) fun σ H Q ⟨F, sd, S, h⟩ => ?_
  refine ⟨F, sd, S, PostE.bindA h fun ds vs F1 H1 e1 r h1 => ?_⟩
  split at h1
  · rename_i hz
    have r := pairL r
    exact ⟨by rw [r.length]; exact sz_line hz, (h1.toV fun _ _ z => by cases z).tup e1.fh r⟩
  · exact h1.elim
def rC (G : GE) (g : List D → R D) : List V → Hp → VK → Prop := fun vs H Q => ∃ F ds, Same F H ∧ Paired (Bor G F H) ds vs ∧ PostV G F H Q (g ds)
def PostVF (G : GE) (F H : Hp) (Q : VK) : R D → Prop
  | .ok d => ∀ a F' H', Ext F H F' H' → H a = none → F' a = none → OwR G F' H' a d → Q (.ref a) H'
  | _ => False
def rCF (G : GE) (g : List D → R D) : List V → Hp → VK → Prop := fun vs H Q => ∃ F ds, Same F H ∧ Paired (Bor G F H) ds vs ∧ PostVF G F H Q (g ds)
def eCall (g : List D → R D) (fs : SS → R (List D)) : SS → R D := fun s => (fs s).bind g
def NoExL (g : List D → R D) : Prop := ∀ x c vs, g x ≠ .ex c vs
variable {g : List D → R D} {x : Str} {id T : String} {p : Pos}
theorem call_read (hg : NoExL g) {σ : L2.St} {H : Hp} {Q : VK} (h : tD C W (eCall g fs) σ H Q) : tCB (rC C.G g) (tAB C W fs) σ H Q := by
  obtain ⟨F, sd, S, h⟩ := h
  refine ⟨F, sd, S, PostE.bindA h fun ds vs F1 H1 e1 r h1 => ?_⟩
  exact ⟨F1, ds, e1.fh, r, h1.toV (hg ds)⟩
theorem call_readF (hg : NoExL g) {σ : L2.St} {H : Hp} {Q : VK} (h : tF C W (eCall g fs) σ H Q) : tCB (rCF C.G g) (tAB C W fs) σ H Q := by
  obtain ⟨F, sd, S, h⟩ := h
  refine ⟨F, sd, S, PostE.bindA h fun ds vs F1 H1 e1 r h1 => ?_⟩
  refine ⟨F1, ds, e1.fh, r, ?_⟩
  cases q : g ds with
  | ok d =>
    rw [q] at h1
    exact fun a F' H' e hn fn ow => h1 _ F' H' e ⟨a, rfl, e1.hh.free hn, fn, ow⟩
  | ex c vs => exact (hg ds c vs q).elim
  | bad => rw [q] at h1; exact h1.elim
theorem s_bi (hg : NoExL g) (hc : CallR X (.builtin id) (rC C.G g)) (hgl : Gl X x) (hm : X.mg x = none) (hv : bootBuiltins x = some (.builtin id)) (ha : PA X (a :: es) (tAB C W fs)) (hn : x ≠ "__name__" := by decide) (hdb : (x == ("__debug__" : Str)) = false := by decide)
    (he : starEach (a :: es) X.env = (false, eval a X.env) :: starEach es X.env := by rfl) (hpl : (backTo pos (starEach es X.env)).any (·.1) = false := by rfl) : PE X (.Call (.Name x p) (a :: es) [] pos) (tD C W (eCall g fs)) :=
  pe_imp (pe_callB hc hgl hm hv ha hn hdb he hpl) fun _ _ _ h => call_read hg h
theorem s_biF (hg : NoExL g) (hc : CallR X (.builtin id) (rCF C.G g)) (hgl : Gl X x) (hm : X.mg x = none) (hv : bootBuiltins x = some (.builtin id)) (ha : PA X (a :: es) (tAB C W fs)) (hn : x ≠ "__name__" := by decide) (hdb : (x == ("__debug__" : Str)) = false := by decide)
    (he : starEach (a :: es) X.env = (false, eval a X.env) :: starEach es X.env := by rfl) (hpl : (backTo pos (starEach es X.env)).any (·.1) = false := by rfl) : PE X (.Call (.Name x p) (a :: es) [] pos) (tF C W (eCall g fs)) :=
  pe_imp (pe_callB hc hgl hm hv ha hn hdb he hpl) fun _ _ _ h => call_readF hg h
theorem s_ty (hg : NoExL g) (hc : CallR X (.type T) (rC C.G g)) (hgl : Gl X x) (hm : X.mg x = none) (hv : bootBuiltins x = some (.type T)) (ha : PA X (a :: es) (tAB C W fs)) (hn : x ≠ "__name__" := by decide) (hdb : (x == ("__debug__" : Str)) = false := by decide)
    (he : starEach (a :: es) X.env = (false, eval a X.env) :: starEach es X.env := by rfl) (hpl : (backTo pos (starEach es X.env)).any (·.1) = false := by rfl) : PE X (.Call (.Name x p) (a :: es) [] pos) (tD C W (eCall g fs)) :=
  pe_imp (pe_callTy hc hgl hm hv ha hn hdb he hpl) fun _ _ _ h => call_read hg h
def lenD : List D → R D
  | [.str x] => if x.length ≤ SZ then .ok (.int x.length) else .bad
  | [.lst x] => .ok (.int x.length)
  | [.tup x] => .ok (.int x.length)
  | _ => .bad
theorem lenD_ne : NoExL lenD := fun x c vs h => by
  unfold lenD at h
  split at h <;> first | cases h | (split at h <;> cases h)
theorem pair1 {P : D → V → Prop} {d : D} {vs : List V} (h : Paired P [d] vs) : ∃ v, vs = [v] ∧ P d v := by
  cases h with
  | cons r t => cases t; exact ⟨_, rfl, r⟩
theorem pair2 {P : D → V → Prop} {d e : D} {vs : List V} (h : Paired P [d, e] vs) : ∃ v u, vs = [v, u] ∧ P d v ∧ P e u := by
  cases h with
  | cons r t =>
    obtain ⟨u, rfl, q⟩ := pair1 t
    exact ⟨_, _, rfl, r, q⟩
theorem call_lenD (hK : X.K = C.G.K) : CallR X (.builtin "len") (rC C.G lenD) := by
  intro pins s σ H xs us Q I r h
  obtain ⟨F, ds, S, r2, p⟩ := h
  unfold lenD at p
  split at p
  · split at p
    · rename_i z hz
      obtain ⟨v, rfl, b⟩ := pair1 r2
      have l1 : (⟨z.toArray⟩ : Str).length = z.length := List.size_toArray
      refine call_len pins s σ H _ us Q I r ⟨_, z.length, rfl, ?_, p.int S⟩
      rw [(bor_str b).1]
      exact ⟨by rw [l1]; exact sz_line hz, l1.symm⟩
    · exact p.elim
  · obtain ⟨v, rfl, b⟩ := pair1 r2
    obtain ⟨a, xs, rfl, q, rr⟩ := bor_lst S b
    rw [← hK] at q
    refine call_len pins s σ H _ us Q I r ⟨_, _, rfl, .inl ⟨xs, q, rr.length.symm⟩, p.int S⟩
  · obtain ⟨v, rfl, b⟩ := pair1 r2
    obtain ⟨a, xs, rfl, q, rr⟩ := bor_tup S b
    rw [← hK] at q
    refine call_len pins s σ H _ us Q I r ⟨_, _, rfl, .inr ⟨xs, q, rr.length.symm⟩, p.int S⟩
  · exact p.elim
end
end
end Z
namespace Z
noncomputable section
open PySem PySem.Spec PySem.P PyProof.Rows L2

structure Pq (X : Cx) (C : CT) (W : WX) : Prop where
  K : X.K = C.G.K
  hu : X.A.units + 65 < cLine
  tk : Takes X W
  pass : PassesOwn (model X.prog X.w) X.A X.env X.xe
structure Pl (X : Cx) (C : CT) (W : WX) : Prop extends Pq X C W where
  calm : X.calm = true
instance {X : Cx} {C : CT} {W : WX} : Coe (Pl X C W) (Pq X C W) := ⟨Pl.toPq⟩

def LkD (d d' : D) : Prop := d' = d ∨ ∃ c c' vs ws, d = .obj c vs ∧ d' = .obj c' ws
def lkX : Sl → Bool
  | .lk _ => true
  | .nt true _ => true
  | _ => false
def LkR : Sl → Sl → Prop
  | .lk d, .lk d' => LkD d d'
  | .nt true _, .nt true _ => True
  | _, _ => False
theorem LkD.trans {a b c : D} (h : LkD a b) (g : LkD b c) : LkD a c := by
  rcases h with rfl | ⟨c1, c2, vs, ws, rfl, rfl⟩
  · exact g
  · rcases g with rfl | ⟨c3, c4, us, zs, e, rfl⟩
    · exact .inr ⟨_, _, _, _, rfl, rfl⟩
    · exact .inr ⟨_, _, _, _, rfl, rfl⟩
theorem LkR.refl {x : Sl} (h : lkX x = true) : LkR x x := by
  cases x with
  | lk d => exact .inl rfl
  | nt k d => cases k with
    | true => trivial
    | false => cases h
  | _ => cases h
theorem LkR.lk {x y : Sl} (h : LkR x y) : lkX y = true := by
  cases x with
  | lk d => cases y with
    | lk d' => rfl
    | _ => exact h.elim
  | nt k d => cases k with
    | true => cases y with
      | nt k' d' => cases k' with
        | true => rfl
        | false => exact h.elim
      | _ => exact h.elim
    | false => cases y <;> exact h.elim
  | _ => cases y <;> exact h.elim
theorem LkR.trans {x y z : Sl} (h : LkR x y) (g : LkR y z) : LkR x z := by
  cases x with
  | lk d => cases y with
    | lk d' => cases z with
      | lk d2 => exact LkD.trans h g
      | _ => exact g.elim
    | _ => exact h.elim
  | nt k d => cases k with
    | true => cases y with
      | nt k' d' => cases k' with
        | true => cases z with
          | nt k2 d2 => cases k2 with
            | true => trivial
            | false => exact g.elim
          | _ => exact g.elim
        | false => exact h.elim
      | _ => exact h.elim
    | false => cases y <;> exact h.elim
  | _ => cases y <;> exact h.elim
theorem LkR.of {d : D} {y : Sl} (h : LkR (.lk d) y) : ∃ d', y = .lk d' ∧ LkD d d' := by
  cases y with
  | lk d' => exact ⟨d', rfl, h⟩
  | _ => exact h.elim
def Lk (sd : SS) (σ : L2.St) (sd' : SS) (σ' : L2.St) : Prop := ∀ (i : Nat) (x : Sl), sd[i]? = some x → lkX x = true → (∃ x', sd'[i]? = some x' ∧ LkR x x') ∧ σ'[i]? = σ[i]?
theorem Lk.refl {sd : SS} {σ : L2.St} : Lk sd σ sd σ := fun _ x h k => ⟨⟨_, h, LkR.refl k⟩, rfl⟩
theorem Lk.trans {sd sd1 sd2 : SS} {σ σ1 σ2 : L2.St} (a : Lk sd σ sd1 σ1) (b : Lk sd1 σ1 sd2 σ2) : Lk sd σ sd2 σ2 := fun i x h k => by
  obtain ⟨⟨d1, h1, l1⟩, g1⟩ := a i x h k
  obtain ⟨⟨d2, h2, l2⟩, g2⟩ := b i d1 h1 l1.lk
  exact ⟨⟨d2, h2, l1.trans l2⟩, g2.trans g1⟩
theorem Lk.get {sd sd' : SS} {σ σ' : L2.St} {i : Nat} {d : D} (l : Lk sd σ sd' σ') (h : sd[i]? = some (.lk d)) : (∃ d', sd'[i]? = some (.lk d') ∧ LkD d d') ∧ σ'[i]? = σ[i]? := by
  obtain ⟨⟨x, h1, l1⟩, g⟩ := l i _ h rfl
  obtain ⟨d', rfl, l2⟩ := l1.of
  exact ⟨⟨d', h1, l2⟩, g⟩
theorem lk_one {s : SS} {σ σ' : L2.St} {i : Nat} {x : Sl} (h : ∀ y, s[i]? = some y → lkX y = false) (hσ : ∀ j, i ≠ j → σ'[j]? = σ[j]?) : Lk s σ (s.set i x) σ' := fun j y e k => by
  have hij : i ≠ j := fun z => by
    subst z
    rw [h y e] at k
    cases k
  rw [List.getElem?_set_ne hij]
  exact ⟨⟨_, e, LkR.refl k⟩, hσ j hij⟩
def PostS (C : CT) (W : WX) (F : Hp) (sd : SS) (σ : L2.St) (D : Ends) : RS → Prop
  | .nx s' => ∀ F' H' σ', StR C F' H' s' σ' → Same F F' → Lk sd σ s' σ' → D.nx σ' H'
  | .bk s' => ∀ F' H' σ', StR C F' H' s' σ' → Same F F' → Lk sd σ s' σ' → D.bk σ' H'
  | .ct s' => ∀ F' H' σ', StR C F' H' s' σ' → Same F F' → Lk sd σ s' σ' → D.ct σ' H'
  | .rt false d => ∀ v F' H', Ext C.F0 C.H0 F' H' → Same F F' → Rep C.G F' d v → D.rt v H'
  | .rt true d => ∀ a F' H', Ext C.F0 C.H0 F' H' → Same F F' → C.H0 a = none → F' a = none → OwR C.G F' H' a d → D.rt (.ref a) H'
  | .ex c vs s' => ∀ cls dx F' H' σ', StR C F' H' s' σ' → Same F F' → Lk sd σ s' σ' → XR C.G F' c vs cls dx → W cls dx σ' H'
  | .rm d s' => ∀ v F' H' σ', StR C F' H' s' σ' → Same F F' → Lk sd σ s' σ' → Rep C.G F' d v → D.rt v H'
  | .rn i s' => ∀ a F' H' σ', StR C F' H' s' σ' → Same F F' → Lk sd σ s' σ' → σ'[i]? = some (some (.ref a)) → D.rt (.ref a) H'
  | .bad => False
def tS (C : CT) (W : WX) (f : SS → RS) : TS := fun D σ H => ∃ F sd, StR C F H sd σ ∧ PostS C W F sd σ D (f sd)
theorem PostS.mono {C : CT} {W : WX} {F F1 : Hp} {sd sd1 : SS} {σ σ1 : L2.St} {D : Ends} {r : RS} (f : Same F F1) (l : Lk sd σ sd1 σ1) (h : PostS C W F sd σ D r) : PostS C W F1 sd1 σ1 D r := by
  cases r with
  | nx s => exact fun F' H' σ' S q k => h F' H' σ' S (f.trans q) (l.trans k)
  | bk s => exact fun F' H' σ' S q k => h F' H' σ' S (f.trans q) (l.trans k)
  | ct s => exact fun F' H' σ' S q k => h F' H' σ' S (f.trans q) (l.trans k)
  | rt b d => cases b with
    | false => exact fun v F' H' e q => h v F' H' e (f.trans q)
    | true => exact fun v F' H' e q => h v F' H' e (f.trans q)
  | ex c vs s => exact fun cls dx F' H' σ' S q k => h cls dx F' H' σ' S (f.trans q) (l.trans k)
  | rm d s => exact fun v F' H' σ' S q k => h v F' H' σ' S (f.trans q) (l.trans k)
  | rn j s => exact fun v F' H' σ' S q k => h v F' H' σ' S (f.trans q) (l.trans k)
  | bad => exact h

def setS (s : SS) (i : Nat) (x : Sl) : Option SS := match s[i]? with
  | some (.lk _) => none
  | some (.nt true _) => none
  | some _ => some (s.set i x)
  | none => none
theorem setS_some {s s' : SS} {i : Nat} {x : Sl} (h : setS s i x = some s') : s' = s.set i x ∧ i < s.length ∧ ∀ y, s[i]? = some y → lkX y = false := by
  unfold setS at h
  split at h
  · cases h
  · cases h
  · rename_i y hn hn2 hs
    cases h
    refine ⟨rfl, (List.getElem?_eq_some_iff.mp hs).1, fun z e => ?_⟩
    rw [hs] at e
    cases e
    cases y with
    | lk d => exact (hn d rfl).elim
    | nt k d => cases k with
      | true => exact (hn2 d rfl).elim
      | false => rfl
    | _ => rfl
  · cases h
theorem lk_set {s s' : SS} {i : Nat} {x : Sl} {σ : L2.St} {v : V} (h : setS s i x = some s') : Lk s σ s' (σ.set i (some v)) := by
  obtain ⟨rfl, hi, hl⟩ := setS_some h
  exact lk_one hl fun j hij => List.getElem?_set_ne hij
theorem StR.setSh {C : CT} {F H : Hp} {s s' : SS} {σ : L2.St} {i : Nat} {d : D} {v : V} (S : StR C F H s σ) (h : setS s i (.sh d) = some s') (r : Rep C.G F d v) : StR C F H s' (σ.set i (some v)) := by
  obtain ⟨rfl, hi, hl⟩ := setS_some h
  have hiσ : i < σ.length := by rw [← S.len]; exact hi
  refine ⟨S.ext, by rw [List.length_set, List.length_set]; exact S.len, fun j e q => ?_, fun j e q => ?_, fun j k e e' a q1 q2 q3 q4 => ?_, S.nt.step (fun j k e q => ?_) (fun j k l q => ?_) (fun j e b q z => ?_) (Same.refl F) fun b o h1 h2 _ => ⟨h1, h2⟩⟩
  · by_cases hij : i = j
    · subst hij
      rw [List.getElem?_set_self hi] at q
      cases q
      exact ⟨v, List.getElem?_set_self hiσ, r⟩
    · rw [List.getElem?_set_ne hij] at q ⊢
      exact S.sh j e q
  · by_cases hij : i = j
    · subst hij
      rw [List.getElem?_set_self hi] at q
      rcases q with q | q <;> cases q
    · rw [List.getElem?_set_ne hij] at q ⊢
      exact S.ow j e q
  · by_cases hij : i = j
    · subst hij
      rw [List.getElem?_set_self hi] at q1
      rcases q1 with q | q <;> cases q
    · by_cases hik : i = k
      · subst hik
        rw [List.getElem?_set_self hi] at q2
        rcases q2 with q | q <;> cases q
      · rw [List.getElem?_set_ne hij] at q1 q3
        rw [List.getElem?_set_ne hik] at q2 q4
        exact S.dis j k e e' a q1 q2 q3 q4
  · by_cases hij : i = j
    · subst hij
      rw [List.getElem?_set_self hi] at q
      cases q
    · rw [List.getElem?_set_ne hij] at q ⊢
      exact ⟨q, rfl⟩
  · by_cases hij : i = j
    · subst hij
      rw [List.getElem?_set_self hi] at q
      cases q
    · rw [List.getElem?_set_ne hij] at q ⊢
      exact ⟨q, rfl⟩
  · by_cases hij : i = j
    · subst hij
      rw [List.getElem?_set_self hi] at q
      rcases q with q | q <;> cases q
    · rw [List.getElem?_set_ne hij] at q z
      exact .inl ⟨j, e, q, z⟩
theorem StR.setOw {C : CT} {F H H₁ : Hp} {s s' : SS} {σ : L2.St} {i : Nat} {d : D} {a : Addr} (S : StR C F H s σ) (h : setS s i (.ow d) = some s') (h₁ : ∀ (j : Nat) (e : D) (b : Addr), s[j]? = some (.ow e) ∨ s[j]? = some (.lk e) → σ[j]? = some (some (.ref b)) → ∃ o, H₁ b = some o)
    (hN : NtOk C H₁ F H s σ) (ha : H₁ a = none) (h0 : C.H0 a = none) (hf : F a = none) (r : OwR C.G F H a d) : StR C F H s' (σ.set i (some (.ref a))) := by
  obtain ⟨rfl, hi, hl⟩ := setS_some h
  have hiσ : i < σ.length := by rw [← S.len]; exact hi
  have new : ∀ (j : Nat) (e : D), s[j]? = some (.ow e) ∨ s[j]? = some (.lk e) → σ[j]? ≠ some (some (.ref a)) := fun j e q z => by
    obtain ⟨o, ho⟩ := h₁ j e a q z
    rw [ha] at ho
    cases ho
  refine ⟨S.ext, by rw [List.length_set, List.length_set]; exact S.len, fun j e q => ?_, fun j e q => ?_, fun j k e e' b q1 q2 q3 q4 => ?_, (hN.step (fun j k e q => ?_) (fun j k l q => ?_) (fun j e b q z => ?_) (Same.refl F) fun b o h1 h2 _ => ⟨h1, h2⟩).up⟩
  · by_cases hij : i = j
    · subst hij
      rw [List.getElem?_set_self hi] at q
      cases q
    · rw [List.getElem?_set_ne hij] at q ⊢
      exact S.sh j e q
  · by_cases hij : i = j
    · subst hij
      rw [List.getElem?_set_self hi] at q
      rcases q with q | q
      · cases q
        exact ⟨a, List.getElem?_set_self hiσ, h0, hf, r⟩
      · cases q
    · rw [List.getElem?_set_ne hij] at q ⊢
      exact S.ow j e q
  · by_cases hij : i = j
    · subst hij
      rw [List.getElem?_set_self hiσ] at q3
      cases q3
      by_cases hik : i = k
      · exact hik
      · rw [List.getElem?_set_ne hik] at q2 q4
        exact (new k e' q2 q4).elim
    · by_cases hik : i = k
      · subst hik
        rw [List.getElem?_set_self hiσ] at q4
        cases q4
        rw [List.getElem?_set_ne hij] at q1 q3
        exact (new j e q1 q3).elim
      · rw [List.getElem?_set_ne hij] at q1 q3
        rw [List.getElem?_set_ne hik] at q2 q4
        exact S.dis j k e e' b q1 q2 q3 q4
  · by_cases hij : i = j
    · subst hij
      rw [List.getElem?_set_self hi] at q
      cases q
    · rw [List.getElem?_set_ne hij] at q ⊢
      exact ⟨q, rfl⟩
  · by_cases hij : i = j
    · subst hij
      rw [List.getElem?_set_self hi] at q
      cases q
    · rw [List.getElem?_set_ne hij] at q ⊢
      exact ⟨q, rfl⟩
  · by_cases hij : i = j
    · subst hij
      rw [List.getElem?_set_self hiσ] at z
      cases z
      exact .inr ha
    · rw [List.getElem?_set_ne hij] at q z
      exact .inl ⟨j, e, q, z⟩
theorem StR.ntIn {C : CT} {F H F1 H1 : Hp} {s : SS} {σ : L2.St} (S : StR C F H s σ) (e : Ext F H F1 H1) : NtOk C H F1 H1 s σ :=
  S.nt.step (fun i k d q => ⟨q, rfl⟩) (fun r i j q => ⟨q, rfl⟩) (fun j e b q z => .inl ⟨j, e, q, z⟩) e.ff fun b o h1 h2 _ => ⟨e.hh _ _ h1, e.ow _ _ h1 h2⟩
theorem StR.owns {C : CT} {F H : Hp} {s : SS} {σ : L2.St} (S : StR C F H s σ) : ∀ (j : Nat) (e : D) (b : Addr), s[j]? = some (.ow e) ∨ s[j]? = some (.lk e) → σ[j]? = some (some (.ref b)) → ∃ o, H b = some o := fun j e b q z => by
  obtain ⟨a, h1, _, _, h4⟩ := S.ow j e q
  rw [h1] at z
  cases z
  exact h4.there

section
variable {X : Cx} {C : CT} {W : WX} {e : Expr} {fe : SS → R D} {pos : Pos} {st : Stmt} {sts : List Stmt} {f f' : SS → RS}
def sE (fe : SS → R D) (k : D → SS → RS) : SS → RS := fun s => match fe s with
  | .ok d => k d s
  | .ex c vs => .ex c vs s
  | .bad => .bad
def optS (o : Option SS) : RS := match o with
  | some s => .nx s
  | none => .bad
def sSet (i : Nat) (fe : SS → R D) : SS → RS := sE fe fun d s => optS (setS s i (.sh d))
def sSetO (i : Nat) (fe : SS → R D) : SS → RS := sE fe fun d s => optS (setS s i (.ow d))
theorem postS_E {F H : Hp} {sd : SS} {σ : L2.St} {En : Ends} {k : D → SS → RS} {P : Hp → Hp → D → V → Prop} {Q : VK} (S : StR C F H sd σ) (h : PostS C W F sd σ En (sE fe k sd))
    (hk : ∀ d v F1 H1, Ext F H F1 H1 → P F1 H1 d v → PostS C W F sd σ En (k d sd) → Q v H1) : PostE C W F H σ P Q (fe sd) := by
  unfold sE at h
  cases q : fe sd with
  | ok d =>
    rw [q] at h
    exact fun v F' H' e p => hk d v F' H' e p h
  | ex c vs =>
    rw [q] at h
    exact fun cls dx F' H' e x => h cls dx F' H' σ (S.mono e) e.ff Lk.refl x
  | bad => rw [q] at h; exact h
theorem s_set (i : Nat) {x : Str} {pos' : Pos} (he : PE X e (tD C W fe)) (hN : X.N.Nodup) (hi : X.N[i]? = some x := by rfl) (hx : Loc X.env.scope x := by first | exact Or.inl rfl | exact Or.inr rfl) (hs : swapsWith e (some (.Name x pos')) pos.line X.env = pure false := by rfl)
    (hf : X.fn x = true ∨ X.env.scope.names.lookup x = some .local := by first | exact .inl rfl | exact .inr rfl) : PS X (.Assign [.Name x pos'] e pos) (tS C W (sSet i fe)) := by
  refine ps_imp (ps_set (i := i) hN hi hx he hs hf) fun D σ H ⟨F, sd, S, h⟩ => ?_
  refine ⟨F, sd, S, postS_E S h fun d v F1 H1 e1 r h1 => ?_⟩
  cases q : setS sd i (.sh d) with
  | none => rw [q] at h1; exact h1.elim
  | some s' =>
    rw [q] at h1
    exact h1 F1 H1 _ ((S.mono e1).setSh q r) e1.ff (lk_set q)
theorem s_seto (i : Nat) {x : Str} {pos' : Pos} (he : PE X e (tF C W fe)) (hN : X.N.Nodup) (hi : X.N[i]? = some x := by rfl) (hx : Loc X.env.scope x := by first | exact Or.inl rfl | exact Or.inr rfl) (hs : swapsWith e (some (.Name x pos')) pos.line X.env = pure false := by rfl)
    (hf : X.fn x = true ∨ X.env.scope.names.lookup x = some .local := by first | exact .inl rfl | exact .inr rfl) : PS X (.Assign [.Name x pos'] e pos) (tS C W (sSetO i fe)) := by
  refine ps_imp (ps_set (i := i) hN hi hx he hs hf) fun D σ H ⟨F, sd, S, h⟩ => ?_
  refine ⟨F, sd, S, postS_E S h fun d v F1 H1 e1 r h1 => ?_⟩
  obtain ⟨a, rfl, hn, hf, ow⟩ := r
  cases q : setS sd i (.ow d) with
  | none => rw [q] at h1; exact h1.elim
  | some s' =>
    rw [q] at h1
    exact h1 F1 H1 _ ((S.mono e1).setOw (H₁ := H) q S.owns (S.ntIn e1) hn (S.ext.hh.free hn) hf ow) e1.ff (lk_set q)
def sX (fe : SS → R D) : SS → RS := sE fe fun _ s => .nx s
theorem s_x (he : PE X e (tD C W fe)) (hs : swapsWith e none pos.line X.env = pure false := by rfl) : PS X (.Expr e pos) (tS C W (sX fe)) := by
  refine ps_imp (ps_expr he hs) fun D σ H ⟨F, sd, S, h⟩ => ?_
  exact ⟨F, sd, S, postS_E S h fun d v F1 H1 e1 r h1 => h1 F1 H1 σ (S.mono e1) e1.ff Lk.refl⟩
def sRet (fe : SS → R D) : SS → RS := sE fe fun d _ => .rt false d
def sRetF (fe : SS → R D) : SS → RS := sE fe fun d _ => .rt true d
theorem s_ret (he : PE X e (tD C W fe)) : PS X (.Return (some e) pos) (tS C W (sRet fe)) := by
  refine ps_imp (ps_ret he) fun D σ H ⟨F, sd, S, h⟩ => ?_
  exact ⟨F, sd, S, postS_E S h fun d v F1 H1 e1 r h1 => h1 v F1 H1 (S.ext.trans e1) e1.ff r⟩
theorem s_retf (he : PE X e (tF C W fe)) : PS X (.Return (some e) pos) (tS C W (sRetF fe)) := by
  refine ps_imp (ps_ret he) fun D σ H ⟨F, sd, S, h⟩ => ?_
  refine ⟨F, sd, S, postS_E S h fun d v F1 H1 e1 r h1 => ?_⟩
  obtain ⟨a, rfl, hn, hf, ow⟩ := r
  exact h1 a F1 H1 (S.ext.trans e1) e1.ff (S.ext.hh.free hn) hf ow
def sRetO (i : Nat) : SS → RS := fun s => match s[i]? with
  | some (.ow d) => .rt true d
  | _ => .bad
def sNx : SS → RS := fun s => .nx s
def sBk : SS → RS := fun s => .bk s
theorem s_pass : PS X (.Pass pos) (tS C W sNx) := ps_imp ps_pass fun D σ H ⟨F, sd, S, h⟩ => h F H σ S (Same.refl F) Lk.refl
theorem s_bk : PS X (.Break pos) (tS C W sBk) := ps_imp ps_break fun D σ H ⟨F, sd, S, h⟩ => h F H σ S (Same.refl F) Lk.refl
def sSeq (f g : SS → RS) : SS → RS := fun s => match f s with
  | .nx s' => g s'
  | r => r
theorem ss_nil : PSs X [] (tS C W sNx) := pss_imp pss_nil fun D σ H ⟨F, sd, S, h⟩ => h F H σ S (Same.refl F) Lk.refl
theorem ss_cons (h1 : PS X st (tS C W f)) (h2 : PSs X sts (tS C W f')) : PSs X (st :: sts) (tS C W (sSeq f f')) := by
  refine pss_imp (pss_cons h1 h2) fun D σ H ⟨F, sd, S, h⟩ => ?_
  refine ⟨F, sd, S, ?_⟩
  unfold sSeq at h
  cases q : f sd with
  | nx s' =>
    rw [q] at h
    exact fun F' H' σ' S' f l => ⟨F', s', S', PostS.mono f l h⟩
  | bk s' => rw [q] at h; exact h
  | ct s' => rw [q] at h; exact h
  | rt b d => rw [q] at h; cases b <;> exact h
  | ex c vs s' => rw [q] at h; exact h
  | rm d s' => rw [q] at h; exact h
  | rn j s' => rw [q] at h; exact h
  | bad => rw [q] at h; exact h
theorem ss_one (h1 : PS X st (tS C W f)) : PSs X [st] (tS C W f) := pss_one h1
def sIf (fc : SS → R D) (f g : SS → RS) : SS → RS := sE fc fun d s => match d with
  | .bl true => f s
  | .bl false => g s
  | _ => .bad
theorem postS_T {F H : Hp} {sd : SS} {σ : L2.St} {D : Ends} {k : Bool → SS → RS} {Q : Bool → Hp → Prop} (S : StR C F H sd σ) (h : PostS C W F sd σ D (sE fe (fun d s => match d with | .bl b => k b s | _ => .bad) sd))
    (hk : ∀ b F1 H1, Ext F H F1 H1 → PostS C W F sd σ D (k b sd) → Q b H1) : PostT C W F H σ Q (fe sd) := by
  unfold sE at h
  cases q : fe sd with
  | ok d =>
    rw [q] at h
    cases d with
    | bl b => exact fun F' H' e => hk b F' H' e h
    | _ => exact h.elim
  | ex c vs =>
    rw [q] at h
    exact fun cls dx F' H' e x => h cls dx F' H' σ (S.mono e) e.ff Lk.refl x
  | bad => rw [q] at h; exact h
theorem sE_congr {k k' : D → SS → RS} (h : ∀ d s, k d s = k' d s) : sE fe k = sE fe k' := by
  have : k = k' := funext fun d => funext fun s => h d s
  rw [this]
theorem sIf_eq {fc : SS → R D} {f g : SS → RS} : sIf fc f g = sE fc fun d s => match d with | .bl b => (if b = true then f s else g s) | _ => .bad := by
  unfold sIf
  refine sE_congr fun d s => ?_
  cases d with
  | bl b => cases b <;> rfl
  | _ => rfl
theorem s_ifs {a b : List Stmt} {fc : SS → R D} (hc : PT X e (tT C W fc)) (ha : PSs X a (tS C W f)) (hb : PSs X b (tS C W f')) : PS X (.If e a b pos) (tS C W (sIf fc f f')) := by
  refine ps_imp (ps_if hc ha hb) fun D σ H ⟨F, sd, S, h⟩ => ?_
  rw [sIf_eq] at h
  refine ⟨F, sd, S, postS_T S h fun b F1 H1 e1 h1 => ?_⟩
  cases b with
  | true =>
    rw [if_pos rfl] at h1 ⊢
    exact ⟨F1, sd, S.mono e1, PostS.mono e1.ff Lk.refl h1⟩
  | false =>
    rw [if_neg Bool.false_ne_true] at h1 ⊢
    exact ⟨F1, sd, S.mono e1, PostS.mono e1.ff Lk.refl h1⟩
def frz (i : Nat) (s : SS) : SS := match s[i]? with
  | some (.ow d) => s.set i (.sh d)
  | _ => s
theorem StR.frz {X : Cx} {pins : List (Addr × Obj)} {s : Shared} {F H : Hp} {sd : SS} {σ : L2.St} (i : Nat) (I : Inv X pins σ H s) (S : StR C F H sd σ) : ∃ F' H', Same F F' ∧ Inv X pins σ H' s ∧ StR C F' H' (Z.frz i sd) σ ∧ Lk sd σ (Z.frz i sd) σ := by
  unfold Z.frz
  cases q : sd[i]? with
  | none => exact ⟨F, H, Same.refl F, I, S, Lk.refl⟩
  | some u =>
    cases u with
    | ow d =>
      obtain ⟨a, h1, h2, h3, h4⟩ := S.ow i d (.inl q)
      obtain ⟨o, o', ho, fz, nd, I2⟩ := lay_fast I h4
      have hi : i < sd.length := (List.getElem?_eq_some_iff.mp q).1
      have s1 : Same F (upd F a o') := same_new h3
      have s2 : Same (upd F a o') (upd H a o') := fun b u z => by
        by_cases hb : b = a
        · subst hb; rw [upd_same] at z ⊢; exact z
        · rw [upd_ne hb] at z ⊢; exact S.fh _ _ z
      have other : ∀ (j : Nat) (e : D) (b : Addr), j ≠ i → sd[j]? = some (.ow e) ∨ sd[j]? = some (.lk e) → σ[j]? = some (some (.ref b)) → b ≠ a := fun j e b hj q2 q3 z => by
        subst z
        exact hj (S.dis j i e d b q2 (.inl q) q3 h1)
      refine ⟨upd F a o', upd H a o', s1, I2, ⟨⟨S.ext.ff.trans s1, fun b u z => ?_, s2, fun b u e1 e2 => ?_⟩, by rw [List.length_set]; exact S.len, fun j e q2 => ?_, fun j e q2 => ?_, fun j k e e' b q1 q2 => ?_, (S.nt.step (fun j k e q2 => ?_) (fun j k l q2 => ?_) (fun j e b q2 z => ?_) s1 fun b o z1 z2 z3 => ?_).up⟩, fun j e q2 => ?_⟩
      · have hb : b ≠ a := fun y => by subst y; rw [h2] at z; cases z
        rw [upd_ne hb]
        exact S.ext.hh _ _ z
      · have hb : b ≠ a := fun z => by subst z; rw [h2] at e1; cases e1
        rw [upd_ne hb]
        exact S.ext.ow b u e1 e2
      · by_cases hij : i = j
        · subst hij
          rw [List.getElem?_set_self hi] at q2
          cases q2
          exact ⟨_, h1, h4.rep s1 fun u z => by rw [ho] at z; cases z; exact ⟨o', upd_same, fz, nd⟩⟩
        · rw [List.getElem?_set_ne hij] at q2
          obtain ⟨v, e1, e2⟩ := S.sh j e q2
          exact ⟨v, e1, Rep.mono s1 e2⟩
      · by_cases hij : i = j
        · subst hij
          rw [List.getElem?_set_self hi] at q2
          rcases q2 with z | z <;> cases z
        · rw [List.getElem?_set_ne hij] at q2
          obtain ⟨b, e1, e2, e3, e4⟩ := S.ow j e q2
          have hb := other j e b (Ne.symm hij) q2 e1
          refine ⟨b, e1, e2, by rw [upd_ne hb]; exact e3, e4.mono s1 fun _ z => ?_⟩
          rw [upd_ne hb]; exact z
      · by_cases hij : i = j
        · subst hij
          rw [List.getElem?_set_self hi] at q1
          rcases q1 with z | z <;> cases z
        · by_cases hik : i = k
          · subst hik
            rw [List.getElem?_set_self hi] at q2
            rcases q2 with z | z <;> cases z
          · rw [List.getElem?_set_ne hij] at q1
            rw [List.getElem?_set_ne hik] at q2
            exact S.dis j k e e' b q1 q2
      · by_cases hij : i = j
        · subst hij
          rw [List.getElem?_set_self hi] at q2
          cases q2
        · rw [List.getElem?_set_ne hij] at q2
          exact ⟨q2, rfl⟩
      · by_cases hij : i = j
        · subst hij
          rw [List.getElem?_set_self hi] at q2
          cases q2
        · rw [List.getElem?_set_ne hij] at q2
          exact ⟨q2, rfl⟩
      · by_cases hij : i = j
        · subst hij
          rw [List.getElem?_set_self hi] at q2
          rcases q2 with z | z <;> cases z
        · rw [List.getElem?_set_ne hij] at q2
          exact .inl ⟨j, e, q2, z⟩
      · have hb : b ≠ a := fun y => by subst y; exact z3 i d (.inl q) h1
        rw [upd_ne hb, upd_ne hb]
        exact ⟨z1, z2⟩
      · exact lk_one (fun y e => by rw [q] at e; cases e; rfl) (fun _ _ => rfl) j e q2
    | _ => exact ⟨F, H, Same.refl F, I, S, Lk.refl⟩
def sFrz (i : Nat) (f : SS → RS) : SS → RS := fun s => f (frz i s)
theorem s_frz (i : Nat) (h : PS X st (tS C W f)) : PS X st (tS C W (sFrz i f)) := ⟨fun pins s σ H D I hh => by
  obtain ⟨F, sd, S, hh⟩ := hh
  obtain ⟨F', H', q, I2, S', l⟩ := S.frz i I
  exact h.run pins s σ H' D I2 ⟨F', Z.frz i sd, S', PostS.mono q l hh⟩⟩
end
end
end Z
namespace Z
noncomputable section
open PySem PySem.Spec PySem.P PyProof.Rows L2

abbrev FG := D → SS → Option SS
def But (vs : List Nat) (σ σ' : L2.St) : Prop := σ'.length = σ.length ∧ ∀ j, j ∉ vs → σ'[j]? = σ[j]?
theorem But.trans {vs us : List Nat} {σ σ1 σ2 : L2.St} (a : But vs σ σ1) (b : But us σ1 σ2) : But (vs ++ us) σ σ2 :=
  ⟨b.1.trans a.1, fun j h => by
    rw [List.mem_append, not_or] at h
    exact (b.2 j h.2).trans (a.2 j h.1)⟩
def tG (C : CT) (ft : FG) (vs : List Nat) : TG := fun v σ H Q => ∃ F s d s', StR C F H s σ ∧ Rep C.G F d v ∧ ft d s = some s' ∧ ∀ σ', StR C F H s' σ' → Lk s σ s' σ' → But vs σ σ' → Q σ' H
def seqG : List FG → List D → SS → Option SS
  | [], [], s => some s
  | g :: gs, d :: ds, s => (g d s).bind (seqG gs ds)
  | _, _, _ => none
def tGs (C : CT) (gs : List FG) (vs : List Nat) : TGs := fun us σ H Q => ∃ F s ds s', StR C F H s σ ∧ RepL C.G F ds us ∧ seqG gs ds s = some s' ∧ ∀ σ', StR C F H s' σ' → Lk s σ s' σ' → But vs σ σ' → Q σ' H
def gN (i : Nat) : FG := fun d s => setS s i (.sh d)
def gT (gs : List FG) : FG := fun d s => match d with
  | .tup ds => seqG gs ds s
  | _ => none
theorem pg_imp {X : Cx} {e : Expr} {t t' : TG} (h : PG X e t) (i : ∀ v σ H Q, t' v σ H Q → t v σ H Q) : PG X e t' := ⟨fun pins s σ H v u Q I r q => h.run pins s σ H v u Q I r (i v σ H Q q)⟩
theorem pgs_imp {X : Cx} {e : List Expr} {t t' : TGs} (h : PGs X e t) (i : ∀ v σ H Q, t' v σ H Q → t v σ H Q) : PGs X e t' := ⟨fun pins s σ H v u Q I r q => h.run pins s σ H v u Q I r (i v σ H Q q)⟩
section
variable {X : Cx} {C : CT} {W : WX} {e tg : Expr} {es : List Expr} {fe : SS → R D} {pos : Pos} {g : FG} {gs : List FG}
theorem g_n (i : Nat) {x : Str} (hN : X.N.Nodup) (hi : X.N[i]? = some x := by rfl) (hx : Loc X.env.scope x := by first | exact Or.inl rfl | exact Or.inr rfl) (hf : X.fn x = true ∨ X.env.scope.names.lookup x = some .local := by first | exact .inl rfl | exact .inr rfl) : PG X (.Name x pos) (tG C (gN i) [i]) :=
  pg_imp (pg_name hN hi hx hf) fun v σ H Q ⟨F, s, d, s', S, r, h, q⟩ => q _ (S.setSh h r) (lk_set h) ⟨List.length_set, fun j hj => List.getElem?_set_ne (fun z => hj (by simp [z]))⟩
theorem g_nil : PGs X [] (tGs C [] []) := pgs_imp pgs_nil fun v σ H Q ⟨F, s, ds, s', S, r, h, q⟩ => by
  cases ds with
  | nil =>
    unfold RepL at r
    cases h
    exact ⟨r, q σ S Lk.refl ⟨rfl, fun _ _ => rfl⟩⟩
  | cons d ds => cases h
theorem g_cons {vs us : List Nat} (h1 : PG X e (tG C g vs)) (h2 : PGs X es (tGs C gs us)) (hs : (assignEach (e :: es) X.env).map (·.2) = assign e X.env :: (assignEach es X.env).map (·.2) := by rfl) : PGs X (e :: es) (tGs C (g :: gs) (vs ++ us)) :=
  pgs_imp (pgs_cons h1 h2 hs) fun v σ H Q ⟨F, s, ds, s', S, r, h, q⟩ => by
    cases ds with
    | nil => cases h
    | cons d ds =>
      unfold RepL at r
      obtain ⟨u, t, rfl, r1, r2⟩ := r
      refine ⟨u, t, rfl, ?_⟩
      have h : (g d s).bind (seqG gs ds) = some s' := h
      cases k : g d s with
      | none => rw [k] at h; cases h
      | some s1 =>
        rw [k] at h
        exact ⟨F, s, d, s1, S, r1, k, fun σ1 S1 l1 b1 => ⟨F, s1, ds, s', S1, r2, h, fun σ2 S2 l2 b2 => q σ2 S2 (l1.trans l2) (b1.trans b2)⟩⟩
theorem seqG_len : ∀ {gs : List FG} {ds : List D} {s s' : SS}, seqG gs ds s = some s' → ds.length = gs.length
  | [], [], _, _, _ => rfl
  | [], _ :: _, _, _, h => by cases h
  | _ :: _, [], _, _, h => by cases h
  | g :: gs, d :: ds, s, s', h => by
    have h : (g d s).bind (seqG gs ds) = some s' := h
    cases k : g d s with
    | none => rw [k] at h; cases h
    | some s1 =>
      rw [k] at h
      have := seqG_len (gs := gs) (ds := ds) h
      simp [this]
theorem g_t {k : Nat} {vs : List Nat} (v : Pl X C W) (h : PGs X es (tGs C gs vs)) (hl : gs.length = es.length := by rfl) (hn : (assignEach es X.env).length = es.length := by rfl) (hst : (assignEach es X.env).findIdx? (·.1) = none := by rfl) : PG X (.Tuple es k pos) (tG C (gT gs) vs) :=
  pg_imp (pg_tup v.calm h hn hst) fun u σ H Q ⟨F, s, d, s', S, r, hh, q⟩ => by
    unfold gT at hh
    cases d with
    | tup ds =>
      obtain ⟨a, xs, rfl, sq, rr⟩ := rep_tup.mp r
      rw [← v.K] at sq
      refine ⟨a, xs, rfl, Same.seqT S.fh sq, ?_, F, s, ds, s', S, rr, hh, q⟩
      rw [rr.length, seqG_len hh, hl]
    | _ => cases hh
def sAsg (ft : FG) (fe : SS → R D) : SS → RS := sE fe fun d s => optS (ft d s)
theorem s_asg {vs : List Nat} (he : PE X e (tD C W fe)) (hg : PG X tg (tG C g vs)) (hs : swapsWithSole [tg] e pos.line X.env = pure false := by rfl) (hw : swappedStores [tg] e X.env = pure none := by rfl)
    (h1 : (assignEach [tg] X.env).map (·.2) = [assign tg X.env] := by rfl) : PS X (.Assign [tg] e pos) (tS C W (sAsg g fe)) := by
  refine ps_imp (ps_asg he hg hs hw h1) fun D σ H ⟨F, sd, S, h⟩ => ?_
  refine ⟨F, sd, S, postS_E S h fun d v F1 H1 e1 r h1 => ?_⟩
  cases q : g d sd with
  | none => rw [q] at h1; exact h1.elim
  | some s' =>
    rw [q] at h1
    exact ⟨F1, sd, d, s', S.mono e1, r, q, fun σ' S' l' _ => h1 F1 H1 σ' S' e1.ff l'⟩
end

structure ItOk (G : GE) (F : Hp) (J : It) (ds : List D) : Prop where
  go : ∀ (i : Nat) (F' H' : Hp), Same F F' → Same F' H' → i < ds.length → J.go i H'
  yld : ∀ (i : Nat) (F' H' : Hp) (x : V) (H'' : Hp), Same F F' → Same F' H' → i < ds.length → J.yld i H' x H'' → ∃ F'' d, Ext F' H' F'' H'' ∧ ds[i]? = some d ∧ Rep G F'' d x
  stop : ∀ (i : Nat) (F' H' : Hp), Same F F' → Same F' H' → ds.length ≤ i → J.stop i H'
def PostI (C : CT) (W : WX) (F H : Hp) (σ : L2.St) (Q : It → Hp → Prop) : R (List D) → Prop
  | .ok ds => ∀ J F' H', Ext F H F' H' → ItOk C.G F' J ds → Q J H'
  | .ex c vs => ∀ cls dx F' H', Ext F H F' H' → XR C.G F' c vs cls dx → W cls dx σ H'
  | .bad => False
def tI (C : CT) (W : WX) (f : SS → R (List D)) : TI := fun σ H Q => ∃ F sd, StR C F H sd σ ∧ PostI C W F H σ Q (f sd)
theorem pi_imp {X : Cx} {tg e : Expr} {t t' : TI} (h : PI X tg e t) (i : ∀ σ H Q, t' σ H Q → t σ H Q) : PI X tg e t' := ⟨fun pins s σ H Q I q => h.run pins s σ H Q I (i σ H Q q)⟩
def keyDd : Key → D
  | .inl i => .int i
  | .inr x => .str x.cps.toList
def keyOk : Key → Bool
  | .inl _ => true
  | .inr x => okS x.cps.toList
theorem keyDd_rep {G : GE} {F : Hp} {k : Key} (h : keyOk k = true) : Rep G F (keyDd k) (kV k) := by
  cases k with
  | inl i => exact rep_int.mpr rfl
  | inr x => exact rep_str.mpr ⟨rfl, h⟩
def itD : D → R (List D)
  | .lst ds => .ok ds
  | .tup ds => .ok ds
  | .str x => .ok (x.map fun c => .str [c])
  | .dic ks _ => if ks.all keyOk = true then .ok (ks.map keyDd) else .bad
  | _ => .bad
def iE (fe : SS → R D) : SS → R (List D) := fun s => (fe s).bind itD
section
variable {X : Cx} {C : CT} {W : WX} {a b c e tg : Expr} {es : List Expr} {fe fa fb fc : SS → R D} {pos p : Pos} {fi : SS → R (List D)}
theorem PostI.ext {F H F1 H1 : Hp} {σ : L2.St} {Q : It → Hp → Prop} {r : R (List D)} (e : Ext F H F1 H1) (h : PostI C W F H σ Q r) : PostI C W F1 H1 σ Q r := by
  cases r with
  | ok d => exact fun J F' H' e' p => h J F' H' (e.trans e') p
  | ex c vs => exact fun cls dx F' H' e' x => h cls dx F' H' (e.trans e') x
  | bad => exact h
theorem PostI.bind {F H : Hp} {σ : L2.St} {P : Hp → Hp → D → V → Prop} {Q : It → Hp → Prop} {Q1 : VK} {x : R D} {k : D → R (List D)} (h : PostI C W F H σ Q (x.bind k))
    (hk : ∀ d v F1 H1, Ext F H F1 H1 → P F1 H1 d v → PostI C W F1 H1 σ Q (k d) → Q1 v H1) : PostE C W F H σ P Q1 x := by
  cases x with
  | ok d => exact fun v F' H' e r => hk d v F' H' e r (PostI.ext e h)
  | ex c vs => exact h
  | bad => exact h
theorem it_list {G : GE} {K : PySem.W.Frag} (hK : K = G.K) {F : Hp} {l : Addr} {vs : List V} {ds : List D} (q : SqL G.K F l vs) (r : RepL G F ds vs) : ItOk G F (Itl K l) ds where
  go := fun i F' H' f h hi => by
    subst hK
    have hv : i < vs.length := by rw [r.length]; exact hi
    exact ⟨vs, vs[i], h.seq (f.seq q), by simp [hv]⟩
  yld := fun i F' H' x H'' f h hi y => by
    subst hK
    obtain ⟨rfl, y⟩ := y
    obtain ⟨d, e, rr⟩ := r.get' (y vs (h.seq (f.seq q)))
    exact ⟨F', d, Ext.refl h, e, Rep.mono f rr⟩
  stop := fun i F' H' f h hi => by
    subst hK
    exact ⟨vs, h.seq (f.seq q), by rw [r.length]; exact hi⟩
theorem it_tup {G : GE} {K : PySem.W.Frag} (hK : K = G.K) {F : Hp} {l : Addr} {vs : List V} {ds : List D} (q : SqT G.K F l vs) (r : RepL G F ds vs) : ItOk G F (Itt K l) ds where
  go := fun i F' H' f h hi => by
    subst hK
    have hv : i < vs.length := by rw [r.length]; exact hi
    exact ⟨vs, vs[i], Same.seqT h (Same.seqT f q), by simp [hv]⟩
  yld := fun i F' H' x H'' f h hi y => by
    subst hK
    obtain ⟨rfl, y⟩ := y
    obtain ⟨d, e, rr⟩ := r.get' (y vs (Same.seqT h (Same.seqT f q)))
    exact ⟨F', d, Ext.refl h, e, Rep.mono f rr⟩
  stop := fun i F' H' f h hi => by
    subst hK
    exact ⟨vs, Same.seqT h (Same.seqT f q), by rw [r.length]; exact hi⟩
theorem it_str {G : GE} {F : Hp} {x : List Nat} (k : okS x = true) : ItOk G F (Its ⟨x.toArray⟩) (x.map fun c => .str [c]) where
  go := fun i F' H' f h hi => by
    show i < Array.size _
    rw [List.size_toArray]
    simpa using hi
  yld := fun i F' H' v H'' f h hi y => by
    obtain ⟨rfl, c, e, rfl⟩ := y
    have e : x[i]? = some c := by simpa using e
    exact ⟨F', .str [c], Ext.refl h, by rw [List.getElem?_map, e]; rfl, rep_str.mpr ⟨rfl, okS_mem k (List.mem_of_getElem? e)⟩⟩
  stop := fun i F' H' f h hi => by
    show Array.size _ ≤ i
    rw [List.size_toArray]
    simpa using hi
theorem it_keys {G : GE} {F : Hp} {l : Addr} {o : Obj} {kvs : List (Key × V)} (q : F l = some (.frz o (.dK kvs))) (hk : (kvs.map (·.1)).all keyOk = true) : ItOk G F (Itk l o kvs) ((kvs.map (·.1)).map keyDd) where
  go := fun i F' H' f h hi => ⟨h _ _ (f _ _ q), by simpa using hi⟩
  yld := fun i F' H' x H'' f h hi y => by
    obtain ⟨rfl, k, v, e, rfl⟩ := y
    have e1 : (kvs.map (·.1))[i]? = some k := by rw [List.getElem?_map, e]; rfl
    exact ⟨F', keyDd k, Ext.refl h, by rw [List.getElem?_map, e1]; rfl, keyDd_rep (List.all_eq_true.mp hk k (List.mem_of_getElem? e1))⟩
  stop := fun i F' H' f h hi => ⟨h _ _ (f _ _ q), by simpa using hi⟩
theorem s_iter (v : Pq X C W) (he : PE X e (tD C W fe)) : PI X tg e (tI C W (iE fe)) := by
  refine ⟨fun pins s σ H Q I ⟨F, sd, S, h⟩ => ?_⟩
  refine thn (he.run pins s σ H (fun x H1 => ∃ F1 d, Same F1 H1 ∧ Rep C.G F1 d x ∧ PostI C W F1 H1 σ Q (itD d)) I ⟨F, sd, S, PostI.bind h fun d v F1 H1 e1 r h1 => ⟨F1, d, e1.fh, r, h1⟩⟩) fun u s1 ⟨x, H1, I1, r1, F1, d, f1, rp, h1⟩ => ?_
  have one : ∀ {Q' : VK}, Q' x H1 → (tC x) σ H1 Q' := fun q => q
  cases d with
  | lst ds =>
    have h1 : PostI C W F1 H1 σ Q (.ok ds) := h1
    obtain ⟨a, xs, rfl, q, rr⟩ := rep_lst.mp rp
    cases r1
    have q' := f1.seq q
    rw [← v.K] at q'
    obtain ⟨its, rv, pl, hz⟩ := I1.list q'
    refine wpAny_pyIter_list pl.isList ?_
    refine ⟨s1.heap.objs.size, [s1.heap.objs.size], _, _, H1, rfl, I1.kept (t' := s1.toks) fun b o e => Heap.get?_push_of_some _ e, turn_list a _, ⟨_, Heap.get?_push_size _ rfl, rfl, rfl⟩, fun b hb => ?_, ?_⟩
    · have e : b = s1.heap.objs.size := by simpa using hb
      subst e
      exact I1.fpOk (Nat.le_refl _) (I1.hok.fresh (Nat.le_refl _))
    · exact h1 _ F1 H1 (Ext.refl f1) (it_list v.K q rr)
  | tup ds =>
    have h1 : PostI C W F1 H1 σ Q (.ok ds) := h1
    obtain ⟨a, xs, rfl, q, rr⟩ := rep_tup.mp rp
    cases r1
    have q' := Same.seqT f1 q
    rw [← v.K] at q'
    obtain ⟨its, rv, pl, hz⟩ := I1.tuple q'
    refine wpAny_pyIter_tuple (show s1.heap.IsTuple a its.toArray from pl) ?_
    refine ⟨s1.heap.objs.size, [s1.heap.objs.size], _, _, H1, rfl, I1.kept (t' := s1.toks) fun b o e => Heap.get?_push_of_some _ e, turn_tuple a _, ⟨_, Heap.get?_push_size _ rfl, rfl, rfl⟩, fun b hb => ?_, ?_⟩
    · have e : b = s1.heap.objs.size := by simpa using hb
      subst e
      exact I1.fpOk (Nat.le_refl _) (I1.hok.fresh (Nat.le_refl _))
    · exact h1 _ F1 H1 (Ext.refl f1) (it_tup v.K q rr)
  | str z =>
    have h1 : PostI C W F1 H1 σ Q (.ok (z.map fun c => .str [c])) := h1
    obtain ⟨rfl, k⟩ := rep_str.mp rp
    obtain ⟨t, rfl⟩ := r1
    have q := h1 (Its ⟨z.toArray⟩) F1 H1 (Ext.refl f1) (it_str k)
    cases ha : (⟨z.toArray⟩ : Str).cps.all (· < 128)
    · exact wpAny_pyIter_wide ha (pi_one (tk := s1.toks) I1 _ (turn_str _ _ t "str_iterator" (.inr rfl)) ⟨_, Heap.get?_push_size _ rfl, rfl, rfl⟩ q)
    · exact wpAny_pyIter_ascii ha (pi_one (tk := s1.toks) I1 _ (turn_str _ _ t "str_ascii_iterator" (.inl rfl)) ⟨_, Heap.get?_push_size _ rfl, rfl, rfl⟩ q)
  | dic ks vs =>
    have h1 : PostI C W F1 H1 σ Q (if ks.all keyOk = true then .ok (ks.map keyDd) else .bad) := h1
    obtain ⟨d, kvs, rfl, ⟨o, hF⟩, rfl, nd, rr⟩ := rep_dic.mp rp
    obtain rfl : u = Value.ref d := r1
    split at h1
    · rename_i hk
      obtain ⟨hs, hgd, hx, es, ep, vs', hdt, hsz, kv, hm⟩ := I1.frzK (f1 _ _ hF)
      refine iter_keys hs hgd hx hdt (pi_one (tk := s1.toks) I1 _ (turn_keys _ hdt) ⟨_, Heap.get?_push_size _ rfl, rfl, ?_⟩ (h1 _ F1 H1 (Ext.refl f1) (it_keys hF hk)))
      rw [hsz] <;> rfl
    · exact h1.elim
  | _ => exact h1.elim

def rangeD (i j : Int) : List D := (List.range (j - i).toNat).map fun k => .int (i + (k : Nat))
def downD (i j : Int) : List D := (List.range (i - j).toNat).map fun k => .int (i - (k : Nat))
def fit62 (i : Int) : Prop := -4611686018427387904 ≤ i ∧ i < 4611686018427387904
instance (i : Int) : Decidable (fit62 i) := Classical.propDecidable _
def rng1 : List D → R (List D)
  | [.int j] => if fit62 j then .ok (rangeD 0 j) else .bad
  | _ => .bad
def rng2 : List D → R (List D)
  | [.int i, .int j] => if fit62 i ∧ fit62 j then .ok (rangeD i j) else .bad
  | _ => .bad
def rng3 : List D → R (List D)
  | [.int i, .int j, .int c] => if fit62 i ∧ fit62 j ∧ c = -1 then .ok (downD i j) else .bad
  | _ => .bad
def iRg1 (fs : SS → R (List D)) : SS → R (List D) := fun s => (fs s).bind rng1
def iRg2 (fs : SS → R (List D)) : SS → R (List D) := fun s => (fs s).bind rng2
def iRg3 (fs : SS → R (List D)) : SS → R (List D) := fun s => (fs s).bind rng3
theorem it_range {G : GE} {F : Hp} {i : Int} {n : Nat} : ItOk G F (Itr i n) ((List.range n).map fun k => .int (i + (k : Nat))) where
  go := fun k F' H' f h hi => by
    have hi : k < n := by simpa using hi
    exact hi
  yld := fun k F' H' v H'' f h hi y => by
    obtain ⟨rfl, rfl⟩ := y
    have hi : k < n := by simpa using hi
    exact ⟨F', .int (i + (k : Nat)), Ext.refl h, by rw [List.getElem?_map, List.getElem?_range hi]; rfl, rep_int.mpr rfl⟩
  stop := fun k F' H' f h hi => by
    have hi : n ≤ k := by simpa using hi
    exact hi
theorem it_rangeC {G : GE} {F : Hp} {i : Int} {n : Nat} : ItOk G F (Itc i (-1) n) ((List.range n).map fun k => .int (i - (k : Nat))) where
  go := fun k F' H' f h hi => by
    have hi : k < n := by simpa using hi
    exact hi
  yld := fun k F' H' v H'' f h hi y => by
    obtain ⟨rfl, rfl⟩ := y
    have hi : k < n := by simpa using hi
    exact ⟨F', .int (i - (k : Nat)), Ext.refl h, by rw [List.getElem?_map, List.getElem?_range hi]; rfl, rep_int.mpr (by congr 1; omega)⟩
  stop := fun k F' H' f h hi => by
    have hi : n ≤ k := by simpa using hi
    exact hi
theorem PostI.bindA {F H : Hp} {σ : L2.St} {Q : It → Hp → Prop} {Q1 : List V → Hp → Prop} {P1 : Hp → Hp → D → V → Prop} {x : R (List D)} {k : List D → R (List D)} (h : PostI C W F H σ Q (x.bind k))
    (hk : ∀ ds vs F1 H1, Ext F H F1 H1 → Paired (P1 F1 H1) ds vs → PostI C W F1 H1 σ Q (k ds) → Q1 vs H1) : PostA C W F H σ P1 Q1 x := by
  cases x with
  | ok d => exact fun vs F' H' e r => hk d vs F' H' e r (PostI.ext e h)
  | ex c vs => exact h
  | bad => exact h

variable {fs : SS → R (List D)}
theorem s_range1 (v : Pq X C W) (hg : Gl X "range") (hm : X.mg "range" = none) (ha : PA X [a] (tAB C W fs)) (hs : starEach [a] X.env = [(false, eval a X.env)] := by rfl) : PI X tg (.Call (.Name "range" p) [a] [] pos) (tI C W (iRg1 fs)) := by
  refine pi_imp (pi_range1 hg hm ha hs) fun σ H Q ⟨F, sd, S, h⟩ => ?_
  refine ⟨F, sd, S, PostI.bindA (P1 := pB C) h fun ds vs F1 H1 e1 r h1 => ?_⟩
  unfold rng1 at h1
  split at h1
  · split at h1
    · rename_i j hz
      obtain ⟨u, rfl, b⟩ := pair1 r
      have hz : -4611686018427387904 ≤ j ∧ j < 4611686018427387904 := hz
      refine ⟨j, by rw [bor_int b], by omega, by omega, ?_⟩
      have e := h1 (Itr 0 (j - 0).toNat) F1 H1 (Ext.refl e1.fh) it_range
      rw [Int.sub_zero] at e
      exact e
    · exact h1.elim
  · exact h1.elim
theorem s_range2 (v : Pq X C W) (hg : Gl X "range") (hm : X.mg "range" = none) (ha : PA X [a, b] (tAB C W fs)) (hs : starEach [a, b] X.env = [(false, eval a X.env), (false, eval b X.env)] := by rfl) (hs2 : starEach [b] X.env = [(false, eval b X.env)] := by rfl) : PI X tg (.Call (.Name "range" p) [a, b] [] pos) (tI C W (iRg2 fs)) := by
  refine pi_imp (pi_range2 hg hm ha hs hs2) fun σ H Q ⟨F, sd, S, h⟩ => ?_
  refine ⟨F, sd, S, PostI.bindA (P1 := pB C) h fun ds vs F1 H1 e1 r h1 => ?_⟩
  unfold rng2 at h1
  split at h1
  · split at h1
    · rename_i i j hz
      obtain ⟨u, w, rfl, b1, b2⟩ := pair2 r
      have hz : (-4611686018427387904 ≤ i ∧ i < 4611686018427387904) ∧ (-4611686018427387904 ≤ j ∧ j < 4611686018427387904) := hz
      refine ⟨i, j, by rw [bor_int b1, bor_int b2], by omega, ?_⟩
      exact h1 (Itr i (j - i).toNat) F1 H1 (Ext.refl e1.fh) it_range
    · exact h1.elim
  · exact h1.elim
theorem s_range3 (v : Pq X C W) (hg : Gl X "range") (hm : X.mg "range" = none) (ha : PA X [a, b, c] (tAB C W fs)) (hs : starEach [a, b, c] X.env = (false, eval a X.env) :: starEach [b, c] X.env := by rfl) (hpl : (backTo pos (starEach [b, c] X.env)).any (·.1) = false := by rfl) : PI X tg (.Call (.Name "range" p) [a, b, c] [] pos) (tI C W (iRg3 fs)) := by
  refine pi_imp (pi_range3 hg hm ha hs hpl) fun σ H Q ⟨F, sd, S, h⟩ => ?_
  refine ⟨F, sd, S, PostI.bindA (P1 := pB C) h fun ds vs F1 H1 e1 r h1 => ?_⟩
  unfold rng3 at h1
  split at h1
  · split at h1
    · rename_i i j c hz
      have r3 : ∃ u w x, vs = [u, w, x] ∧ Bor C.G F1 H1 (.int i) u ∧ Bor C.G F1 H1 (.int j) w ∧ Bor C.G F1 H1 (.int c) x := by
        cases r with
        | cons r t =>
          obtain ⟨u, w, rfl, b1, b2⟩ := pair2 t
          exact ⟨_, _, _, rfl, r, b1, b2⟩
      obtain ⟨u, w, x, rfl, b1, b2, b3⟩ := r3
      have hz : (-4611686018427387904 ≤ i ∧ i < 4611686018427387904) ∧ (-4611686018427387904 ≤ j ∧ j < 4611686018427387904) ∧ c = -1 := hz
      obtain ⟨z1, z2, rfl⟩ := hz
      refine ⟨i, j, -1, (i - j).toNat, by rw [bor_int b1, bor_int b2, bor_int b3], RgC.neg (by omega) (by omega) (by omega) (by omega), ?_⟩
      exact h1 (Itc i (-1) (i - j).toNat) F1 H1 (Ext.refl e1.fh) it_rangeC
    · exact h1.elim
  · exact h1.elim
end

def forL (step : D → SS → RS) : List D → SS → RS
  | [], s => .nx s
  | d :: ds, s => match step d s with
    | .nx s' => forL step ds s'
    | .ct s' => forL step ds s'
    | .bk s' => .nx s'
    | .rt b d => .rt b d
    | .ex c vs s' => .ex c vs s'
    | .rm d s' => .rm d s'
    | .rn j s' => .rn j s'
    | .bad => .bad
def turn (ft : FG) (f : SS → RS) : D → SS → RS := fun d s => match ft d s with
  | some s' => f s'
  | none => .bad
def sFor (fi : SS → R (List D)) (ft : FG) (f : SS → RS) : SS → RS := fun s => match fi s with
  | .ok ds => forL (turn ft f) ds s
  | .ex c vs => .ex c vs s
  | .bad => .bad
section
variable {X : Cx} {C : CT} {W : WX} {e tg iter : Expr} {fi : SS → R (List D)} {pos : Pos} {ft : FG} {vs : List Nat} {f : SS → RS} {body : List Stmt}
theorem for_run {En : Ends} {J : It} {F1 H1 : Hp} {sd : SS} {σ : L2.St} {ds : List D} (S : StR C F1 H1 sd σ) (ok : ItOk C.G F1 J ds) (h : PostS C W F1 sd σ En (forL (turn ft f) ds sd)) :
    ∃ Wv : Nat → Nat → L2.St → Hp → Prop, (∃ m, Wv 0 m σ H1) ∧ ∀ i m σ H, Wv i m σ H →
      (J.stop i H ∧ En.nx σ H) ∨ (J.go i H ∧ ∃ N : L2.St → Hp → Prop, (∀ σ' H', N σ' H' → ∃ m', m' < m ∧ Wv (i + 1) m' σ' H') ∧ ∀ x H', J.yld i H x H' → tG C ft vs x σ H' fun σ2 H2 => tS C W f { En with nx := N, ct := N, bk := En.nx } σ2 H2) := by
  refine ⟨fun i m σ' H' => m = ds.length - i ∧ i ≤ ds.length ∧ ∃ F' s', StR C F' H' s' σ' ∧ Same F1 F' ∧ Lk sd σ s' σ' ∧ PostS C W F' s' σ' En (forL (turn ft f) (ds.drop i) s'),
    ⟨ds.length, by omega, Nat.zero_le _, F1, sd, S, Same.refl F1, Lk.refl, h⟩, ?_⟩
  rintro i m σ' H' ⟨rfl, hi, F', s', S', f1, l1, h1⟩
  by_cases hlt : i < ds.length
  · refine .inr ⟨ok.go i F' H' f1 S'.fh hlt, fun σ2 H2 => ∃ F2 s2, StR C F2 H2 s2 σ2 ∧ Same F1 F2 ∧ Lk sd σ s2 σ2 ∧ PostS C W F2 s2 σ2 En (forL (turn ft f) (ds.drop (i + 1)) s2), fun σ2 H2 n2 => ⟨ds.length - (i + 1), by omega, rfl, hlt, n2⟩, fun x H'' y => ?_⟩
    obtain ⟨F'', d, e2, hd, r⟩ := ok.yld i F' H' x H'' f1 S'.fh hlt y
    have hdr : ds.drop i = d :: ds.drop (i + 1) := by
      obtain ⟨hi', e⟩ := List.getElem?_eq_some_iff.mp hd
      rw [List.drop_eq_getElem_cons hi', e]
    rw [hdr] at h1
    unfold forL turn at h1
    cases q : ft d s' with
    | none => rw [q] at h1; exact h1.elim
    | some s2 =>
      rw [q] at h1
      refine ⟨F'', s', d, s2, S'.mono e2, r, q, fun σ2 S2 l2 _ => ⟨F'', s2, S2, ?_⟩⟩
      have h1 : PostS C W F' s' σ' En (match f s2 with
        | .nx s' => forL (turn ft f) (ds.drop (i + 1)) s'
        | .ct s' => forL (turn ft f) (ds.drop (i + 1)) s'
        | .bk s' => .nx s'
        | .rt b d => .rt b d
        | .ex c vs s' => .ex c vs s'
        | .rm d s' => .rm d s'
        | .rn j s' => .rn j s'
        | .bad => .bad) := h1
      cases k : f s2 with
      | nx s3 =>
        rw [k] at h1
        exact fun F3 H3 σ3 S3 f3 l3 => ⟨F3, s3, S3, f1.trans (e2.ff.trans f3), l1.trans (l2.trans l3), PostS.mono (e2.ff.trans f3) (l2.trans l3) h1⟩
      | ct s3 =>
        rw [k] at h1
        exact fun F3 H3 σ3 S3 f3 l3 => ⟨F3, s3, S3, f1.trans (e2.ff.trans f3), l1.trans (l2.trans l3), PostS.mono (e2.ff.trans f3) (l2.trans l3) h1⟩
      | bk s3 =>
        rw [k] at h1
        exact fun F3 H3 σ3 S3 f3 l3 => h1 F3 H3 σ3 S3 (e2.ff.trans f3) (l2.trans l3)
      | rt b d =>
        rw [k] at h1
        cases b with
        | false => exact fun v F3 H3 e3 f3 r3 => h1 v F3 H3 e3 (e2.ff.trans f3) r3
        | true => exact fun v F3 H3 e3 f3 r3 => h1 v F3 H3 e3 (e2.ff.trans f3) r3
      | ex c vs s3 =>
        rw [k] at h1
        exact fun cls dx F3 H3 σ3 S3 f3 l3 r3 => h1 cls dx F3 H3 σ3 S3 (e2.ff.trans f3) (l2.trans l3) r3
      | rm d s3 =>
        rw [k] at h1
        exact fun v F3 H3 σ3 S3 f3 l3 r3 => h1 v F3 H3 σ3 S3 (e2.ff.trans f3) (l2.trans l3) r3
      | rn j s3 =>
        rw [k] at h1
        exact fun v F3 H3 σ3 S3 f3 l3 r3 => h1 v F3 H3 σ3 S3 (e2.ff.trans f3) (l2.trans l3) r3
      | bad => rw [k] at h1; exact h1.elim
  · have e : i = ds.length := by omega
    subst e
    rw [List.drop_length] at h1
    exact .inl ⟨ok.stop _ F' H' f1 S'.fh (Nat.le_refl _), h1 F' H' σ' S' (Same.refl _) Lk.refl⟩
theorem s_for (v : Pl X C W) (hi : PI X tg iter (tI C W fi)) (hg : PG X tg (tG C ft vs)) (hb : PSs X body (tS C W f)) (hs : ∀ x, foldedSetIterable iter X.env x = pure x := by intro _; rfl) : PS X (.For tg iter body [] pos) (tS C W (sFor fi ft f)) := by
  refine ps_imp (ps_for v.pass v.calm hi hg hb hs) fun En σ H ⟨F, sd, S, h⟩ => ?_
  refine ⟨F, sd, S, ?_⟩
  unfold sFor at h
  cases q : fi sd with
  | ok ds =>
    rw [q] at h
    exact fun J F1 H1 e1 ok => for_run (S.mono e1) ok (PostS.mono e1.ff Lk.refl h)
  | ex c vs =>
    rw [q] at h
    exact fun cls dx F' H' e x => h cls dx F' H' σ (S.mono e) e.ff Lk.refl x
  | bad => rw [q] at h; exact h

def whL (fc : SS → R D) (f : SS → RS) : Nat → SS → RS
  | 0, _ => .bad
  | n + 1, s => match fc s with
    | .ok (.bl true) => (match f s with
      | .nx s' => whL fc f n s'
      | .ct s' => whL fc f n s'
      | .bk s' => .nx s'
      | .rt b d => .rt b d
      | .ex c vs s' => .ex c vs s'
      | .rm d s' => .rm d s'
      | .rn j s' => .rn j s'
      | .bad => .bad)
    | .ok (.bl false) => .nx s
    | .ex c vs => .ex c vs s
    | _ => .bad
def sWh (n : Nat) (fc : SS → R D) (f : SS → RS) : SS → RS := whL fc f n
theorem s_wh (v : Pq X C W) (n : Nat) {fc : SS → R D} (hc : PT X e (tT C W fc)) (hb : PSs X body (tS C W f)) : PS X (.While e body [] pos) (tS C W (sWh n fc f)) := by
  refine ps_imp (ps_while v.pass hc hb) fun En σ H ⟨F, sd, S, h⟩ => ?_
  refine ⟨fun m σ' H' => ∃ F' s', StR C F' H' s' σ' ∧ Same F F' ∧ Lk sd σ s' σ' ∧ PostS C W F' s' σ' En (whL fc f m s'), ⟨n, F, sd, S, Same.refl F, Lk.refl, h⟩, ?_⟩
  rintro m σ1 H1 ⟨F1, s1, S1, f1, l1, h1⟩
  cases m with
  | zero => exact h1.elim
  | succ m =>
    refine ⟨F1, s1, S1, ?_⟩
    unfold whL at h1
    cases q : fc s1 with
    | ok d =>
      rw [q] at h1
      cases d with
      | bl b =>
        intro F2 H2 e2
        cases b with
        | true =>
          rw [if_pos rfl]
          refine ⟨fun σ3 H3 => ∃ F3 s3, StR C F3 H3 s3 σ3 ∧ Same F F3 ∧ Lk sd σ s3 σ3 ∧ PostS C W F3 s3 σ3 En (whL fc f m s3), fun σ3 H3 n3 => ⟨m, Nat.lt_succ_self m, n3⟩, F2, s1, S1.mono e2, ?_⟩
          have h1 : PostS C W F1 s1 σ1 En (match f s1 with
            | .nx s' => whL fc f m s'
            | .ct s' => whL fc f m s'
            | .bk s' => .nx s'
            | .rt b d => .rt b d
            | .ex c vs s' => .ex c vs s'
            | .rm d s' => .rm d s'
            | .rn j s' => .rn j s'
            | .bad => .bad) := h1
          cases k : f s1 with
          | nx s3 =>
            rw [k] at h1
            exact fun F3 H3 σ3 S3 f3 l3 => ⟨F3, s3, S3, f1.trans (e2.ff.trans f3), l1.trans l3, PostS.mono (e2.ff.trans f3) l3 h1⟩
          | ct s3 =>
            rw [k] at h1
            exact fun F3 H3 σ3 S3 f3 l3 => ⟨F3, s3, S3, f1.trans (e2.ff.trans f3), l1.trans l3, PostS.mono (e2.ff.trans f3) l3 h1⟩
          | bk s3 =>
            rw [k] at h1
            exact fun F3 H3 σ3 S3 f3 l3 => h1 F3 H3 σ3 S3 (e2.ff.trans f3) l3
          | rt b d =>
            rw [k] at h1
            cases b with
            | false => exact fun v F3 H3 e3 f3 r3 => h1 v F3 H3 e3 (e2.ff.trans f3) r3
            | true => exact fun v F3 H3 e3 f3 r3 => h1 v F3 H3 e3 (e2.ff.trans f3) r3
          | ex c vs s3 =>
            rw [k] at h1
            exact fun cls dx F3 H3 σ3 S3 f3 l3 r3 => h1 cls dx F3 H3 σ3 S3 (e2.ff.trans f3) l3 r3
          | rm d s3 =>
            rw [k] at h1
            exact fun v F3 H3 σ3 S3 f3 l3 r3 => h1 v F3 H3 σ3 S3 (e2.ff.trans f3) l3 r3
          | rn j s3 =>
            rw [k] at h1
            exact fun v F3 H3 σ3 S3 f3 l3 r3 => h1 v F3 H3 σ3 S3 (e2.ff.trans f3) l3 r3
          | bad => rw [k] at h1; exact h1.elim
        | false =>
          rw [if_neg Bool.false_ne_true]
          exact h1 F2 H2 σ1 (S1.mono e2) e2.ff Lk.refl
      | _ => exact h1.elim
    | ex c vs =>
      rw [q] at h1
      exact fun cls dx F' H' e x => h1 cls dx F' H' σ1 (S1.mono e) e.ff Lk.refl x
    | bad => rw [q] at h1; exact h1.elim
end
end
end Z
namespace Z
noncomputable section
open PySem PySem.Spec PySem.P PyProof.Rows L2

abbrev WNo : WX := fun _ _ _ _ => False
theorem Pl.blk {X : Cx} {C : CT} {W : WX} (v : Pl X C W) (s : Shared) (H : Hp) (scope : Scope) (cenv : PySem.Env) (fp : List Addr) : Pl (X.blk s H scope cenv fp) C WNo :=
  ⟨⟨v.K, v.hu, takes0, PassesOwn.never⟩, v.calm⟩
def mapD (step : D → R (Option D)) : List D → R (List D)
  | [] => .ok []
  | d :: ds => match step d with
    | .ok (some x) => (match mapD step ds with
      | .ok xs => .ok (x :: xs)
      | _ => .bad)
    | .ok none => mapD step ds
    | _ => .bad
def wipeS (s : SS) : List Nat → SS
  | [] => s
  | v :: vs => (wipeS s vs).set v .no
def cStep (ft : FG) (vs : List Nat) (fc fe : SS → R D) (s : SS) (d : D) : R (Option D) := match ft d (wipeS s vs) with
  | some s' => (match fc s' with
    | .ok (.bl true) => (match fe s' with
      | .ok x => .ok (some x)
      | _ => .bad)
    | .ok (.bl false) => .ok none
    | _ => .bad)
  | none => .bad
def eComp (fi : SS → R (List D)) (ft : FG) (vs : List Nat) (fc fe : SS → R D) : SS → R D := fun s => (fi s).bind fun ds => match mapD (cStep ft vs fc fe s) ds with
  | .ok xs => if xs.length ≤ SZ then .ok (.lst xs) else .bad
  | _ => .bad
def cYes : SS → R D := fun _ => .ok (.bl true)
theorem wipeS_len (s : SS) : ∀ vs, (wipeS s vs).length = s.length
  | [] => rfl
  | v :: vs => by unfold wipeS; rw [List.length_set, wipeS_len s vs]
theorem wipeS_get {s : SS} {x : Sl} {i : Nat} (hx : x ≠ .no) : ∀ {vs : List Nat}, (wipeS s vs)[i]? = some x → s[i]? = some x ∧ i ∉ vs
  | [], h => ⟨h, by simp⟩
  | v :: vs, h => by
    unfold wipeS at h
    by_cases hi : v = i
    · subst hi
      by_cases hv : v < (wipeS s vs).length
      · rw [List.getElem?_set_self hv] at h
        cases h
        exact (hx rfl).elim
      · rw [List.getElem?_eq_none (by simpa using hv)] at h
        cases h
    · rw [List.getElem?_set_ne hi] at h
      obtain ⟨h1, h2⟩ := wipeS_get hx h
      exact ⟨h1, by simp only [List.mem_cons, not_or]; exact ⟨fun e => hi e.symm, h2⟩⟩
theorem wipe_get {σ : L2.St} {i : Nat} : ∀ {vs : List Nat}, i ∉ vs → (wipe σ vs)[i]? = σ[i]?
  | [], _ => rfl
  | v :: vs, h => by
    simp only [List.mem_cons, not_or] at h
    unfold wipe
    rw [List.getElem?_set_ne (Ne.symm h.1)]
    exact wipe_get h.2
theorem wipe_in {σ : L2.St} {i : Nat} : ∀ {vs : List Nat}, i ∈ vs → i < σ.length → (wipe σ vs)[i]? = some none
  | [], h, _ => by cases h
  | v :: vs, h, hl => by
    unfold wipe
    by_cases hi : v = i
    · subst hi
      rw [List.getElem?_set_self (by rw [wipe_length]; exact hl)]
    · rw [List.getElem?_set_ne hi]
      have h2 : i ∈ vs := by
        rcases List.mem_cons.mp h with e | e
        · exact (hi e.symm).elim
        · exact e
      exact wipe_in h2 hl
theorem wipe_but {σ σ' : L2.St} {vs : List Nat} (b : But vs (wipe σ vs) σ') : wipe σ' vs = wipe σ vs := by
  have hl : σ'.length = σ.length := b.1.trans (wipe_length σ vs)
  refine List.ext_getElem? fun i => ?_
  by_cases hi : i ∈ vs
  · by_cases hlt : i < σ.length
    · rw [wipe_in hi hlt, wipe_in hi (by rw [hl]; exact hlt)]
    · rw [List.getElem?_eq_none (by rw [wipe_length]; omega), List.getElem?_eq_none (by rw [wipe_length]; omega)]
  · rw [wipe_get hi, b.2 i hi]
theorem StR.wiped {C : CT} {F H : Hp} {s : SS} {σ : L2.St} (S : StR C F H s σ) (vs : List Nat) : StR C F H (wipeS s vs) (wipe σ vs) := by
  have ow : ∀ {i : Nat} {d : D}, (wipeS s vs)[i]? = some (.ow d) ∨ (wipeS s vs)[i]? = some (.lk d) → (s[i]? = some (.ow d) ∨ s[i]? = some (.lk d)) ∧ i ∉ vs := fun {i d} h => by
    rcases h with h | h
    · obtain ⟨h1, h2⟩ := wipeS_get (by intro z; cases z) h
      exact ⟨.inl h1, h2⟩
    · obtain ⟨h1, h2⟩ := wipeS_get (by intro z; cases z) h
      exact ⟨.inr h1, h2⟩
  refine ⟨S.ext, by rw [wipeS_len, wipe_length]; exact S.len, fun i d h => ?_, fun i d h => ?_, fun i j d e a h1 h2 h3 h4 => ?_, S.nt.step (fun i k d h => ?_) (fun i k l h => ?_) (fun j e b q z => ?_) (Same.refl F) fun b o h1 h2 _ => ⟨h1, h2⟩⟩
  · obtain ⟨h1, h2⟩ := wipeS_get (by intro z; cases z) h
    rw [wipe_get h2]
    exact S.sh i d h1
  · obtain ⟨h1, h2⟩ := ow h
    rw [wipe_get h2]
    exact S.ow i d h1
  · obtain ⟨a1, a2⟩ := ow h1
    obtain ⟨b1, b2⟩ := ow h2
    rw [wipe_get a2] at h3
    rw [wipe_get b2] at h4
    exact S.dis i j d e a a1 b1 h3 h4
  · obtain ⟨h1, h2⟩ := wipeS_get (by intro z; cases z) h
    exact ⟨h1, wipe_get h2⟩
  · obtain ⟨h1, h2⟩ := wipeS_get (by intro z; cases z) h
    exact ⟨h1, wipe_get h2⟩
  · obtain ⟨a1, a2⟩ := ow q
    rw [wipe_get a2] at z
    exact .inl ⟨j, e, a1, z⟩
section
variable {X : Cx} {C : CT} {W : WX} {elt tg iter : Expr} {ifs : List Expr} {fi : SS → R (List D)} {pos : Pos} {ft : FG} {vs : List Nat} {fc fe : SS → R D}
theorem c_none : PTs X [] (tT C WNo cYes) := ⟨fun pins s σ H Q I ⟨F, sd, S, h⟩ => pts_nil.run pins s σ H Q I (h F H (Ext.refl S.fh))⟩
theorem c_one {e : Expr} (h : PT X e (tT C WNo fc)) : PTs X [e] (tT C WNo fc) := pts_one h
theorem comp_run {F1 H1 H₀ : Hp} {sd : SS} {σ : L2.St} {Q : VK} {ds : List D} {J : It} (S : StR C F1 H1 sd σ) (e₀ : Same H₀ H1) (ok : ItOk C.G F1 J ds)
    (h : PostE C W F1 H1 σ (pF C H₀) Q (match mapD (cStep ft vs fc fe sd) ds with | .ok xs => if xs.length ≤ SZ then .ok (.lst xs) else .bad | _ => .bad)) :
    ∀ L, H1 L = none → ∃ Wv : Nat → Nat → Hp → Prop, (∃ m, Wv 0 m (upd H1 L (.lst []))) ∧ ∀ i m H, Wv i m H →
      (J.stop i H ∧ Q (.ref L) H) ∨ (J.go i H ∧ ∃ Nx : Hp → Prop, (∀ H', Nx H' → ∃ m', m' < m ∧ Wv (i + 1) m' H') ∧ ∀ x H', J.yld i H x H' → tG C ft vs x (wipe σ vs) H' fun σ2 H2 => wipe σ2 vs = wipe σ vs ∧ tT C WNo fc σ2 H2 fun b H3 =>
        if b = true then tD C WNo fe σ2 H3 fun y H4 => ∃ acc, H4 L = some (.lst acc) ∧ acc.length < sizeLine ∧ Nx (upd H4 L (.lst (acc ++ [y]))) else Nx H3) := by
  intro L hL
  obtain ⟨xs, hx, hz, h⟩ : ∃ xs, mapD (cStep ft vs fc fe sd) ds = .ok xs ∧ xs.length ≤ SZ ∧ PostE C W F1 H1 σ (pF C H₀) Q (.ok (.lst xs)) := by
    cases q : mapD (cStep ft vs fc fe sd) ds with
    | ok xs =>
      rw [q] at h
      by_cases hz : xs.length ≤ SZ
      · have h : PostE C W F1 H1 σ (pF C H₀) Q (if xs.length ≤ SZ then .ok (.lst xs) else .bad) := h
        rw [if_pos hz] at h
        exact ⟨xs, rfl, hz, h⟩
      · have h : PostE C W F1 H1 σ (pF C H₀) Q (if xs.length ≤ SZ then .ok (.lst xs) else .bad) := h
        rw [if_neg hz] at h
        exact h.elim
    | ex c vs => rw [q] at h; exact h.elim
    | bad => rw [q] at h; exact h.elim
  have hFL : F1 L = none := S.fh.free hL
  refine ⟨fun i m H => m = ds.length - i ∧ i ≤ ds.length ∧ ∃ F acc dacc rest, Ext F1 H1 F H ∧ F L = none ∧ H L = some (.lst acc) ∧ RepL C.G F dacc acc ∧ mapD (cStep ft vs fc fe sd) (ds.drop i) = .ok rest ∧ xs = dacc ++ rest,
    ⟨ds.length, by omega, Nat.zero_le _, F1, [], [], xs, Ext.newOwn S.fh hL, hFL, upd_same, RepL.nil, hx, rfl⟩, ?_⟩
  rintro i m H ⟨rfl, hi, F, acc, dacc, rest, e1, f1, hl, ra, hm, hxs⟩
  by_cases hlt : i < ds.length
  · refine .inr ⟨ok.go i F H e1.ff e1.fh hlt, fun H' => ∃ F acc dacc rest, Ext F1 H1 F H' ∧ F L = none ∧ H' L = some (.lst acc) ∧ RepL C.G F dacc acc ∧ mapD (cStep ft vs fc fe sd) (ds.drop (i + 1)) = .ok rest ∧ xs = dacc ++ rest,
      fun H' n => ⟨ds.length - (i + 1), by omega, rfl, hlt, n⟩, fun x H' y => ?_⟩
    obtain ⟨F', d, e2, hd, r⟩ := ok.yld i F H x H' e1.ff e1.fh hlt y
    have hdr : ds.drop i = d :: ds.drop (i + 1) := by
      obtain ⟨hi', e⟩ := List.getElem?_eq_some_iff.mp hd
      rw [List.drop_eq_getElem_cons hi', e]
    rw [hdr] at hm
    unfold mapD at hm
    have hst : ∀ {q : R (Option D)}, cStep ft vs fc fe sd d = q → q ≠ .bad ∧ ∃ s', ft d (wipeS sd vs) = some s' ∧ ((∃ x, fc s' = .ok (.bl true) ∧ fe s' = .ok x ∧ q = .ok (some x)) ∨ (fc s' = .ok (.bl false) ∧ q = .ok none)) := by
      intro q hq
      subst hq
      unfold cStep at hm ⊢
      cases k : ft d (wipeS sd vs) with
      | none => rw [k] at hm; cases hm
      | some s' =>
        rw [k] at hm
        simp only at hm ⊢
        cases k2 : fc s' with
        | ok b =>
          rw [k2] at hm
          cases b with
          | bl b =>
            cases b with
            | true =>
              simp only at hm ⊢
              cases k3 : fe s' with
              | ok x => exact ⟨fun z => (by cases z), s', rfl, .inl ⟨x, k2, k3, rfl⟩⟩
              | ex c vs => rw [k3] at hm; cases hm
              | bad => rw [k3] at hm; cases hm
            | false => exact ⟨fun z => (by cases z), s', rfl, .inr ⟨k2, rfl⟩⟩
          | _ => cases hm
        | ex c vs => rw [k2] at hm; cases hm
        | bad => rw [k2] at hm; cases hm
    obtain ⟨_, s', k1, k2⟩ := hst rfl
    have S' : StR C F' H' (wipeS sd vs) (wipe σ vs) := ((S.mono e1).mono e2).wiped vs
    refine ⟨F', wipeS sd vs, d, s', S', r, k1, fun σ2 S2 l2 b2 => ⟨wipe_but b2, F', s', S2, ?_⟩⟩
    rcases k2 with ⟨y, c1, c2, c3⟩ | ⟨c1, c3⟩
    · rw [c1]
      intro F3 H3 e3
      rw [if_pos rfl]
      refine ⟨F3, s', S2.mono e3, ?_⟩
      rw [c2]
      intro u F4 H4 e4 r4
      have e24 : Ext F H F4 H4 := (e2.trans e3).trans e4
      have f4 : F4 L = none := e24.ow L _ hl f1
      rw [c3] at hm
      have hm : (match mapD (cStep ft vs fc fe sd) (ds.drop (i + 1)) with | .ok xs => R.ok (y :: xs) | _ => R.bad) = .ok rest := hm
      cases k5 : mapD (cStep ft vs fc fe sd) (ds.drop (i + 1)) with
      | ok rest' =>
        rw [k5] at hm
        have hm : R.ok (y :: rest') = .ok rest := hm
        cases hm
        have hlen : acc.length < sizeLine := by
          rw [ra.length, sizeLine_eq]
          have : xs.length = dacc.length + (rest'.length + 1) := by rw [hxs]; simp
          have hz' : xs.length ≤ 16777216 := (sz_is ▸ hz)
          omega
        refine ⟨acc, e24.hh _ _ hl, hlen, F4, acc ++ [u], dacc ++ [y], rest', ?_, f4, upd_same, (RepL.mono e24.ff ra).append (RepL.cons r4 RepL.nil), rfl, by rw [hxs]; simp⟩
        have e14 := e1.trans e24
        refine ⟨e14.ff, fun b o z => ?_, fun b o z => ?_, fun b o z1 z2 => e14.ow b o z1 z2⟩
        · have hb : b ≠ L := ne_of_none z hL
          rw [upd_ne hb]
          exact e14.hh _ _ z
        · have hb : b ≠ L := ne_of_none z f4
          rw [upd_ne hb]
          exact e14.fh _ _ z
      | ex c vs => rw [k5] at hm; cases hm
      | bad => rw [k5] at hm; cases hm
    · rw [c1]
      intro F3 H3 e3
      rw [if_neg Bool.false_ne_true]
      rw [c3] at hm
      have e23 : Ext F H F3 H3 := e2.trans e3
      exact ⟨F3, acc, dacc, rest, e1.trans e23, e23.ow L _ hl f1, e23.hh _ _ hl, RepL.mono e23.ff ra, hm, hxs⟩
  · have e : i = ds.length := by omega
    subst e
    rw [List.drop_length] at hm
    cases hm
    rw [List.append_nil] at hxs
    subst hxs
    exact .inl ⟨ok.stop _ F H e1.ff e1.fh (Nat.le_refl _), h _ F H e1 ⟨L, rfl, e₀.free hL, f1, acc, hl, ra⟩⟩
theorem comp_read {σ : L2.St} {H : Hp} {Q : VK} (h : tF C W (eComp fi ft vs fc fe) σ H Q) : tLc (tI C W fi) (tG C ft vs) (tT C WNo fc) (tD C WNo fe) vs σ H Q := by
  obtain ⟨F, sd, S, h⟩ := h
  refine ⟨F, sd, S, ?_⟩
  unfold eComp at h
  cases q : fi sd with
  | ok ds =>
    rw [q] at h
    exact fun J F1 H1 e1 ok => comp_run (S.mono e1) e1.hh ok (PostE.ext e1 h)
  | ex c vs => rw [q] at h; exact h
  | bad => rw [q] at h; exact h
theorem s_comp (v : Pl X C W) {scope : Scope} {own : List (Str × Nat)} (hN : X.N.Nodup) (hi : PI X tg iter (tI C W fi)) (hv : own.map (·.2) = vs)
    (hg : ∀ (s : Shared) (H : Hp) (Ca : Addr) (cl : List (Str × Addr)) (fp : List Addr), Pl (X.blk s H scope (compEnvC scope cl Ca X.env) fp) C WNo → PG (X.blk s H scope (compEnvC scope cl Ca X.env) fp) tg (tG C ft vs))
    (ht : ∀ (s : Shared) (H : Hp) (Ca : Addr) (cl : List (Str × Addr)) (fp : List Addr), Pl (X.blk s H scope (compEnvC scope cl Ca X.env) fp) C WNo → PTs (X.blk s H scope (compEnvC scope cl Ca X.env) fp) ifs (tT C WNo fc))
    (he : ∀ (s : Shared) (H : Hp) (Ca : Addr) (cl : List (Str × Addr)) (fp : List Addr), Pl (X.blk s H scope (compEnvC scope cl Ca X.env) fp) C WNo → PE (X.blk s H scope (compEnvC scope cl Ca X.env) fp) elt (tD C WNo fe))
    (ok : BlkOk X.N X.env.scope scope own := by exact blkOk_by (by decide +kernel))
    (hs : ∀ x, foldedSetIterable iter X.env x = pure x := by intro _; rfl) : PE X (.ListComp elt [⟨tg, iter, ifs, 0⟩] scope pos) (tF C W (eComp fi ft vs fc fe)) := by
  subst hv
  exact pe_imp (pe_lc v.calm hN hi ok (fun s H Ca cl fp => hg s H Ca cl fp (v.blk ..)) (fun s H Ca cl fp => ht s H Ca cl fp (v.blk ..)) (fun s H Ca cl fp => he s H Ca cl fp (v.blk ..)) hs) fun σ H Q h => comp_read h
end
end
end Z
namespace Z
noncomputable section
open PySem PySem.Spec PySem.P PyProof.Rows L2

def tyN : D → Option String
  | .non => some "NoneType" | .bl _ => some "bool" | .int _ => some "int" | .str _ => some "str" | .lst _ => some "list" | .tup _ => some "tuple" | .dic _ _ => some "dict"
  | _ => none
def tyIs (t T : String) : Bool := t == T || (t == "bool" && T == "int")
def isiD (T : String) (d : D) : R D := match tyN d with
  | some t => .ok (.bl (tyIs t T))
  | none => .bad
theorem bor_ty {G : GE} {K : PySem.W.Frag} (hK : K = G.K) {F H : Hp} (S : Same F H) {d : D} {v : V} {t : String} (ht : tyN d = some t) (b : Bor G F H d v) : TyX K H v (.type t) := by
  subst hK
  cases d with
  | non => cases ht; rw [bor_non b]; exact .base .non
  | bl _ => cases ht; rw [bor_bl b]; exact .base (.bl _)
  | int _ => cases ht; rw [bor_int b]; exact .base (.int _)
  | str _ => cases ht; rw [(bor_str b).1]; exact .base (.str _)
  | lst _ =>
    cases ht
    obtain ⟨a, xs, rfl, q, _⟩ := bor_lst S b
    rcases q with (q | ⟨o, q⟩) | ⟨o, its, n, hk, hc, _⟩
    · exact .base (.lst q)
    · exact .base (.frz q)
    · exact .kList hk hc
  | tup _ =>
    cases ht
    obtain ⟨a, xs, rfl, q, _⟩ := bor_tup S b
    rcases q with (q | ⟨o, q⟩) | ⟨o, its, n, hk, hc, _⟩
    · exact .base (.tup q)
    · exact .fTuple q
    · exact .kTuple hk hc
  | dic _ _ =>
    cases ht
    obtain ⟨a, kvs, rfl, q, _⟩ := bor_dic S b
    rcases q with q | ⟨o, q⟩
    · exact .base (.dK q)
    · exact .fDict q
  | _ => cases ht
def tyOk (T : String) : Bool := ["bool", "int", "str", "list", "tuple", "dict"].contains T
theorem kit_all {K : PySem.W.Frag} {t T : String} {d : D} (ht : tyN d = some t) (hT : tyOk T = true) : PySem.W.kitOne K (.type t) (.type T) = some (tyIs t T) := by
  have hT : T ∈ ["bool", "int", "str", "list", "tuple", "dict"] := by simpa [tyOk] using hT
  have h : ∀ t ∈ ["NoneType", "bool", "int", "str", "list", "tuple", "dict"], ∀ T ∈ ["bool", "int", "str", "list", "tuple", "dict"], kitB t T = some (tyIs t T) := by decide +kernel
  refine kit_ty (h t ?_ T hT)
  cases d <;> cases ht <;> simp
section
variable {X : Cx} {C : CT} {W : WX} {a b c e : Expr} {es : List Expr} {fa fb fc fe f : SS → R D} {pos p p2 apos : Pos} {fs : SS → R (List D)} {x : Str}
theorem s_isi (v : Pq X C W) (T : String) (hT : tyOk T = true) {y : Str} (hg : Gl X "isinstance") (hm : X.mg "isinstance" = none) (hgT : Gl X y) (hmT : X.mg y = none) (hvT : bootBuiltins y = some (.type T)) (ha : PE X a (tB C W fa))
    (hn : y ≠ "__name__" := by decide) (hdb : (y == ("__debug__" : Str)) = false := by decide)
    (he : starEach [a, .Name y p2] X.env = (false, eval a X.env) :: starEach [.Name y p2] X.env := by rfl) (he2 : starEach [.Name y p2] X.env = (false, eval (.Name y p2) X.env) :: starEach [] X.env := by rfl)
    (hpl : (backTo pos (starEach [.Name y p2] X.env)).any (·.1) = false := by rfl) : PE X (.Call (.Name "isinstance" p) [a, .Name y p2] [] pos) (tD C W (eUn (isiD T) fa)) := by
  refine pe_imp (pe_callB call_isi hg hm (by decide +kernel) (pa_cons ha (pa_cons (pe_bltn (v := .ty T) hgT hmT hvT rfl hn hdb) pa_nil he2) he) (by decide) (by decide) he hpl) fun σ H Q ⟨F, sd, S, h⟩ => ?_
  refine ⟨F, sd, S, PostE.bind h fun d u F1 H1 e1 b1 h1 => ?_⟩
  unfold isiD at h1
  split at h1
  · rename_i t ht
    exact ⟨u, .ty T, .type t, .type T, _, rfl, .ty T, bor_ty v.K e1.fh ht b1, kit_all ht hT, h1 _ F1 H1 (Ext.refl e1.fh) (rep_bl.mpr rfl)⟩
  · exact h1.elim

def listD : List D → R D
  | [.lst x] => .ok (.lst x)
  | [.tup x] => .ok (.lst x)
  | _ => .bad
theorem PostVF.lst {G : GE} {F H : Hp} {Q : VK} {ds : List D} {vs : List V} (S : Same F H) (r : RepL G F ds vs) (p : PostVF G F H Q (.ok (.lst ds))) : ∀ a, H a = none → Q (.ref a) (upd H a (.lst vs)) := fun a ha =>
  p a F (upd H a (.lst vs)) (Ext.newOwn S ha) ha (S.free ha) ⟨vs, upd_same, r⟩
def tupleD : List D → R D
  | [.lst x] => .ok (.tup x)
  | [.tup x] => .ok (.tup x)
  | _ => .bad
theorem tupleD_ne : NoExL tupleD := fun x c vs h => by unfold tupleD at h; split at h <;> cases h
theorem call_tupleD (hK : X.K = C.G.K) : CallR X (.type "tuple") (rC C.G tupleD) := by
  intro pins s σ H xs us Q I r h
  obtain ⟨F, ds, S, r2, p⟩ := h
  unfold tupleD at p
  split at p
  · obtain ⟨v, rfl, b⟩ := pair1 r2
    obtain ⟨a, ys, rfl, q, rr⟩ := bor_lst S b
    rw [← hK] at q
    exact call_tuple_of pins s σ H _ us Q I r ⟨a, ys, rfl, .inl ⟨q, p.tup S rr⟩⟩
  · obtain ⟨v, rfl, b⟩ := pair1 r2
    have b' := b
    obtain ⟨a, ys, rfl, q, rr⟩ := bor_tup S b
    rw [← hK] at q
    exact call_tuple_of pins s σ H _ us Q I r ⟨a, ys, rfl, .inr ⟨q, p _ F H (Ext.refl S) (b'.elim id fun ⟨_, _, _, z⟩ => z.elim)⟩⟩
  · exact p.elim
def intsD : List D → Option (List Int)
  | [] => some []
  | .int i :: r => (intsD r).map (i :: ·)
  | _ :: _ => none
theorem ints_rep {G : GE} {F : Hp} : ∀ {ds : List D} {vs : List V} {ns : List Int}, intsD ds = some ns → RepL G F ds vs → vs = ns.map V.int
  | [], vs, ns, h, r => by
    unfold RepL at r
    cases h
    exact r
  | d :: ds, vs, ns, h, r => by
    cases d with
    | int i =>
      unfold intsD at h
      unfold RepL at r
      obtain ⟨v, t, rfl, r1, r2⟩ := r
      cases k : intsD ds with
      | none => rw [k] at h; cases h
      | some ms =>
        rw [k] at h
        cases h
        rw [rep_int.mp r1, ints_rep k r2]
        rfl
    | _ => cases h
def sumD : List D → R D
  | [.lst x] => match intsD x with
    | some ns => .ok (.int ns.sum)
    | none => .bad
  | _ => .bad
theorem sumD_ne : NoExL sumD := fun x c vs h => by
  unfold sumD at h
  split at h <;> first | cases h | (split at h <;> cases h)
theorem call_sumD (v : Pl X C W) : CallR X (.builtin "sum") (rC C.G sumD) := by
  intro pins s σ H xs us Q I r h
  obtain ⟨F, ds, S, r2, p⟩ := h
  unfold sumD at p
  split at p
  · split at p
    · rename_i ns hn
      obtain ⟨u, rfl, b⟩ := pair1 r2
      obtain ⟨a, ys, rfl, q, rr⟩ := bor_lst S b
      rw [ints_rep hn rr, ← v.K] at q
      exact cr_sum v.calm pins s σ H _ us Q I r ⟨a, ns, rfl, q, p.int S⟩
    · exact p.elim
  · exact p.elim
def max2D : List D → R D
  | [.int i, .int j] => .ok (.int (if j > i then j else i))
  | _ => .bad
def min2D : List D → R D
  | [.int i, .int j] => .ok (.int (if j < i then j else i))
  | _ => .bad
theorem max2D_ne : NoExL max2D := fun x c vs h => by unfold max2D at h; split at h <;> cases h
theorem min2D_ne : NoExL min2D := fun x c vs h => by unfold min2D at h; split at h <;> cases h
theorem call_max2D (v : Pl X C W) : CallR X (.builtin "max") (rC C.G max2D) := by
  intro pins s σ H xs us Q I r h
  obtain ⟨F, ds, S, r2, p⟩ := h
  unfold max2D at p
  split at p
  · obtain ⟨u, w, rfl, b1, b2⟩ := pair2 r2
    exact call_max2 v.calm pins s σ H _ us Q I r ⟨_, _, by rw [bor_int b1, bor_int b2], p.int S⟩
  · exact p.elim
theorem call_min2D (v : Pl X C W) : CallR X (.builtin "min") (rC C.G min2D) := by
  intro pins s σ H xs us Q I r h
  obtain ⟨F, ds, S, r2, p⟩ := h
  unfold min2D at p
  split at p
  · obtain ⟨u, w, rfl, b1, b2⟩ := pair2 r2
    exact call_min2 v.calm pins s σ H _ us Q I r ⟨_, _, by rw [bor_int b1, bor_int b2], p.int S⟩
  · exact p.elim
def strsD : List D → Option (List (List Nat))
  | [] => some []
  | .str i :: r => (strsD r).map (i :: ·)
  | _ :: _ => none
def toS (x : List Nat) : Str := ⟨x.toArray⟩
theorem strs_rep {G : GE} {F : Hp} : ∀ {ds : List D} {vs : List V} {ns : List (List Nat)}, strsD ds = some ns → RepL G F ds vs → vs = (ns.map toS).map V.str ∧ ∀ x ∈ ns, okS x = true
  | [], vs, ns, h, r => by
    unfold RepL at r
    cases h
    exact ⟨r, fun _ z => by cases z⟩
  | d :: ds, vs, ns, h, r => by
    cases d with
    | str i =>
      unfold strsD at h
      unfold RepL at r
      obtain ⟨v, t, rfl, r1, r2⟩ := r
      cases k : strsD ds with
      | none => rw [k] at h; cases h
      | some ms =>
        rw [k] at h
        cases h
        obtain ⟨e1, e2⟩ := strs_rep k r2
        obtain ⟨e3, e4⟩ := rep_str.mp r1
        refine ⟨by rw [e3, e1]; rfl, fun x hx => ?_⟩
        rcases List.mem_cons.mp hx with z | z
        · rw [z]; exact e4
        · exact e2 x z
    | _ => cases h
def joinD : D → D → R D
  | .str a, .lst xs => match strsD xs with
    | some ys => if (ys.map (·.length)).sum + ys.length * a.length ≤ SZ then .ok (.str (TL.joinL a ys)) else .bad
    | none => .bad
  | _, _ => .bad
theorem joinD_ne : NoEx2 joinD := fun x y c vs h => by
  unfold joinD at h
  split at h <;> first | cases h | (split at h <;> first | cases h | (split at h <;> cases h))
theorem joinL_mem {a : List Nat} {c : Nat} : ∀ {ys : List (List Nat)}, c ∈ TL.joinL a ys → c ∈ a ∨ ∃ y ∈ ys, c ∈ y := by
  intro ys
  induction ys with
  | nil => intro h; simp [TL.joinL] at h
  | cons x r ih =>
    intro h
    cases r with
    | nil => exact .inr ⟨x, by simp, by simpa [TL.joinL] using h⟩
    | cons y r =>
      have e : TL.joinL a (x :: y :: r) = x ++ (a ++ TL.joinL a (y :: r)) := by simp [TL.joinL]
      rw [e, List.mem_append, List.mem_append] at h
      rcases h with h | h | h
      · exact .inr ⟨x, by simp, h⟩
      · exact .inl h
      · rcases ih h with h | ⟨z, h1, h2⟩
        · exact .inl h
        · exact .inr ⟨z, List.mem_cons_of_mem _ h1, h2⟩
theorem okS_join {a : List Nat} {ys : List (List Nat)} (ha : okS a = true) (hy : ∀ y ∈ ys, okS y = true) : okS (TL.joinL a ys) = true := by
  unfold okS at *
  rw [List.all_eq_true] at *
  intro c hc
  rcases joinL_mem hc with h | ⟨y, h1, h2⟩
  · exact ha c h
  · exact List.all_eq_true.mp (hy y h1) c h2
def eM (T : String) (g : D → List D → R D) (fa : SS → R D) (fs : SS → R (List D)) : SS → R D := fun s => (fa s).bind fun x => if tyN x = some T then (fs s).bind (g x) else .bad
def NoExM (g : D → List D → R D) : Prop := ∀ x xs c vs, g x xs ≠ .ex c vs
def rM (G : GE) (g : D → List D → R D) : V → List V → Hp → VK → Prop := fun x vs H Q => ∃ F d ds, Same F H ∧ Bor G F H d x ∧ Paired (Bor G F H) ds vs ∧ PostV G F H Q (g d ds)
theorem bor_tyV {G : GE} {K : PySem.W.Frag} (hK : K = G.K) {F H : Hp} (S : Same F H) {d : D} {u : V} {T : String} (hT : T = "str" ∨ T = "list") (ht : tyN d = some T) (b1 : Bor G F H d u) : tyV K T u H := by
  subst hK
  cases d <;> (unfold tyN at ht) <;> (cases ht) <;> first
    | (rcases hT with h | h <;> exact absurd h (by decide))
    | skip
  · rw [(bor_str b1).1]
    exact (rfl : "str" = "str")
  · obtain ⟨a, xs, rfl, q, _⟩ := bor_lst S b1
    exact .inl ⟨rfl, xs, q⟩
variable {g : D → List D → R D} {T id : String} {name : Str}
theorem s_me (v : Pq X C W) (hT : T = "str" ∨ T = "list") (hg : NoExM g) (pa : PlainAttrs T) (slot : Slot T name id) (hty : typeOf (.builtin id) = pure (.type "method_descriptor")) (hm : MtR X id (rM C.G g)) (ho : PE X a (tB C W fa)) (ha : PA X (e :: es) (tAB C W fs))
    (hbase : attributeBase a name X.env (eval a X.env) = eval a X.env := by rfl)
    (hfew : ((backTo pos (starEach (e :: es) X.env)).all (fun x => !x.1) && (backToKw pos (keywordEach [] X.env)).all (fun x => x.1.isSome)
      && decide ((e :: es).length + ([] : List Keyword).length + (if ([] : List Keyword).isEmpty then 0 else 1) < 30)) = true := by rfl)
    (hline : (apos.endLine == pos.line) = true := by rfl) (hs : starEach (e :: es) X.env = (false, eval e X.env) :: starEach es X.env := by rfl) (hplain : (backTo pos (starEach es X.env)).any (·.1) = false := by rfl) :
    PE X (.Call (.Attribute a name apos) (e :: es) [] pos) (tD C W (eM T g fa fs)) := by
  refine pe_imp (pe_bm pa slot hty hm ho ha hbase hfew hline hs hplain) fun σ H Q h => ?_
  obtain ⟨F, sd, S, h⟩ := h
  refine ⟨F, sd, S, PostE.bind h fun d u F1 H1 e1 b1 h1 => ?_⟩
  by_cases ht : tyN d = some T
  · rw [if_pos ht] at h1
    refine ⟨bor_tyV v.K e1.fh hT ht b1, ?_⟩
    refine ⟨F1, sd, S.mono e1, PostE.bindA h1 fun ds vs F2 H2 e2 r h2 => ?_⟩
    exact ⟨F2, d, ds, e2.fh, Bor.mono e2 b1, r, h2.toV (hg d ds)⟩
  · rw [if_neg ht] at h1
    exact h1.elim
def joinM (x : D) : List D → R D
  | [y] => joinD x y
  | _ => .bad
theorem joinM_ne : NoExM joinM := fun x xs c vs h => by
  unfold joinM at h
  split at h
  · exact joinD_ne _ _ _ _ h
  · cases h
theorem mt_joinM (hK : X.K = C.G.K) : MtR X "str.join" (rM C.G joinM) := by
  intro pins s σ H x xs v us Q I rx rs h
  obtain ⟨F, d, ds, S, b1, r, p⟩ := h
  unfold joinM at p
  split at p
  · obtain ⟨u, rfl, b2⟩ := pair1 r
    unfold joinD at p
    split at p
    · rename_i z xs
      split at p
      · rename_i ys hy
        split at p
        · rename_i hz
          obtain ⟨ea, ka⟩ := bor_str b1
          obtain ⟨p', vs, e', q, rr⟩ := bor_lst S b2
          obtain ⟨ev, kv⟩ := strs_rep hy rr
          rw [ev, ← hK] at q
          refine mt_join pins s σ H x _ v us Q I rx rs ⟨_, p', ys.map toS, ea, by rw [e'], .inl q, ?_, ?_⟩
          · have l1 : (⟨z.toArray⟩ : Str).length = z.length := List.size_toArray
            rw [l1, List.length_map]
            have : (ys.map toS).map (·.length) = ys.map (·.length) := SX.lens ys
            rw [this]
            exact (sz_is ▸ hz)
          · have : Txt.join (⟨z.toArray⟩ : Str) (ys.map toS) = ⟨(TL.joinL z ys).toArray⟩ := SX.join_S z ys
            rw [this]
            exact p.str S (okS_join ka kv)
        · exact p.elim
      · exact p.elim
    · exact p.elim
  · exact p.elim
theorem s_join (v : Pq X C W) (ho : PE X a (tB C W fa)) (ha : PA X [e] (tAB C W fs))
    (hbase : attributeBase a "join" X.env (eval a X.env) = eval a X.env := by rfl)
    (hfew : ((backTo pos (starEach [e] X.env)).all (fun x => !x.1) && (backToKw pos (keywordEach [] X.env)).all (fun x => x.1.isSome)
      && decide (([e] : List Expr).length + ([] : List Keyword).length + (if ([] : List Keyword).isEmpty then 0 else 1) < 30)) = true := by rfl)
    (hline : (apos.endLine == pos.line) = true := by rfl) (hs : starEach [e] X.env = (false, eval e X.env) :: starEach [] X.env := by rfl) (hplain : (backTo pos (starEach [] X.env)).any (·.1) = false := by rfl) :
    PE X (.Call (.Attribute a "join" apos) [e] [] pos) (tD C W (eM "str" joinM fa fs)) :=
  s_me v (.inl rfl) joinM_ne PySem.F.plainAttrs_str PySem.F.slot_str_join PySem.F.type_str_join (mt_joinM v.K) ho ha hbase hfew hline hs hplain
def idxS (x : D) : List D → R D
  | [y] => match x, y with
    | .str z, .str [c] => if c ∈ z then .ok (.int (z.findIdx (· == c) : Nat)) else .bad
    | _, _ => .bad
  | _ => .bad
theorem idxS_ne : NoExM idxS := fun x xs c vs h => by
  unfold idxS at h
  split at h
  · split at h <;> first | cases h | (split at h <;> cases h)
  · cases h
theorem mt_idxS : MtR X "str.index" (rM C.G idxS) := by
  intro pins s σ H x xs v us Q I rx rs h
  obtain ⟨F, d, ds, S, b1, r, p⟩ := h
  unfold idxS at p
  split at p
  · obtain ⟨u, rfl, b2⟩ := pair1 r
    split at p
    · rename_i z c
      split at p
      · rename_i hc
        obtain ⟨rfl, ka⟩ := bor_str b1
        obtain ⟨rfl, kb⟩ := bor_str b2
        obtain ⟨t, rfl⟩ := rx
        obtain ⟨u', rfl, t', rfl⟩ := Vals.one rs
        have e1 : (⟨#[c]⟩ : Str) = ⟨[c].toArray⟩ := rfl
        rcases StrLaws.occ_head (⟨z.toArray⟩ : Str) ⟨#[c]⟩ 1 (Nat.le_refl 1) with ⟨_, hn⟩ | ⟨i, r, hi, hat, hno⟩
        · exfalso
          obtain ⟨i, hi⟩ := List.mem_iff_getElem?.mp hc
          exact hn i ((StrLaws.subAt_one _ c i).mpr (by simpa using hi))
        · have hat' : z[i]? = some c := by simpa using (StrLaws.subAt_one _ c i).mp hat
          have hno' : ∀ k, k < i → z[k]? ≠ some c := fun k hk e => hno k hk ((StrLaws.subAt_one _ c k).mpr (by simpa using e))
          have hidx : z.findIdx (· == c) = i := by
            obtain ⟨hl, e⟩ := List.getElem?_eq_some_iff.mp hat'
            refine (List.findIdx_eq hl).mpr ⟨by simp [e], fun j hj => ?_⟩
            have := hno' j hj
            rw [List.getElem?_eq_getElem (by omega)] at this
            simpa using fun z => this (by rw [z])
          rw [hidx] at p
          exact PySem.SC.index hi ⟨.int (i : Nat), H, I.tok _, ⟨_, rfl⟩, p.int S⟩
      · exact p.elim
    · exact p.elim
  · exact p.elim
def idxL (x : D) : List D → R D
  | [y] => match x with
    | .lst zs => if depL zs ≤ 63 ∧ dep y ≤ 64 then (if zs.any (fun z => eqv z y) then .ok (.int (zs.findIdx (fun z => eqv z y) : Nat)) else .bad) else .bad
    | _ => .bad
  | _ => .bad
theorem idxL_ne : NoExM idxL := fun x xs c vs h => by
  unfold idxL at h
  split at h
  · split at h
    · split at h
      · split at h <;> cases h
      · cases h
    · cases h
  · cases h
theorem pyL_get : ∀ (ds : List D) (j : Nat), (pyL ds)[j]? = (ds[j]?).map py
  | [], j => by simp [pyL]
  | d :: ds, 0 => by simp [pyL]
  | d :: ds, j + 1 => by simpa [pyL] using pyL_get ds j
theorem depL_mem : ∀ {ds : List D} {d : D}, d ∈ ds → dep d ≤ depL ds
  | [], d, h => by cases h
  | x :: ds, d, h => by
    unfold depL
    rcases List.mem_cons.mp h with e | e
    · subst e; omega
    · have := depL_mem e; omega
theorem mt_idxL (v : Pq X C W) : MtR X "list.index" (rM C.G idxL) := by
  intro pins s σ H x xs u us Q I rx rs h
  obtain ⟨F, d, ds, S, b1, r, p⟩ := h
  unfold idxL at p
  split at p
  · rename_i y
    obtain ⟨w, rfl, b2⟩ := pair1 r
    split at p
    · rename_i zs
      split at p
      · rename_i hz
        split at p
        · rename_i ha
          obtain ⟨a1, a2⟩ := bor_dp v.K S (d := .lst zs) (by unfold dep; omega) b1
          obtain ⟨c1, c2⟩ := bor_dp v.K S hz.2 b2
          obtain ⟨ad, vs, rfl, _, _⟩ := bor_lst S b1
          unfold py at a1 a2
          obtain ⟨z, hzm, hze⟩ := List.any_eq_true.mp ha
          have hlt : zs.findIdx (fun z => eqv z y) < zs.length := List.findIdx_lt_length_of_exists ⟨z, hzm, hze⟩
          refine mt_indexD v.hu pins s σ H _ _ u us Q I rx rs ⟨ad, w, py y, pyL zs, zs.findIdx (fun z => eqv z y), py (zs[zs.findIdx (fun z => eqv z y)]), rfl, rfl, a1, c1, a2, c2, ?_, ?_, fun m z' hm he => ?_, p.int S⟩
          · rw [pyL_get, List.getElem?_eq_getElem hlt]
            rfl
          · rw [py_eqv _ _ (Nat.le_trans (depL_mem (List.getElem_mem hlt)) (by omega)) hz.2]
            exact List.findIdx_getElem (w := hlt)
          · rw [pyL_get, List.getElem?_eq_getElem (by omega)] at he
            cases he
            rw [py_eqv _ _ (Nat.le_trans (depL_mem (List.getElem_mem _)) (by omega)) hz.2]
            simpa using List.not_of_lt_findIdx hm
        · exact p.elim
      · exact p.elim
    · exact p.elim
  · exact p.elim
theorem s_idxS (v : Pq X C W) (ho : PE X a (tB C W fa)) (ha : PA X [e] (tAB C W fs))
    (hbase : attributeBase a "index" X.env (eval a X.env) = eval a X.env := by rfl)
    (hfew : ((backTo pos (starEach [e] X.env)).all (fun x => !x.1) && (backToKw pos (keywordEach [] X.env)).all (fun x => x.1.isSome)
      && decide (([e] : List Expr).length + ([] : List Keyword).length + (if ([] : List Keyword).isEmpty then 0 else 1) < 30)) = true := by rfl)
    (hline : (apos.endLine == pos.line) = true := by rfl) (hs : starEach [e] X.env = (false, eval e X.env) :: starEach [] X.env := by rfl) (hplain : (backTo pos (starEach [] X.env)).any (·.1) = false := by rfl) :
    PE X (.Call (.Attribute a "index" apos) [e] [] pos) (tD C W (eM "str" idxS fa fs)) :=
  s_me v (.inl rfl) idxS_ne PySem.F.plainAttrs_str PySem.F.slot_str_index PySem.F.type_str_index mt_idxS ho ha hbase hfew hline hs hplain
theorem s_idxL (v : Pq X C W) (ho : PE X a (tB C W fa)) (ha : PA X [e] (tAB C W fs))
    (hbase : attributeBase a "index" X.env (eval a X.env) = eval a X.env := by rfl)
    (hfew : ((backTo pos (starEach [e] X.env)).all (fun x => !x.1) && (backToKw pos (keywordEach [] X.env)).all (fun x => x.1.isSome)
      && decide (([e] : List Expr).length + ([] : List Keyword).length + (if ([] : List Keyword).isEmpty then 0 else 1) < 30)) = true := by rfl)
    (hline : (apos.endLine == pos.line) = true := by rfl) (hs : starEach [e] X.env = (false, eval e X.env) :: starEach [] X.env := by rfl) (hplain : (backTo pos (starEach [] X.env)).any (·.1) = false := by rfl) :
    PE X (.Call (.Attribute a "index" apos) [e] [] pos) (tD C W (eM "list" idxL fa fs)) :=
  s_me v (.inr rfl) idxL_ne PySem.F.plainAttrs_list PySem.F.slot_list_index PySem.F.type_list_index (mt_idxL v) ho ha hbase hfew hline hs hplain
end
end
end Z
namespace Z
noncomputable section
open PySem PySem.Spec PySem.P PyProof.Rows L2

theorem StR.upOw {C : CT} {F H : Hp} {s : SS} {σ : L2.St} {i : Nat} {d d' : D} {a : Addr} {o : HO} (S : StR C F H s σ) (hs : s[i]? = some (.ow d)) (hσ : σ[i]? = some (some (.ref a))) (r : OwR C.G F (upd H a o) a d') : StR C F (upd H a o) (s.set i (.ow d')) σ := by
  have hi : i < s.length := (List.getElem?_eq_some_iff.mp hs).1
  obtain ⟨b, h1, h2, h3, h4⟩ := S.ow i d (.inl hs)
  rw [hσ] at h1
  cases h1
  have other : ∀ (j : Nat) (e : D) (b : Addr), j ≠ i → s[j]? = some (.ow e) ∨ s[j]? = some (.lk e) → σ[j]? = some (some (.ref b)) → b ≠ a := fun j e b hj q2 q3 z => by
    subst z
    exact hj (S.dis j i e d b q2 (.inl hs) q3 hσ)
  refine ⟨⟨S.ext.ff, fun b u e => ?_, fun b u e => ?_, S.ext.ow⟩, by rw [List.length_set]; exact S.len, fun j e q => ?_, fun j e q => ?_, fun j k e e' b q1 q2 q3 q4 => ?_, (S.nt.step (fun j k e q => ?_) (fun j k l q => ?_) (fun j e b q z => ?_) (Same.refl F) fun b o z1 z2 z3 => ?_).up⟩
  · rw [upd_ne (ne_of_none e h2)]
    exact S.ext.hh _ _ e
  · rw [upd_ne (ne_of_none e h3)]
    exact S.ext.fh _ _ e
  · by_cases hij : i = j
    · subst hij
      rw [List.getElem?_set_self hi] at q
      cases q
    · rw [List.getElem?_set_ne hij] at q
      exact S.sh j e q
  · by_cases hij : i = j
    · subst hij
      rw [List.getElem?_set_self hi] at q
      rcases q with q | q
      · cases q
        exact ⟨a, hσ, h2, h3, r⟩
      · cases q
    · rw [List.getElem?_set_ne hij] at q
      obtain ⟨b, e1, e2, e3, e4⟩ := S.ow j e q
      have hb := other j e b (Ne.symm hij) q e1
      exact ⟨b, e1, e2, e3, e4.mono (Same.refl F) fun u z => by rw [upd_ne hb]; exact z⟩
  · by_cases hij : i = j
    · by_cases hik : i = k
      · exact hij.symm.trans hik
      · subst hij
        rw [List.getElem?_set_ne hik] at q2
        rw [hσ] at q3
        cases q3
        exact (other k e' _ (Ne.symm hik) q2 q4 rfl).elim
    · rw [List.getElem?_set_ne hij] at q1
      by_cases hik : i = k
      · subst hik
        rw [hσ] at q4
        cases q4
        exact (other j e _ (Ne.symm hij) q1 q3 rfl).elim
      · rw [List.getElem?_set_ne hik] at q2
        exact S.dis j k e e' b q1 q2 q3 q4
  · by_cases hij : i = j
    · subst hij
      rw [List.getElem?_set_self hi] at q
      cases q
    · rw [List.getElem?_set_ne hij] at q
      exact ⟨q, rfl⟩
  · by_cases hij : i = j
    · subst hij
      rw [List.getElem?_set_self hi] at q
      cases q
    · rw [List.getElem?_set_ne hij] at q
      exact ⟨q, rfl⟩
  · by_cases hij : i = j
    · subst hij
      exact .inl ⟨i, d, .inl hs, z⟩
    · rw [List.getElem?_set_ne hij] at q
      exact .inl ⟨j, e, q, z⟩
  · have hb : b ≠ a := fun y => by subst y; exact z3 i d (.inl hs) hσ
    rw [upd_ne hb]
    exact ⟨z1, z2⟩
theorem lk_ow {s : SS} {σ : L2.St} {i : Nat} {d d' : D} (hs : s[i]? = some (.ow d)) : Lk s σ (s.set i (.ow d')) σ := lk_one (fun y e => by rw [hs] at e; cases e; rfl) fun _ _ => rfl
def owL (s : SS) (i : Nat) : Option (List D) := match s[i]? with
  | some (.ow (.lst xs)) => some xs
  | _ => none
theorem owL_some {s : SS} {i : Nat} {xs : List D} (h : owL s i = some xs) : s[i]? = some (.ow (.lst xs)) := by
  unfold owL at h
  split at h
  · rename_i e
    cases h
    exact e
  · cases h
section
variable {X : Cx} {C : CT} {W : WX} {a b c e : Expr} {es : List Expr} {fa fb fc fe f : SS → R D} {pos pos' p p2 apos : Pos} {fs : SS → R (List D)} {x y : Str} {i j : Nat}
def sMut (i : Nat) (fe : SS → R D) (g : List D → D → R (List D)) : SS → RS := fun s => match owL s i with
  | some xs => sE fe (fun d s => match g xs d with
    | .ok ys => if ys.length ≤ SZ then .nx (s.set i (.ow (.lst ys))) else .bad
    | _ => .bad) s
  | none => .bad
def gApp (xs : List D) (d : D) : R (List D) := .ok (xs ++ [d])
def sApp (i : Nat) (fe : SS → R D) : SS → RS := sMut i fe gApp
theorem post_mut {F H : Hp} {sd : SS} {σ : L2.St} {En : Ends} {g : List D → D → R (List D)} {P : Hp → Hp → D → V → Prop} {Q : VK} {xs : List D} (S : StR C F H sd σ) (hx : owL sd i = some xs) (h : PostS C W F sd σ En (sMut i fe g sd))
    (hk : ∀ d v F1 H1 a vs ys, Ext F H F1 H1 → P F1 H1 d v → σ[i]? = some (some (.ref a)) → F1 a = none → H1 a = some (.lst vs) → RepL C.G F1 xs vs → g xs d = .ok ys → ys.length ≤ SZ →
      (∀ us, RepL C.G F1 ys us → En.nx σ (upd H1 a (.lst us))) → Q v H1) : PostE C W F H σ P Q (fe sd) := by
  unfold sMut at h
  rw [hx] at h
  refine postS_E S h fun d v F1 H1 e1 p1 h1 => ?_
  cases q : g xs d with
  | ok ys =>
    rw [q] at h1
    dsimp only at h1
    split at h1
    · rename_i hz
      have S1 := S.mono e1
      have ho := owL_some hx
      obtain ⟨a, e2, e3, e4, vs, e5, e6⟩ := S1.ow i _ (.inl ho)
      refine hk d v F1 H1 a vs ys e1 p1 e2 e4 e5 e6 q hz fun us r => ?_
      exact h1 F1 _ σ (S1.upOw ho e2 ⟨us, upd_same, r⟩) e1.ff (lk_ow ho)
    · exact h1.elim
  | ex c vs => rw [q] at h1; exact h1.elim
  | bad => rw [q] at h1; exact h1.elim
theorem mut_slot {F H : Hp} {sd : SS} {σ : L2.St} {En : Ends} {g : List D → D → R (List D)} (S : StR C F H sd σ) (h : PostS C W F sd σ En (sMut i fe g sd)) : ∃ xs a vs, owL sd i = some xs ∧ σ[i]? = some (some (.ref a)) ∧ H a = some (.lst vs) := by
  cases q : owL sd i with
  | none => unfold sMut at h; rw [q] at h; exact h.elim
  | some xs =>
    obtain ⟨a, e2, e3, e4, vs, e5, e6⟩ := S.ow i _ (.inl (owL_some q))
    exact ⟨xs, a, vs, rfl, e2, e5⟩
theorem s_app (i : Nat) (he : PE X e (tD C W fe)) (hN : X.N[i]? = some x := by rfl) (hv : Vis X.env.scope x := by first | exact Or.inl rfl | exact Or.inr (Or.inl rfl) | exact Or.inr (Or.inr rfl)) (hd : (x == ("__debug__" : Str)) = false := by decide)
    (hcd : (x == ("__classdict__" : Str)) = false := by decide)
    (hbase : attributeBase (.Name x p) "append" X.env (eval (.Name x p) X.env) = eval (.Name x p) X.env := by rfl)
    (hfew : ((backTo pos (starEach [e] X.env)).all (fun x => !x.1) && (backToKw pos (keywordEach [] X.env)).all (fun x => x.1.isSome)
      && decide (([e] : List Expr).length + ([] : List Keyword).length + (if ([] : List Keyword).isEmpty then 0 else 1) < 30)) = true := by rfl)
    (hline : (apos.endLine == pos.line) = true := by rfl) (hs : starEach [e] X.env = (false, eval e X.env) :: starEach [] X.env := by rfl) (hplain : (backTo pos (starEach [] X.env)).any (·.1) = false := by rfl)
    (hsw : swapsWith (.Call (.Attribute (.Name x p) "append" apos) [e] [] pos) none pos'.line X.env = pure false := by rfl) :
    PS X (.Expr (.Call (.Attribute (.Name x p) "append" apos) [e] [] pos) pos') (tS C W (sApp i fe)) := by
  refine ps_imp (ps_expr (pe_bm PySem.F.plainAttrs_list PySem.F.slot_list_append PySem.F.type_list_append mt_append (pe_var (i := i) hN hv hd hcd) (pa_cons he pa_nil hs) hbase hfew hline hs hplain) hsw) fun En σ H ⟨F, sd, S, h⟩ => ?_
  obtain ⟨xs, a, vs, hx, e2, e5⟩ := mut_slot S h
  refine ⟨_, e2, .inl ⟨rfl, vs, SqL.of e5⟩, F, sd, S, post_mut S hx h fun d u F1 H1 a' vs' ys e1 p1 e2' fa e5' r hg hz hn => ?_⟩
  rw [e2] at e2'
  cases e2'
  cases hg
  refine ⟨a, vs', u, rfl, rfl, e5', ?_, hn _ (r.append (RepL.cons p1 RepL.nil))⟩
  have hz : (xs ++ [d]).length ≤ 16777216 := (sz_is ▸ hz)
  rw [r.length, sizeLine_eq]
  rw [List.length_append, List.length_singleton] at hz
  omega
end

def PostC (G : GE) (F H : Hp) (Q : VK) (E : XK) (fr : Bool) : R D → Prop
  | .ok d => if fr = true then ∀ a F' H', Ext F H F' H' → H a = none → F' a = none → OwR G F' H' a d → Q (.ref a) H' else ∀ v F' H', Ext F H F' H' → Rep G F' d v → Q v H'
  | .ex c vs => ∀ cls dx F' H', Ext F H F' H' → XR G F' c vs cls dx → E cls dx H'
  | .bad => False
def spD (G : GE) (n : Nat) (g : List D → R D) (fr : Bool) : Sp := fun vs H Q E => ∃ F ds, Same F H ∧ ds.length = n ∧ RepL G F ds vs ∧ PostC G F H Q E fr (g ds)
def runB (fr : Bool) (m : Nat) (f : SS → RS) (ds : List D) : R D := match f (ds.map Sl.sh ++ List.replicate (m - ds.length) .no) with
  | .nx _ => if fr = true then .bad else .ok .non
  | .rt b d => if b = fr then .ok d else .bad
  | .ex c vs _ => .ex c vs
  | _ => .bad
structure Kn (P : Program) (w : World) (K : PySem.W.Frag) (mg : Str → Option Value) (base : Heap) (G : GE) (x : Str) (n : Nat) (g : List D → R D) (fr : Bool) (k : Nat) : Prop where
  ex : ∃ f fd ps, FnOk P w K mg base (L2.CX P w) k f fd ps (spD G n g fr) ∧ mg x = some (.ref f) ∧ PySem.W.keepIn K (.ref f) = true ∧ Binds K fd ps []
section
variable {X : Cx} {C : CT} {W : WX} {a b c e : Expr} {es : List Expr} {fa fb fc fe f : SS → R D} {pos pos' p p2 apos : Pos} {fs : SS → R (List D)} {x y : Str} {n k : Nat} {g : List D → R D}
theorem call_ok {F H : Hp} {σ : L2.St} {Q : VK} {ds : List D} {fr : Bool} (h : PostE C W F H σ (if fr = true then pF C H else pD C) Q (g ds)) : PostC C.G F H Q (WE W σ) fr (g ds) := by
  cases q : g ds with
  | ok d =>
    rw [q] at h
    cases fr with
    | true =>
      rw [if_pos rfl] at h
      unfold PostC
      dsimp only
      rw [if_pos rfl]
      exact fun a F' H' e h1 h2 h3 => h _ F' H' e ⟨a, rfl, h1, h2, h3⟩
    | false =>
      rw [if_neg Bool.false_ne_true] at h
      unfold PostC
      dsimp only
      rw [if_neg Bool.false_ne_true]
      exact h
  | ex c vs => rw [q] at h; exact h
  | bad => rw [q] at h; exact h
theorem s_call (v : Pq X C W) (F : Kn X.prog X.w X.K X.mg X.base C.G x n g false k) (hr : Room k X.A) (hg : Gl X x) (hn : ∀ s ds, fs s = .ok ds → ds.length = n) (ha : PA X (a :: es) (tA C W fs)) (hdb : (x == ("__debug__" : Str)) = false := by decide)
    (he : starEach (a :: es) X.env = (false, eval a X.env) :: starEach es X.env := by rfl) (hpl : (backTo pos (starEach es X.env)).any (·.1) = false := by rfl) : PE X (.Call (.Name x p) (a :: es) [] pos) (tD C W (eCall g fs)) := by
  obtain ⟨f, fd, ps, F1, F2, F3, F4⟩ := F.ex
  refine pe_imp (pe_callS F1 hr hg F2 F3 F4 (fun σ => passAt v.tk σ) ha hdb he hpl) fun σ H Q ⟨F, sd, S, h⟩ => ?_
  refine ⟨F, sd, S, ?_⟩
  unfold eCall at h
  cases q : fs sd with
  | ok ds =>
    rw [q] at h
    exact fun vs F' H' e r => ⟨F', ds, e.fh, hn sd ds q, pairL r, call_ok (fr := false) (PostE.ext e h)⟩
  | ex c vs => rw [q] at h; exact h
  | bad => rw [q] at h; exact h
theorem s_callF (v : Pq X C W) (F : Kn X.prog X.w X.K X.mg X.base C.G x n g true k) (hr : Room k X.A) (hg : Gl X x) (hn : ∀ s ds, fs s = .ok ds → ds.length = n) (ha : PA X (a :: es) (tA C W fs)) (hdb : (x == ("__debug__" : Str)) = false := by decide)
    (he : starEach (a :: es) X.env = (false, eval a X.env) :: starEach es X.env := by rfl) (hpl : (backTo pos (starEach es X.env)).any (·.1) = false := by rfl) : PE X (.Call (.Name x p) (a :: es) [] pos) (tF C W (eCall g fs)) := by
  obtain ⟨f, fd, ps, F1, F2, F3, F4⟩ := F.ex
  refine pe_imp (pe_callS F1 hr hg F2 F3 F4 (fun σ => passAt v.tk σ) ha hdb he hpl) fun σ H Q ⟨F, sd, S, h⟩ => ?_
  refine ⟨F, sd, S, ?_⟩
  unfold eCall at h
  cases q : fs sd with
  | ok ds =>
    rw [q] at h
    refine fun vs F' H' e r => ⟨F', ds, e.fh, hn sd ds q, pairL r, call_ok (fr := true) ?_⟩
    rw [if_pos rfl]
    exact PostE.imp (PostE.ext e h) fun _ _ _ _ _ ⟨a, h1, h2, h3⟩ => ⟨a, h1, e.hh.free h2, h3⟩
  | ex c vs => rw [q] at h; exact h
  | bad => rw [q] at h; exact h
theorem n_nil : ∀ s ds, aNil s = .ok ds → ds.length = 0 := fun s ds h => by cases h; rfl
theorem n_cons (h : ∀ s ds, fs s = .ok ds → ds.length = n) : ∀ s ds, aCons fa fs s = .ok ds → ds.length = n + 1 := fun s ds q => by
  unfold aCons at q
  cases k : fa s with
  | ok d =>
    cases k2 : fs s with
    | ok es =>
      simp only [k, k2, R.bind] at q
      cases q
      simp [h s es k2]
    | ex c vs => simp only [k, k2, R.bind] at q; cases q
    | bad => simp only [k, k2, R.bind] at q; cases q
  | ex c vs => simp only [k, R.bind] at q; cases q
  | bad => simp only [k, R.bind] at q; cases q
end
theorem start_str {C : CT} {F H : Hp} {ds : List D} {vs : List V} {N : List Str} (hC : C.F0 = F ∧ C.H0 = H) (s : Same F H) (r : RepL C.G F ds vs) (hn : ds.length ≤ N.length) : StR C F H (ds.map Sl.sh ++ List.replicate (N.length - ds.length) .no) (L2.start N vs) := by
  obtain ⟨rfl, rfl⟩ := hC
  have hl := r.length
  have no : ∀ {i : Nat} {x : Sl}, x ≠ .no → (∀ d, x ≠ .sh d) → (ds.map Sl.sh ++ List.replicate (N.length - ds.length) Sl.no)[i]? ≠ some x := fun {i x} h1 h2 e => by
    by_cases hi : i < ds.length
    · rw [List.getElem?_append_left (by simpa using hi), List.getElem?_map, List.getElem?_eq_getElem hi] at e
      cases e
      exact h2 _ rfl
    · rw [List.getElem?_append_right (by simpa using hi), List.getElem?_replicate] at e
      split at e <;> cases e
      exact h1 rfl
  refine ⟨Ext.refl s, ?_, fun i d h => ?_, fun i d h => ?_, fun i j d e a h => ?_, NtOk.zero fun i k d h => no (by intro z; cases z) (fun d z => by cases z) h⟩
  · unfold L2.start
    simp only [List.length_append, List.length_map, List.length_replicate]
    omega
  · by_cases hi : i < ds.length
    · rw [List.getElem?_append_left (by simpa using hi), List.getElem?_map, List.getElem?_eq_getElem hi] at h
      cases h
      obtain ⟨v, h1, h2⟩ := r.get (List.getElem?_eq_getElem hi)
      refine ⟨v, ?_, h2⟩
      unfold L2.start
      rw [List.getElem?_append_left (by simpa [hl] using hi), List.getElem?_map, h1]
      rfl
    · rw [List.getElem?_append_right (by simpa using hi), List.getElem?_replicate] at h
      split at h <;> cases h
  · rcases h with h | h
    · exact (no (by intro z; cases z) (fun d z => by cases z) h).elim
    · exact (no (by intro z; cases z) (fun d z => by cases z) h).elim
  · rcases h with h | h
    · exact (no (by intro z; cases z) (fun d z => by cases z) h).elim
    · exact (no (by intro z; cases z) (fun d z => by cases z) h).elim
theorem fn_ok {P : Program} {w : World} {K : PySem.W.Frag} {mg : Str → Option Value} {base : Heap} {G : GE} {x qual : Str} {st : Stmt} {f : Addr} {fd : FuncData} {N ps : List Str} {k : Nat} {g : List D → R D} {fr : Bool} {body : SS → RS}
    (Fu : Fun K x qual st f fd) (S : FnScope N ps (defScope st)) (hK : K = G.K) (hN : ps.length ≤ N.length)
    (hb : ∀ (cdv : Value) (A : Around) (outer : List PySem.Env) (s : Shared) (H F : Hp) (E : XK), Room k (A.deeper (envOfC qual (defScope st) s.heap.objs.size f cdv)) →
      Pl (cxOf (L2.CX P w) P w K mg base N qual (defScope st) f cdv A outer s H E) ⟨G, F, H⟩ (fun cls d _ H => E cls d H) →
      PSs (cxOf (L2.CX P w) P w K mg base N qual (defScope st) f cdv A outer s H E) (defBody st) (tS ⟨G, F, H⟩ (fun cls d _ H => E cls d H) body))
    (hg : ∀ ds, ds.length = ps.length → g ds ≠ .bad → runB fr N.length body ds = g ds) : FnOk P w K mg base (L2.CX P w) (k + 1) f fd ps (spD G ps.length g fr) := by
  refine Fu.okX S (fun vs H Q E h => ?_) (fun cdv A outer s H vs Q E hr h => ?_)
  · obtain ⟨F, ds, _, hl, r, _⟩ := h
    rw [r.length, hl]
  · obtain ⟨F, ds, sm, hl, r, h⟩ := h
    have tk : Takes (cxOf (L2.CX P w) P w K mg base N qual (defScope st) f cdv A outer s H E) (fun cls d _ H => E cls d H) := takes_of rfl rfl rfl rfl
    have v : Pl (cxOf (L2.CX P w) P w K mg base N qual (defScope st) f cdv A outer s H E) ⟨G, F, H⟩ (fun cls d _ H => E cls d H) := by
      refine ⟨⟨hK, ?_, tk, ?_⟩, rfl⟩
      · have := hr.un
        show Around.units (A.deeper _) + 65 < _
        omega
      · exact passes_of rfl
    refine ⟨_, hb cdv A outer s H F E hr v, ?_⟩
    refine ⟨F, ds.map Sl.sh ++ List.replicate (N.length - ds.length) .no, start_str (C := ⟨G, F, H⟩) ⟨rfl, rfl⟩ sm r (by omega), ?_⟩
    have hne : g ds ≠ .bad := fun z => by rw [z] at h; exact h
    have hrun := hg ds hl hne
    unfold runB at hrun
    cases q : body (ds.map Sl.sh ++ List.replicate (N.length - ds.length) .no) with
    | nx s' =>
      rw [q] at hrun
      cases fr with
      | true => rw [← hrun] at hne; exact (hne rfl).elim
      | false =>
        have hrun : R.ok D.non = g ds := hrun
        rw [← hrun] at h
        exact fun F' H' σ' S' f' l' => h .non F' H' S'.ext (rep_non.mpr rfl)
    | rt b d =>
      rw [q] at hrun
      have hrun : (if b = fr then R.ok d else .bad) = g ds := hrun
      by_cases hb : b = fr
      · rw [if_pos hb] at hrun
        rw [← hrun] at h
        subst hb
        cases b with
        | true => exact fun a F' H' e f' h1 h2 h3 => h a F' H' e h1 h2 h3
        | false => exact fun u F' H' e f' r' => h u F' H' e r'
      · rw [if_neg hb] at hrun
        rw [← hrun] at hne
        exact (hne rfl).elim
    | ex c vs s' =>
      rw [q] at hrun
      have hrun : R.ex c vs = g ds := hrun
      rw [← hrun] at h
      exact fun cls dx F' H' σ' S' f' l' x => h cls dx F' H' S'.ext x
    | rm d s' => rw [q] at hrun; exact (hne hrun.symm).elim
    | rn j s' => rw [q] at hrun; exact (hne hrun.symm).elim
    | bk s' => rw [q] at hrun; exact (hne hrun.symm).elim
    | ct s' => rw [q] at hrun; exact (hne hrun.symm).elim
    | bad => rw [q] at hrun; exact (hne hrun.symm).elim
theorem kn_mk {P : Program} {w : World} {K : PySem.W.Frag} {mg : Str → Option Value} {base : Heap} {G : GE} {x : Str} {f : Addr} {fd : FuncData} {ps : List Str} {n k : Nat} {g : List D → R D} {fr : Bool} (h : FnOk P w K mg base (L2.CX P w) k f fd ps (spD G n g fr))
    (hm : mg x = some (.ref f)) (hk : PySem.W.keepIn K (.ref f) = true) (hb : Binds K fd ps []) : Kn P w K mg base G x n g fr k := ⟨⟨f, fd, ps, h, hm, hk, hb⟩⟩
end
end Z
namespace Z
noncomputable section
open PySem PySem.Spec PySem.P PyProof.Rows L2
section
variable {X : Cx} {C : CT} {W : WX} {a b c e elt tg iter : Expr} {ifs : List Expr} {es : List Expr} {fa fb fc fe f : SS → R D} {pos pos' p p2 apos py spos : Pos} {fs : SS → R (List D)} {fi : SS → R (List D)} {ft : FG} {vs : List Nat} {x y : Str}
theorem s_add (v : Pq X C W) (ha : PE X a (tB C W fa)) (hb : PE X b (tB C W fb)) : PE X (.BinOp a .Add b pos) (tD C W (eBin addD fa fb)) := s_bin addD_ne (op_addD v.K) ha hb
theorem s_sub (v : Pq X C W) (ha : PE X a (tB C W fa)) (hb : PE X b (tB C W fb)) : PE X (.BinOp a .Sub b pos) (tD C W (eBin subD fa fb)) := s_bin subD_ne op_subD ha hb
theorem s_mul (v : Pq X C W) (ha : PE X a (tB C W fa)) (hb : PE X b (tB C W fb)) : PE X (.BinOp a .Mult b pos) (tD C W (eBin mulD fa fb)) := s_bin mulD_ne (op_mulD v.K) ha hb
theorem s_fdiv (v : Pq X C W) (ha : PE X a (tB C W fa)) (hb : PE X b (tB C W fb)) : PE X (.BinOp a .FloorDiv b pos) (tD C W (eBin fdivD fa fb)) := s_bin fdivD_ne op_fdivD ha hb
theorem s_mod (v : Pq X C W) (ha : PE X a (tB C W fa)) (hb : PE X b (tB C W fb)) : PE X (.BinOp a .Mod b pos) (tD C W (eBin modD fa fb)) := s_bin modD_ne op_modD ha hb
theorem s_pow (v : Pq X C W) (ha : PE X a (tB C W fa)) (hb : PE X b (tB C W fb)) : PE X (.BinOp a .Pow b pos) (tD C W (eBin powD fa fb)) := s_bin powD_ne op_powD ha hb
theorem s_neg (v : Pq X C W) (ha : PE X a (tB C W fa)) : PE X (.UnaryOp .USub a pos) (tD C W (eUn negD fa)) := s_un negD_ne un_negD ha
theorem s_eq (v : Pq X C W) (ha : PE X a (tB C W fa)) (hb : PE X b (tB C W fb)) : PE X (.Compare a [.Eq] [b] pos) (tD C W (eBin eqD fa fb)) := s_cmp eqD_ne (op_eqDD v.K (by have := v.hu; omega)) ha hb
theorem s_ne (v : Pq X C W) (ha : PE X a (tB C W fa)) (hb : PE X b (tB C W fb)) : PE X (.Compare a [.NotEq] [b] pos) (tD C W (eBin neD fa fb)) := s_cmp neD_ne (op_neDD v.K (by have := v.hu; omega)) ha hb
theorem s_le (v : Pq X C W) (ha : PE X a (tB C W fa)) (hb : PE X b (tB C W fb)) : PE X (.Compare a [.LtE] [b] pos) (tD C W (eBin leD fa fb)) := s_cmp leD_ne op_leD ha hb
theorem t_eq (v : Pq X C W) (ha : PE X a (tB C W fa)) (hb : PE X b (tB C W fb)) : PT X (.Compare a [.Eq] [b] pos) (tT C W (eBin eqD fa fb)) := s_tcmp eqD_ne (op_eqDD v.K (by have := v.hu; omega)) ha hb
theorem t_ne (v : Pq X C W) (ha : PE X a (tB C W fa)) (hb : PE X b (tB C W fb)) : PT X (.Compare a [.NotEq] [b] pos) (tT C W (eBin neD fa fb)) := s_tcmp neD_ne (op_neDD v.K (by have := v.hu; omega)) ha hb
theorem t_lt (v : Pq X C W) (ha : PE X a (tB C W fa)) (hb : PE X b (tB C W fb)) : PT X (.Compare a [.Lt] [b] pos) (tT C W (eBin ltD fa fb)) := s_tcmp ltD_ne op_ltD ha hb
theorem t_gt (v : Pq X C W) (ha : PE X a (tB C W fa)) (hb : PE X b (tB C W fb)) : PT X (.Compare a [.Gt] [b] pos) (tT C W (eBin gtD fa fb)) := s_tcmp gtD_ne op_gtD ha hb
theorem t_ge (v : Pq X C W) (ha : PE X a (tB C W fa)) (hb : PE X b (tB C W fb)) : PT X (.Compare a [.GtE] [b] pos) (tT C W (eBin geD fa fb)) := s_tcmp geD_ne op_geD ha hb
theorem t_is (v : Pq X C W) (ha : PE X a (tB C W fa)) (hb : PE X b (tB C W fb)) : PT X (.Compare a [.Is] [b] pos) (tT C W (eBin (isN false) fa fb)) := s_tcmp isN_ne op_isND ha hb
theorem t_nin (v : Pq X C W) (ha : PE X a (tB C W fa)) (hb : PE X b (tB C W fb)) (hm : behindInMarks .NotIn b = false := by with_unfolding_all rfl) : PT X (.Compare a [.NotIn] [b] pos) (tT C W (eBin (inD true) fa fb)) := s_tcmp inD_ne (op_notInDD v.K v.hu) ha hb hm
theorem s_setcS (v : Pl X C W) (i : Nat) {scope : Scope} {own : List (Str × Nat)} (hN : X.N.Nodup) (hi : PI X tg iter (tI C W fi)) (hv : own.map (·.2) = vs)
    (hg : ∀ (s : Shared) (H : Hp) (Ca : Addr) (cl : List (Str × Addr)) (fp : List Addr), Pl (X.blk s H scope (compEnvC scope cl Ca X.env) fp) C WNo → PG (X.blk s H scope (compEnvC scope cl Ca X.env) fp) tg (tG C ft vs))
    (ht : ∀ (s : Shared) (H : Hp) (Ca : Addr) (cl : List (Str × Addr)) (fp : List Addr), Pl (X.blk s H scope (compEnvC scope cl Ca X.env) fp) C WNo → PTs (X.blk s H scope (compEnvC scope cl Ca X.env) fp) ifs (tT C WNo fc))
    (he : ∀ (s : Shared) (H : Hp) (Ca : Addr) (cl : List (Str × Addr)) (fp : List Addr), Pl (X.blk s H scope (compEnvC scope cl Ca X.env) fp) C WNo → PE (X.blk s H scope (compEnvC scope cl Ca X.env) fp) elt (tD C WNo fe))
    (hy : X.N[i]? = some y := by rfl) (hyl : X.env.scope.names.lookup y = some .local := by rfl)
    (hsw : swapsWith (.ListComp elt [⟨tg, iter, ifs, 0⟩] scope pos) (some (.Name y py)) spos.line X.env = pure true := by exact sw_true rfl rfl rfl (by decide +kernel))
    (ok : BlkOk X.N X.env.scope scope own := by exact blkOk_by (by decide +kernel))
    (hs : ∀ x, foldedSetIterable iter X.env x = pure x := by intro _; rfl) : PS X (.Assign [.Name y py] (.ListComp elt [⟨tg, iter, ifs, 0⟩] scope pos) spos) (tS C W (sSet i (eComp fi ft vs fc fe))) := by
  subst hv
  refine ps_imp (ps_setLc v.calm hN hy hyl hsw hi ok (fun s H Ca cl fp => hg s H Ca cl fp (v.blk ..)) (fun s H Ca cl fp => ht s H Ca cl fp (v.blk ..)) (fun s H Ca cl fp => he s H Ca cl fp (v.blk ..)) hs) fun En σ H ⟨F, sd, S, h⟩ => ?_
  have hsub : sSet i (eComp fi ft (own.map (·.2)) fc fe) sd = sE (eComp fi ft (own.map (·.2)) fc fe) (fun d s => if isDic d = true then .bad else optS (setS s i (.sh d))) sd := by
    unfold sSet sE
    cases q : eComp fi ft (own.map (·.2)) fc fe sd with
    | ok d =>
      have hd : isDic d = false := by
        unfold eComp at q
        cases q1 : fi sd with
        | ok ds =>
          rw [q1] at q
          have q : (match mapD (cStep ft (own.map (·.2)) fc fe sd) ds with
            | .ok xs => if xs.length ≤ SZ then R.ok (D.lst xs) else .bad
            | _ => .bad) = .ok d := q
          split at q
          · split at q
            · cases q; rfl
            · cases q
          · cases q
        | ex c vs => rw [q1] at q; cases q
        | bad => rw [q1] at q; cases q
      dsimp only
      rw [if_neg (by rw [hd]; exact Bool.false_ne_true)]
    | ex c vs => rfl
    | bad => rfl
  rw [hsub] at h
  refine comp_read (W := W) ⟨F, sd, S, postS_E S h fun d u F1 H1 e1 r h1 => ?_⟩
  have hd : isDic d = false := by
    cases z : isDic d with
    | false => rfl
    | true => rw [if_pos z] at h1; exact h1.elim
  rw [if_neg (by rw [hd]; exact Bool.false_ne_true)] at h1
  obtain ⟨q, rfl, hn, hf, ow⟩ := r
  obtain ⟨o, ho⟩ := ow.there
  have s1 : Same F1 (upd F1 q o) := same_new hf
  have s2 : Same (upd F1 q o) H1 := fun b u z => by
    by_cases hb : b = q
    · subst hb; rw [upd_same] at z; cases z; exact ho
    · rw [upd_ne hb] at z; exact e1.fh _ _ z
  have e2 : Ext F H (upd F1 q o) H1 := ⟨e1.ff.trans s1, e1.hh, s2, fun b u h1 h2 => by
    have hb : b ≠ q := fun z => by subst z; rw [hn] at h1; cases h1
    rw [upd_ne hb]
    exact e1.ow b u h1 h2⟩
  have rr : Rep C.G (upd F1 q o) d (.ref q) := ow.rep1 hd s1 fun u z => by rw [ho] at z; cases z; exact upd_same
  cases k : setS sd i (.sh d) with
  | none => rw [k] at h1; exact h1.elim
  | some s' =>
    rw [k] at h1
    exact h1 _ H1 _ ((S.mono e2).setSh k rr) e2.ff (lk_set k)
end

def fuelP : {n : Nat // n = 1000000000} := Classical.choice ⟨⟨_, rfl⟩⟩
def fuel : Nat := fuelP.1
theorem fuel_is : fuel = 1000000000 := fuelP.2
theorem law_sp {K : PySem.W.Frag} {G : GE} (hK : K = G.K) {n : Nat} {g : List D → R D} (hg : ∀ ns : List Int, ns.length ≤ n → g [.lst (ns.map .int)] = .ok (.bl true)) (H : Hp) (a : Addr) (ns : List Int) (hl : ns.length ≤ n) (hS : SqL K H a (ns.map V.int)) :
    spD G 1 g false [.ref a] H (fun v _ => v = .bl true) (fun _ _ _ => False) := by
  subst hK
  have hr : ∀ ns : List Int, RepL G H (ns.map D.int) (ns.map V.int) := fun ns => by
    induction ns with
    | nil => exact RepL.nil
    | cons i r ih => exact RepL.cons (rep_int.mpr rfl) ih
  refine ⟨H, [.lst (ns.map .int)], Same.refl H, rfl, RepL.cons (rep_lst.mpr ⟨a, _, rfl, hS, hr ns⟩) RepL.nil, ?_⟩
  rw [hg ns hl]
  unfold PostC
  dsimp only
  rw [if_neg Bool.false_ne_true]
  exact fun v F' H' e r => rep_bl.mp r
theorem law_cx {P : Program} {w : World} {H : Hp} {s s' : Shared} {e : Value} (h : L2.CX P w [] H s (fun _ _ _ => False) e s') : False := by
  obtain ⟨_, _, _, _, _, _, _, _, _, _, _, _, z⟩ := h
  exact z
end
end Z
namespace Z
noncomputable section
open PySem PySem.Spec PySem.P PyProof.Rows L2
section
variable {f g : SS → RS} {fa fb fc fe : SS → R D} {fs : SS → R (List D)} {s s' : SS} {d x y : D} {A B : Type}
@[simp] theorem R.bind_ok (a : A) (k : A → R B) : (R.ok a).bind k = k a := rfl
@[simp] theorem R.bind_bad (k : A → R B) : (R.bad).bind k = .bad := rfl
@[simp] theorem R.bind_ex (k : A → R B) (c : Nat) (vs : List D) : (R.ex c vs).bind k = .ex c vs := rfl
@[simp] theorem R.bind_ite (p : Prop) [Decidable p] (a b : R A) (k : A → R B) : (if p then a else b).bind k = if p then a.bind k else b.bind k := by split <;> rfl
@[simp] theorem eC_s : eC d s = .ok d := rfl
@[simp] theorem eBin_s (h : D → D → R D) : eBin h fa fb s = (fa s).bind fun x => (fb s).bind fun y => h x y := rfl
@[simp] theorem eUn_s (h : D → R D) : eUn h fa s = (fa s).bind h := rfl
@[simp] theorem eCall_s (h : List D → R D) : eCall h fs s = (fs s).bind h := rfl
@[simp] theorem aNil_s : aNil s = .ok [] := rfl
@[simp] theorem aCons_s : aCons fa fs s = (fa s).bind fun x => (fs s).bind fun xs => .ok (x :: xs) := rfl
def gV : Option Sl → R D
  | some (.sh d) => .ok d
  | _ => .bad
def gR : Option Sl → R D
  | some (.sh d) => .ok d
  | some (.ow d) => .ok d
  | some (.lk d) => .ok d
  | _ => .bad
@[simp] theorem eV_s (i : Nat) : eV i s = gV s[i]? := rfl
@[simp] theorem eR_s (i : Nat) : eR i s = gR s[i]? := rfl
@[simp] theorem gV_sh : gV (some (.sh d)) = .ok d := rfl
@[simp] theorem gR_sh : gR (some (.sh d)) = .ok d := rfl
@[simp] theorem gR_ow : gR (some (.ow d)) = .ok d := rfl
@[simp] theorem gR_lk : gR (some (.lk d)) = .ok d := rfl
def rE (s : SS) (r : R D) (k : D → SS → RS) : RS := match r with
  | .ok d => k d s
  | .ex c vs => .ex c vs s
  | .bad => .bad
@[simp] theorem rE_ok (k : D → SS → RS) : rE s (.ok d) k = k d s := rfl
@[simp] theorem rE_ex (k : D → SS → RS) (c : Nat) (vs : List D) : rE s (.ex c vs) k = .ex c vs s := rfl
@[simp] theorem rE_ite (p : Prop) [Decidable p] (a b : R D) (k : D → SS → RS) : rE s (if p then a else b) k = if p then rE s a k else rE s b k := by split <;> rfl
theorem sE_s (k : D → SS → RS) : sE fe k s = rE s (fe s) k := rfl
def canS : Option Sl → Bool
  | some (.lk _) => false
  | some (.nt true _) => false
  | some _ => true
  | none => false
theorem setS_s (i : Nat) (z : Sl) : setS s i z = if canS s[i]? = true then some (s.set i z) else none := by
  unfold setS canS
  split <;> simp_all
@[simp] theorem canS_sh : canS (some (.sh d)) = true := rfl
@[simp] theorem canS_ow : canS (some (.ow d)) = true := rfl
@[simp] theorem canS_no : canS (some .no) = true := rfl
@[simp] theorem optS_some : optS (some s) = .nx s := rfl
@[simp] theorem sSet_s (i : Nat) : sSet i fe s = rE s (fe s) fun d s => optS (if canS s[i]? = true then some (s.set i (.sh d)) else none) := by
  unfold sSet
  rw [sE_s]
  congr 1
  funext d s
  rw [setS_s]
@[simp] theorem sSetO_s (i : Nat) : sSetO i fe s = rE s (fe s) fun d s => optS (if canS s[i]? = true then some (s.set i (.ow d)) else none) := by
  unfold sSetO
  rw [sE_s]
  congr 1
  funext d s
  rw [setS_s]
@[simp] theorem sX_s : sX fe s = rE s (fe s) fun _ s => .nx s := rfl
@[simp] theorem sRet_s : sRet fe s = rE s (fe s) fun d _ => .rt false d := rfl
@[simp] theorem sRetF_s : sRetF fe s = rE s (fe s) fun d _ => .rt true d := rfl
@[simp] theorem sNx_s : sNx s = .nx s := rfl
@[simp] theorem sBk_s : sBk s = .bk s := rfl
def bnd (r : RS) (g : SS → RS) : RS := match r with
  | .nx s' => g s'
  | r => r
@[simp] theorem sSeq_s : sSeq f g s = bnd (f s) g := rfl
@[simp] theorem bnd_nx : bnd (.nx s) g = g s := rfl
@[simp] theorem bnd_rt (b : Bool) : bnd (.rt b d) g = .rt b d := rfl
@[simp] theorem bnd_bk : bnd (.bk s) g = .bk s := rfl
@[simp] theorem bnd_ct : bnd (.ct s) g = .ct s := rfl
@[simp] theorem bnd_ex (c : Nat) (vs : List D) : bnd (.ex c vs s) g = .ex c vs s := rfl
@[simp] theorem bnd_ite (p : Prop) [Decidable p] (a b : RS) : bnd (if p then a else b) g = if p then bnd a g else bnd b g := by split <;> rfl
def brS (s : SS) (r : R D) (a b : RS) : RS := match r with
  | .ok (.bl true) => a
  | .ok (.bl false) => b
  | .ex c vs => .ex c vs s
  | _ => .bad
@[simp] theorem sIf_s : sIf fc f g s = brS s (fc s) (f s) (g s) := by
  unfold sIf
  rw [sE_s]
  cases fc s with
  | ok d => cases d with
    | bl b => cases b <;> rfl
    | _ => rfl
  | _ => rfl
@[simp] theorem brS_bl (b : Bool) (p q : RS) : brS s (.ok (.bl b)) p q = if b = true then p else q := by cases b <;> rfl
@[simp] theorem brS_ex (c : Nat) (vs : List D) (p q : RS) : brS s (.ex c vs) p q = .ex c vs s := rfl
@[simp] theorem brS_ite (c : Prop) [Decidable c] (a b : R D) (p q : RS) : brS s (if c then a else b) p q = if c then brS s a p q else brS s b p q := by split <;> rfl
def andR (r : R D) (q : R D) : R D := match r with
  | .ok (.bl true) => q
  | .ok (.bl false) => .ok (.bl false)
  | .ex c vs => .ex c vs
  | _ => .bad
def orR (r : R D) (q : R D) : R D := match r with
  | .ok (.bl true) => .ok (.bl true)
  | .ok (.bl false) => q
  | .ex c vs => .ex c vs
  | _ => .bad
def notR (r : R D) : R D := match r with
  | .ok (.bl b) => .ok (.bl (!b))
  | .ex c vs => .ex c vs
  | _ => .bad
@[simp] theorem eAnd_s : eAnd fa fb s = andR (fa s) (fb s) := by
  unfold eAnd
  cases fa s with
  | ok d => cases d with
    | bl b => cases b <;> rfl
    | _ => rfl
  | _ => rfl
@[simp] theorem eOr_s : eOr fa fb s = orR (fa s) (fb s) := by
  unfold eOr
  cases fa s with
  | ok d => cases d with
    | bl b => cases b <;> rfl
    | _ => rfl
  | _ => rfl
@[simp] theorem eNot_s : eNot fa s = notR (fa s) := by
  unfold eNot
  cases fa s with
  | ok d => cases d <;> rfl
  | _ => rfl
@[simp] theorem andR_bl (b c : Bool) : andR (.ok (.bl b)) (.ok (.bl c)) = .ok (.bl (b && c)) := by cases b <;> rfl
@[simp] theorem andR_tt (q : R D) : andR (.ok (.bl true)) q = q := rfl
@[simp] theorem andR_ff (q : R D) : andR (.ok (.bl false)) q = .ok (.bl false) := rfl
@[simp] theorem orR_bl (b c : Bool) : orR (.ok (.bl b)) (.ok (.bl c)) = .ok (.bl (b || c)) := by cases b <;> rfl
@[simp] theorem orR_tt (q : R D) : orR (.ok (.bl true)) q = .ok (.bl true) := rfl
@[simp] theorem orR_ff (q : R D) : orR (.ok (.bl false)) q = q := rfl
@[simp] theorem notR_bl (b : Bool) : notR (.ok (.bl b)) = .ok (.bl (!b)) := rfl
def fin (fr : Bool) (r : RS) : R D := match r with
  | .nx _ => if fr = true then .bad else .ok .non
  | .rt b d => if b = fr then .ok d else .bad
  | .ex c vs _ => .ex c vs
  | _ => .bad
theorem runB_s (fr : Bool) (m : Nat) (ds : List D) : runB fr m f ds = fin fr (f (ds.map Sl.sh ++ List.replicate (m - ds.length) .no)) := rfl
@[simp] theorem fin_rt (fr : Bool) : fin fr (.rt fr d) = .ok d := by unfold fin; simp
@[simp] theorem fin_nx : fin false (.nx s) = .ok .non := rfl
@[simp] theorem fin_ex (fr : Bool) (c : Nat) (vs : List D) : fin fr (.ex c vs s) = .ex c vs := rfl
@[simp] theorem fin_ite (fr : Bool) (p : Prop) [Decidable p] (a b : RS) : fin fr (if p then a else b) = if p then fin fr a else fin fr b := by split <;> rfl
@[simp] theorem addD_i (i j : Int) : addD (.int i) (.int j) = .ok (.int (i + j)) := rfl
theorem addD_s (a b : List Nat) : addD (.str a) (.str b) = if a.length + b.length ≤ SZ then .ok (.str (a ++ b)) else .bad := rfl
theorem addD_l (a b : List D) : addD (.lst a) (.lst b) = if a.length + b.length ≤ SZ then .ok (.lst (a ++ b)) else .bad := rfl
@[simp] theorem subD_i (i j : Int) : subD (.int i) (.int j) = .ok (.int (i - j)) := rfl
theorem mulD_i (i j : Int) : mulD (.int i) (.int j) = if i.natAbs < 18446744073709551616 ∨ j.natAbs < 18446744073709551616 ∨ i.natAbs.log2 + j.natAbs.log2 < 1000000 then .ok (.int (i * j)) else .bad := by
  unfold mulD
  dsimp only
  congr
theorem mulD_s (x : List Nat) (j : Int) : mulD (.str x) (.int j) = if j < 9223372036854775808 ∧ -9223372036854775808 ≤ j ∧ x.length * j.toNat ≤ SZ then .ok (.str (repS x j.toNat)) else .bad := by
  unfold mulD
  dsimp only
  congr
theorem fdivD_i (i j : Int) (h : 0 < j) (h2 : j.natAbs.log2 < 9000) : fdivD (.int i) (.int j) = .ok (.int (i / j)) := by unfold fdivD; simp [h, h2]
theorem modD_i (i j : Int) (h : 0 < j) : modD (.int i) (.int j) = .ok (.int (i % j)) := by unfold modD; simp [h]
theorem powD_i (i j : Int) (h : 0 ≤ j) (h1 : j ≤ 1000000) (h2 : i.natAbs < 18446744073709551616) : powD (.int i) (.int j) = .ok (.int (i ^ j.toNat)) := by unfold powD; simp [h, h1, h2]
@[simp] theorem ltD_i (i j : Int) : ltD (.int i) (.int j) = .ok (.bl (decide (i < j))) := rfl
@[simp] theorem leD_i (i j : Int) : leD (.int i) (.int j) = .ok (.bl (decide (i ≤ j))) := rfl
@[simp] theorem gtD_i (i j : Int) : gtD (.int i) (.int j) = .ok (.bl (decide (j < i))) := rfl
@[simp] theorem geD_i (i j : Int) : geD (.int i) (.int j) = .ok (.bl (decide (j ≤ i))) := rfl
@[simp] theorem ltD_s (i j : List Nat) : ltD (.str i) (.str j) = .ok (.bl (ltS i j)) := rfl
@[simp] theorem leD_s (i j : List Nat) : leD (.str i) (.str j) = .ok (.bl (!ltS j i)) := rfl
@[simp] theorem gtD_s (i j : List Nat) : gtD (.str i) (.str j) = .ok (.bl (ltS j i)) := rfl
@[simp] theorem geD_s (i j : List Nat) : geD (.str i) (.str j) = .ok (.bl (!ltS i j)) := rfl
@[simp] theorem eqD_i (i j : Int) : eqD (.int i) (.int j) = .ok (.bl (i == j)) := rfl
@[simp] theorem neD_i (i j : Int) : neD (.int i) (.int j) = .ok (.bl (!(i == j))) := rfl
@[simp] theorem eqD_s (i j : List Nat) : eqD (.str i) (.str j) = .ok (.bl (i == j)) := rfl
@[simp] theorem neD_s (i j : List Nat) : neD (.str i) (.str j) = .ok (.bl (!(i == j))) := rfl
@[simp] theorem lenD_s (x : List Nat) : lenD [.str x] = if x.length ≤ SZ then .ok (.int x.length) else .bad := rfl
@[simp] theorem lenD_l (x : List D) : lenD [.lst x] = .ok (.int x.length) := rfl
@[simp] theorem lenD_t (x : List D) : lenD [.tup x] = .ok (.int x.length) := rfl
@[simp] theorem max2D_i (i j : Int) : max2D [.int i, .int j] = .ok (.int (max i j)) := by
  show R.ok (D.int (if j > i then j else i)) = _
  congr 2
  split <;> omega
@[simp] theorem min2D_i (i j : Int) : min2D [.int i, .int j] = .ok (.int (min i j)) := by
  show R.ok (D.int (if j < i then j else i)) = _
  congr 2
  split <;> omega
@[simp] theorem intsD_map (ns : List Int) : intsD (ns.map .int) = some ns := by
  induction ns with
  | nil => rfl
  | cons a r ih => simp [intsD, ih]
@[simp] theorem strsD_map (ns : List (List Nat)) : strsD (ns.map .str) = some ns := by
  induction ns with
  | nil => rfl
  | cons a r ih => simp [strsD, ih]
@[simp] theorem sumD_m (ns : List Int) : sumD [.lst (ns.map .int)] = .ok (.int ns.sum) := by simp [sumD]
theorem atI_nat {α : Type} (xs : List α) (n : Nat) : atI xs (n : Int) = xs[n]? := by
  unfold atI ixN
  by_cases h : n < xs.length
  · have : (n : Int) < xs.length := by omega
    simp [this]
  · have h2 : ¬ ((n : Int) < xs.length) := by omega
    simp [h2]
    omega
theorem atI_int {α : Type} (xs : List α) (i : Int) (h : 0 ≤ i) : atI xs i = xs[i.toNat]? := by
  have := atI_nat xs i.toNat
  rwa [show ((i.toNat : Nat) : Int) = i by omega] at this
theorem ixD_l (xs : List D) (i : Int) (h : 0 ≤ i) (x : D) (hx : xs[i.toNat]? = some x) : ixD (.lst xs) (.int i) = .ok x := by
  unfold ixD
  simp [atI_int xs i h, hx]
theorem ixD_t (xs : List D) (i : Int) (h : 0 ≤ i) (x : D) (hx : xs[i.toNat]? = some x) : ixD (.tup xs) (.int i) = .ok x := by
  unfold ixD
  simp [atI_int xs i h, hx]
theorem ixD_s (xs : List Nat) (i : Int) (h : 0 ≤ i) (x : Nat) (hl : xs.length ≤ SZ) (hx : xs[i.toNat]? = some x) : ixD (.str xs) (.int i) = .ok (.str [x]) := by
  unfold ixD
  simp [atI_int xs i h, hx, hl]
theorem slD_s (x : List Nat) (lo hi : Option Int) (h : x.length ≤ SZ) : slD (.str x) lo hi = .ok (.str (cutL x lo hi)) := by unfold slD; simp [h]
@[simp] theorem slD_l (x : List D) (lo hi : Option Int) : slD (.lst x) lo hi = .ok (.lst (cutL x lo hi)) := rfl
theorem cutL_to {α : Type} (x : List α) (n : Int) (h : 0 ≤ n) : cutL x none (some n) = x.take n.toNat := by
  unfold cutL HT.sIx
  have : ¬ n < 0 := by omega
  simp [this]
theorem cutL_from {α : Type} (x : List α) (n : Int) (h : 0 ≤ n) : cutL x (some n) none = x.drop n.toNat := by
  unfold cutL HT.sIx
  have : ¬ n < 0 := by omega
  simp [this]
  apply List.ext_getElem? 
  intro i
  simp [List.getElem?_take]
  split
  · congr 1; omega
  · symm; simp; omega
@[simp] theorem eSl_s (fl fh : SS → R (Option Int)) : eSl fa fl fh s = (fa s).bind fun x => (fl s).bind fun l => (fh s).bind fun h => slD x l h := rfl
def oR (r : R D) : R (Option Int) := r.bind fun x => match x with
  | .int i => .ok (some i)
  | _ => .bad
@[simp] theorem oSo_s : oSo fe s = oR (fe s) := rfl
@[simp] theorem oNo_s : oNo s = .ok none := rfl
@[simp] theorem oR_i (i : Int) : oR (.ok (.int i)) = .ok (some i) := rfl
@[simp] theorem eLst_s : eLst fs s = (fs s).bind fun xs => if xs.length ≤ SZ then .ok (.lst xs) else .bad := rfl
@[simp] theorem eTup_s : eTup fs s = (fs s).bind fun xs => if xs.length ≤ SZ then .ok (.tup xs) else .bad := rfl
@[simp] theorem iRg1_s : iRg1 fs s = (fs s).bind rng1 := rfl
@[simp] theorem iRg2_s : iRg2 fs s = (fs s).bind rng2 := rfl
@[simp] theorem iRg3_s : iRg3 fs s = (fs s).bind rng3 := rfl
@[simp] theorem iE_s : iE fe s = (fe s).bind itD := rfl
@[simp] theorem itD_l (xs : List D) : itD (.lst xs) = .ok xs := rfl
@[simp] theorem itD_t (xs : List D) : itD (.tup xs) = .ok xs := rfl
theorem rng1_i (j : Int) (h : fit62 j) : rng1 [.int j] = .ok (rangeD 0 j) := by unfold rng1; simp [h]
theorem rng2_i (i j : Int) (h : fit62 i) (h2 : fit62 j) : rng2 [.int i, .int j] = .ok (rangeD i j) := by unfold rng2; simp [h, h2]
def rFor (ft : FG) (f : SS → RS) (s : SS) (r : R (List D)) : RS := match r with
  | .ok ds => forL (turn ft f) ds s
  | .ex c vs => .ex c vs s
  | .bad => .bad
@[simp] theorem sFor_s (fi : SS → R (List D)) (ft : FG) : sFor fi ft f s = rFor ft f s (fi s) := rfl
@[simp] theorem rFor_ok (ft : FG) (ds : List D) : rFor ft f s (.ok ds) = forL (turn ft f) ds s := rfl
@[simp] theorem sWh_s (n : Nat) : sWh n fc f s = whL fc f n s := rfl
theorem forL_ind {step : D → SS → RS} (P : Nat → SS → Prop) (Q : RS → Prop) : ∀ (ds : List D) (s : SS), P 0 s →
    (∀ i d s, ds[i]? = some d → P i s → match step d s with | .nx s' => P (i + 1) s' | .ct s' => P (i + 1) s' | .bk s' => Q (.nx s') | .rt b d => Q (.rt b d) | .ex c vs s' => Q (.ex c vs s') | .rm d s' => Q (.rm d s') | .rn j s' => Q (.rn j s') | .bad => False) →
    (∀ s, P ds.length s → Q (.nx s)) → Q (forL step ds s)
  | [], s, h0, _, he => he s h0
  | d :: ds, s, h0, hs, he => by
    have h1 := hs 0 d s rfl h0
    have ih := fun s' (h : P 1 s') => forL_ind (step := step) (fun i => P (i + 1)) Q ds s' h (fun i d s h => hs (i + 1) d s (by simpa using h)) he
    unfold forL
    cases q : step d s with
    | nx s' => rw [q] at h1; exact ih s' h1
    | ct s' => rw [q] at h1; exact ih s' h1
    | bk s' => rw [q] at h1; exact h1
    | rt b d => rw [q] at h1; exact h1
    | ex c vs s' => rw [q] at h1; exact h1
    | rm d s' => rw [q] at h1; exact h1
    | rn j s' => rw [q] at h1; exact h1
    | bad => rw [q] at h1; exact h1.elim
theorem forL_nx {step : D → SS → RS} (P : Nat → SS → Prop) (ds : List D) (s : SS) (h0 : P 0 s) (hs : ∀ i d s, ds[i]? = some d → P i s → ∃ s', step d s = .nx s' ∧ P (i + 1) s') : ∃ s', forL step ds s = .nx s' ∧ P ds.length s' := by
  apply forL_ind P (fun r => ∃ s', r = .nx s' ∧ P ds.length s') ds s h0
  · intro i d s h p
    obtain ⟨s', q, h'⟩ := hs i d s h p
    rw [q]
    exact h'
  · intro s h
    exact ⟨s, rfl, h⟩
theorem rangeD_get {i j : Int} {k : Nat} {d : D} (h : (rangeD i j)[k]? = some d) : d = .int (i + k) ∧ (k : Int) < j - i := by
  unfold rangeD at h
  rw [List.getElem?_map] at h
  by_cases hk : k < (j - i).toNat
  · rw [List.getElem?_range hk] at h
    simp at h
    exact ⟨h.symm, by omega⟩
  · rw [List.getElem?_eq_none (by simpa using hk)] at h
    cases h
@[simp] theorem rangeD_len (i j : Int) : (rangeD i j).length = (j - i).toNat := by simp [rangeD]
theorem forR_nx {step : D → SS → RS} (P : Nat → SS → Prop) (i j : Int) (s : SS) (h0 : P 0 s) (hs : ∀ (k : Nat) s, (k : Int) < j - i → P k s → ∃ s', step (.int (i + k)) s = .nx s' ∧ P (k + 1) s') : ∃ s', forL step (rangeD i j) s = .nx s' ∧ P (j - i).toNat s' := by
  have := forL_nx P (rangeD i j) s h0 fun k d s h p => by
    obtain ⟨rfl, h2⟩ := rangeD_get h
    exact hs k s h2 p
  simpa using this
theorem whL_ind (P : SS → Prop) (mu : SS → Nat) (Q : RS → Prop) (hs : ∀ s, P s → match fc s with
    | .ok (.bl true) => (match f s with | .nx s' => P s' ∧ mu s' < mu s | .ct s' => P s' ∧ mu s' < mu s | .bk s' => Q (.nx s') | .rt b d => Q (.rt b d) | .ex c vs s' => Q (.ex c vs s') | .rm d s' => Q (.rm d s') | .rn j s' => Q (.rn j s') | .bad => False)
    | .ok (.bl false) => Q (.nx s)
    | .ex c vs => Q (.ex c vs s)
    | _ => False) : ∀ (n : Nat) (s : SS), P s → mu s < n → Q (whL fc f n s)
  | 0, s, _, h => absurd h (Nat.not_lt_zero _)
  | n + 1, s, h, hm => by
    have h1 := hs s h
    unfold whL
    cases q : fc s with
    | ok d =>
      rw [q] at h1
      cases d with
      | bl b =>
        cases b with
        | true =>
          dsimp only at h1 ⊢
          cases q2 : f s with
          | nx s' => rw [q2] at h1; exact whL_ind P mu Q hs n s' h1.1 (by have := h1.2; omega)
          | ct s' => rw [q2] at h1; exact whL_ind P mu Q hs n s' h1.1 (by have := h1.2; omega)
          | bk s' => rw [q2] at h1; exact h1
          | rt b d => rw [q2] at h1; exact h1
          | ex c vs s' => rw [q2] at h1; exact h1
          | rm d s' => rw [q2] at h1; exact h1
          | rn j s' => rw [q2] at h1; exact h1
          | bad => rw [q2] at h1; exact h1.elim
        | false => exact h1
      | _ => exact h1.elim
    | ex c vs => rw [q] at h1; exact h1
    | bad => rw [q] at h1; exact h1.elim
theorem mapD_range {step : D → R (Option D)} (g : Nat → D) (i j : Int) (h : ∀ k : Nat, (k : Int) < j - i → step (.int (i + k)) = .ok (some (g k))) : mapD step (rangeD i j) = .ok ((List.range (j - i).toNat).map g) := by
  unfold rangeD
  generalize hn : (j - i).toNat = n
  have h' : ∀ k, k < n → step (.int (i + (k : Nat))) = .ok (some (g k)) := fun k hk => h k (by omega)
  clear h hn
  have : ∀ (l : List Nat), (∀ k ∈ l, k < n) → mapD step (l.map fun k : Nat => D.int (i + (k : Nat))) = .ok (l.map g) := by
    intro l
    induction l with
    | nil => intro; rfl
    | cons k l ih =>
      intro hl
      simp only [List.map_cons]
      unfold mapD
      rw [h' k (hl k (by simp)), ih fun e he => hl e (by simp [he])]
  exact this _ fun k hk => by simpa using hk
theorem mapD_mapped {α : Type} {step : D → R (Option D)} (c : α → D) (g : α → D) (l : List α) (h : ∀ a ∈ l, step (c a) = .ok (some (g a))) : mapD step (l.map c) = .ok (l.map g) := by
  induction l with
  | nil => rfl
  | cons k l ih =>
    simp only [List.map_cons]
    unfold mapD
    rw [h k (by simp), ih fun e he => h e (by simp [he])]
def rComp (r : R (List D)) : R D := match r with
  | .ok xs => if xs.length ≤ SZ then .ok (.lst xs) else .bad
  | _ => .bad
@[simp] theorem eComp_s (fi : SS → R (List D)) (ft : FG) (vs : List Nat) : eComp fi ft vs fc fe s = (fi s).bind fun ds => rComp (mapD (cStep ft vs fc fe s) ds) := rfl
@[simp] theorem rComp_ok (xs : List D) : rComp (.ok xs) = if xs.length ≤ SZ then .ok (.lst xs) else .bad := rfl
theorem rComp_of {r : R (List D)} {xs : List D} (h : r = .ok xs) (hl : xs.length ≤ 16777216) : rComp r = .ok (.lst xs) := by
  subst h
  exact if_pos (le_sz hl)
theorem comp_range {step : D → R (Option D)} (g : Nat → D) (i j : Int) (n : Nat) (hn : (j - i).toNat = n) (hl : n ≤ 16777216) (h : ∀ k : Nat, (k : Int) < j - i → step (.int (i + k)) = .ok (some (g k))) : rComp (mapD step (rangeD i j)) = .ok (.lst ((List.range n).map g)) := by
  subst hn
  exact rComp_of (mapD_range g i j h) (by simpa using hl)
theorem comp_mapped {α : Type} {step : D → R (Option D)} (c : α → D) (g : α → D) (l : List α) (hl : l.length ≤ 16777216) (h : ∀ a ∈ l, step (c a) = .ok (some (g a))) : rComp (mapD step (l.map c)) = .ok (.lst (l.map g)) :=
  rComp_of (mapD_mapped c g l h) (by simpa using hl)
def rStep (c e : R D) : R (Option D) := match c with
  | .ok (.bl true) => (match e with | .ok x => .ok (some x) | _ => .bad)
  | .ok (.bl false) => .ok none
  | _ => .bad
@[simp] theorem rStep_t (x : D) : rStep (.ok (.bl true)) (.ok x) = .ok (some x) := rfl
@[simp] theorem rStep_b (b : Bool) (x : D) : rStep (.ok (.bl b)) (.ok x) = .ok (if b = true then some x else none) := by cases b <;> rfl
@[simp] theorem rStep_f (r : R D) : rStep (.ok (.bl false)) r = .ok none := rfl
def optR (o : Option SS) (k : SS → R (Option D)) : R (Option D) := match o with
  | some s' => k s'
  | none => .bad
@[simp] theorem optR_some (k : SS → R (Option D)) : optR (some s) k = k s := rfl
theorem cStep_s (ft : FG) (vs : List Nat) : cStep ft vs fc fe s d = optR (ft d (wipeS s vs)) fun s' => rStep (fc s') (fe s') := by
  unfold cStep
  cases ft d (wipeS s vs) with
  | none => rfl
  | some s' =>
    dsimp only [optR_some]
    generalize fc s' = r
    generalize fe s' = q
    cases r with
    | ok d => cases d with
      | bl b => cases b with
        | true => cases q <;> rfl
        | false => rfl
      | _ => rfl
    | _ => rfl
@[simp] theorem cYes_s : cYes s = .ok (.bl true) := rfl
@[simp] theorem wipeS_nil : wipeS s [] = s := rfl
@[simp] theorem wipeS_cons (v : Nat) (vs : List Nat) : wipeS s (v :: vs) = (wipeS s vs).set v .no := rfl
@[simp] theorem gN_s (i : Nat) : gN i d s = if canS s[i]? = true then some (s.set i (.sh d)) else none := setS_s i _
theorem turn_s (ft : FG) : turn ft f d s = match ft d s with | some s' => f s' | none => .bad := rfl
end
end
end Z
namespace Z
noncomputable section
open PySem PySem.Spec PySem.P PyProof.Rows L2
theorem fdivD_s (i j : Int) (h : 0 < j) (h2 : j < 1000000000000000000) : fdivD (.int i) (.int j) = .ok (.int (i / j)) := fdivD_i i j h (by
  have h3 : j.natAbs < 2 ^ 100 := by omega
  have h4 : j.natAbs ≠ 0 := by omega
  have := (Nat.log2_lt h4).mpr h3
  omega)
theorem joinL_one (x : List Nat) : TL.joinL [] (x.map fun c => [c]) = x := by
  induction x with
  | nil => rfl
  | cons a r ih => cases r with
    | nil => rfl
    | cons b r => simp only [List.map_cons] at ih ⊢; unfold TL.joinL; rw [ih]; rfl
theorem joinM_one (x : List Nat) (h : x.length ≤ 16777216) : joinM (.str []) [.lst (x.map fun c => .str [c])] = .ok (.str x) := by
  have e : (x.map fun c => D.str [c]) = (x.map fun c => [c]).map .str := by simp
  have e2 : ((x.map fun c => [c]).map (·.length)).sum = x.length := by
    rw [List.map_map]
    clear h e
    induction x with
    | nil => rfl
    | cons a r ih => simp at ih ⊢; omega
  unfold joinM joinD
  rw [e]
  dsimp only
  rw [strsD_map]
  dsimp only
  rw [e2, joinL_one, if_pos (le_sz (by simpa using h))]
@[simp] theorem eM_s {fa : SS → R D} {fs : SS → R (List D)} {s : SS} (T : String) (g : D → List D → R D) : eM T g fa fs s = (fa s).bind fun x => if tyN x = some T then (fs s).bind (g x) else .bad := rfl
@[simp] theorem tyN_str (x : List Nat) : tyN (.str x) = some "str" := rfl
@[simp] theorem tyN_lst (x : List D) : tyN (.lst x) = some "list" := rfl
@[simp] theorem tyN_tup (x : List D) : tyN (.tup x) = some "tuple" := rfl
@[simp] theorem tyN_int (x : Int) : tyN (.int x) = some "int" := rfl
@[simp] theorem tyN_bl (x : Bool) : tyN (.bl x) = some "bool" := rfl
@[simp] theorem tyN_non : tyN .non = some "NoneType" := rfl
@[simp] theorem tyN_dic (ks : List Key) (vs : List D) : tyN (.dic ks vs) = some "dict" := rfl

theorem forR_then {β : Type} {step : D → SS → RS} {i j : Int} {s : SS} {k : RS → β} {Y : β} (P : Nat → SS → Prop) (h0 : P 0 s)
    (hs : ∀ (k : Nat) s, (k : Int) < j - i → P k s → ∃ s', step (.int (i + k)) s = .nx s' ∧ P (k + 1) s') (he : ∀ s', P (j - i).toNat s' → k (.nx s') = Y) : k (forL step (rangeD i j) s) = Y := by
  obtain ⟨s', q, h⟩ := forR_nx P i j s h0 hs
  rw [q]
  exact he s' h
theorem forM_then {α β : Type} {c : α → D} {xs : List α} {step : D → SS → RS} {s : SS} {k : RS → β} {Y : β} (P : Nat → SS → Prop) (h0 : P 0 s)
    (hs : ∀ (i : Nat) (a : α) s, xs[i]? = some a → P i s → ∃ s', step (c a) s = .nx s' ∧ P (i + 1) s') (he : ∀ s', P xs.length s' → k (.nx s') = Y) : k (forL step (xs.map c) s) = Y := by
  obtain ⟨s', q, h⟩ := forL_nx P (xs.map c) s h0 fun i d s h p => by
    rw [List.getElem?_map] at h
    cases q : xs[i]? with
    | none => rw [q] at h; cases h
    | some a => rw [q] at h; cases h; exact hs i a s q p
  rw [q]
  exact he s' (by simpa using h)
end
end Z
namespace ZS
open PySem PyProof.Rows Srt SrtO
section
variable {prog : Program} {w : World} {A : Around} {E : Value → Shared → Prop} {s : Shared}
def sv : Value → List Nat
  | .str x _ => x.cps.toList
  | _ => []
def svS : Value → Str
  | .str x _ => x
  | _ => ⟨#[]⟩
def ltSv (v u : Value) : Bool := decide (sv v < sv u)
theorem swo_str : Swo ltSv := by
  refine ⟨fun x y h => ?_, fun x y z h1 h2 => ?_⟩
  · exact decide_eq_false (List.lt_asymm (of_decide_eq_true h))
  · have a := of_decide_eq_false h1
    have b := of_decide_eq_false h2
    exact decide_eq_false (List.not_lt.mpr (List.le_trans (List.not_lt.mp a) (List.not_lt.mp b)))
theorem str_cmp {vs : List Value} {ns : List Str} (hI : StrsAre vs ns) : Cmp prog w A s oneType' (fun p => p.1 ∈ vs) (lt2 ltSv) := by
  intro p q hm hm'
  obtain ⟨a, t, e⟩ := hI.all _ hm
  obtain ⟨b, u, e'⟩ := hI.all _ hm'
  show wpAny (model prog w) A (keyLt' oneType' p.1 q.1) (fun r s' => s' = s ∧ r = ltSv p.1 q.1) (fun _ _ => False) s
  rw [e, e', keyLt'_oneType]
  exact oneLt_str ⟨rfl, rfl⟩
theorem strs_sortable {a : Addr} {vs : List Value} {ns : List Str} (hI : StrsAre vs ns) (h2 : 2 ≤ vs.length) : SortableO prog w A s a vs ltSv := by
  intro h' _
  refine ⟨oneType', fun Q E hq => ?_, str_cmp hI⟩
  match vs, hI, h2 with
  | v1 :: v2 :: rest, hI, _ =>
    rw [keyKind_strs hI]
    exact wpAny_pure hq
  | [], _, h => exact absurd h (by decide)
  | [v], _, h => exact absurd h (by simp)
theorem strs_ss : ∀ {vs : List Value}, (∀ v ∈ vs, ∃ i t, v = Value.str i t) → StrsAre vs (vs.map svS)
  | [], _ => .nil
  | v :: vs, h => by
    obtain ⟨i, t, e⟩ := h v List.mem_cons_self
    subst e
    exact .cons i t (strs_ss fun u hu => h u (List.mem_cons_of_mem _ hu))
theorem ss_strs : ∀ {vs : List Value} {ns : List Str}, StrsAre vs ns → vs.map svS = ns
  | _, _, .nil => rfl
  | _, _, .cons n t r => congrArg (n :: ·) (ss_strs r)
theorem strs_out {vs out : List Value} {ns : List Str} (hI : StrsAre vs ns) (hs : Srtd ltSv out) (hb : Stb ltSv out vs) : StrsAre out (out.map svS) ∧ (out.map svS).Perm ns ∧ (out.map svS).Pairwise (fun x y => ¬ y.cps.toList < x.cps.toList) := by
  have hall : ∀ v ∈ out, ∃ i t, v = Value.str i t := fun v hv => hI.all v (hb.perm.mem_iff.mp hv)
  refine ⟨strs_ss hall, ?_, ?_⟩
  · have q := hb.perm.map svS
    rw [ss_strs hI] at q
    exact q
  · refine List.pairwise_map.mpr (List.Pairwise.imp_of_mem (fun {x y} hx hy h => ?_) hs)
    obtain ⟨i, t, rfl⟩ := hall x hx
    obtain ⟨j, u, rfl⟩ := hall y hy
    exact of_decide_eq_false h
end
end ZS
namespace Z
noncomputable section
open PySem PySem.Spec PySem.P PyProof.Rows L2
section
variable {X : Cx} {C : CT} {W : WX}
def rSortedT (K : PySem.W.Frag) : List V → Hp → VK → Prop := fun vs H Q => ∃ (a : Addr) (xs : List Str), vs = [V.ref a] ∧ SqL K H a (xs.map V.str) ∧
  ∀ (ys : List Str) (p : Addr), ys.Perm xs → ys.Pairwise (fun x y => ¬ y.cps.toList < x.cps.toList) → H p = none → Q (.ref p) (upd H p (.lst (ys.map V.str)))
theorem cr_sortedT : CallR X (.builtin "sorted") (rSortedT X.K) := by
  intro pins s σ H vs us Q I r h
  obtain ⟨a, ns, rfl, hs, q⟩ := h
  obtain ⟨its, rv, hl, hz⟩ := I.list hs
  rw [Vals.ref1 r]
  have hi := rv.strs
  refine SrtO.sorted_ord ZS.swo_str hl.isList (by rw [← rv.length]; exact hz) (fun h2 h₁ a' _ _ => ZS.strs_sortable hi h2) fun out h1 h2 => ?_
  obtain ⟨k1, k2, k3⟩ := ZS.strs_out hi h1 h2
  obtain ⟨ep, he'⟩ := PyProof.Rows.sortedAll_at s.heap its out.toArray
  have hlen : ((out.map ZS.svS).map V.str).length ≤ sizeLine := by
    rw [List.length_map, k2.length_eq]
    rw [List.length_map] at hz
    exact hz
  exact ⟨.ref _, upd H (s.heap.objs.size + 1) (.lst ((out.map ZS.svS).map V.str)), I.laid (t' := s.toks) (fun _ _ => PyProof.Rows.sortedAll_old) (Nat.le_succ _) ⟨hlen, out, ep, vals_of_strs k1, he'⟩, rfl, q _ _ k2 k3 (I.hok.fresh (Nat.le_succ _))⟩
def sortT (xs : List (List Nat)) : List (List Nat) := xs.mergeSort fun a b => !ltS b a
def sortI (xs : List Int) : List Int := xs.mergeSort fun a b => decide (a ≤ b)
theorem sortT_perm (xs : List (List Nat)) : (sortT xs).Perm xs := List.mergeSort_perm _ _
theorem sortI_perm (xs : List Int) : (sortI xs).Perm xs := List.mergeSort_perm _ _
theorem sortT_sorted (xs : List (List Nat)) : (sortT xs).Pairwise fun x y => ¬ y < x := by
  have := List.pairwise_mergeSort (le := fun a b : List Nat => !ltS b a) (fun a b c h1 h2 => by
    simp [ltS] at h1 h2 ⊢
    exact List.le_trans h1 h2) (fun a b => by
    simp [ltS]
    exact List.le_total a b) xs
  exact this.imp fun h => by simpa [ltS] using h
theorem sortI_sorted (xs : List Int) : (sortI xs).Pairwise (· ≤ ·) := by
  have := List.pairwise_mergeSort (le := fun a b : Int => decide (a ≤ b)) (fun a b c h1 h2 => by
    simp at h1 h2 ⊢
    omega) (fun a b => by
    simp
    omega) xs
  exact this.imp fun h => by simpa using h
theorem sortT_uniq {xs ys : List (List Nat)} (hp : ys.Perm xs) (hs : ys.Pairwise fun x y => ¬ y < x) : ys = sortT xs :=
  List.Perm.eq_of_pairwise (le := fun x y => ¬ y < x) (fun a b _ _ h1 h2 => List.le_antisymm (List.not_lt.mp h1) (List.not_lt.mp h2)) hs (sortT_sorted xs) (hp.trans (sortT_perm xs).symm)
theorem sortI_uniq {xs ys : List Int} (hp : ys.Perm xs) (hs : ys.Pairwise (· ≤ ·)) : ys = sortI xs :=
  List.Perm.eq_of_pairwise (le := (· ≤ ·)) (fun a b _ _ h1 h2 => by omega) hs (sortI_sorted xs) (hp.trans (sortI_perm xs).symm)
def sortD : List D → R D
  | [.lst x] => match strsD x with
    | some ys => .ok (.lst ((sortT ys).map .str))
    | none => match intsD x with
      | some ns => .ok (.lst ((sortI ns).map .int))
      | none => .bad
  | _ => .bad
theorem sortD_ne : NoExL sortD := fun x c vs h => by
  unfold sortD at h
  split at h
  · split at h
    · cases h
    · split at h <;> cases h
  · cases h
theorem repL_ints {G : GE} {F : Hp} : ∀ (ns : List Int), RepL G F (ns.map .int) (ns.map V.int)
  | [] => RepL.nil
  | _ :: ns => RepL.cons (rep_int.mpr rfl) (repL_ints ns)
theorem repL_strs {G : GE} {F : Hp} : ∀ (ns : List (List Nat)), (∀ x ∈ ns, okS x = true) → RepL G F (ns.map .str) ((ns.map toS).map V.str)
  | [], _ => RepL.nil
  | x :: ns, h => RepL.cons (rep_str.mpr ⟨rfl, h x List.mem_cons_self⟩) (repL_strs ns fun y hy => h y (List.mem_cons_of_mem _ hy))
theorem call_sortD (v : Pl X C W) : CallR X (.builtin "sorted") (rCF C.G sortD) := by
  intro pins s σ H xs us Q I r h
  obtain ⟨F, ds, S, r2, p⟩ := h
  unfold sortD at p
  split at p
  · obtain ⟨u, rfl, b⟩ := pair1 r2
    obtain ⟨a, ys, rfl, q, rr⟩ := bor_lst S b
    rw [← v.K] at q
    split at p
    · rename_i ns hn
      obtain ⟨e, hok⟩ := strs_rep hn rr
      rw [e] at q
      refine cr_sortedT pins s σ H _ us Q I r ⟨a, ns.map toS, rfl, q, fun zs p' hp hs hf => ?_⟩
      have h1 : zs = (zs.map fun z => z.cps.toList).map toS := by
        rw [List.map_map]
        conv => lhs; rw [← List.map_id zs]
        refine List.map_congr_left fun z _ => ?_
        show z = ⟨z.cps.toList.toArray⟩
        rw [Array.toArray_toList]
      have h2 : zs.map (fun z => z.cps.toList) = sortT ns := by
        apply sortT_uniq
        · have := hp.map fun z : Str => z.cps.toList
          rw [List.map_map] at this
          have e2 : ns.map ((fun z : Str => z.cps.toList) ∘ toS) = ns := by
            conv => rhs; rw [← List.map_id ns]
            exact List.map_congr_left fun z _ => rfl
          rwa [e2] at this
        · exact List.pairwise_map.mpr hs
      rw [h1, h2]
      exact p.lst S (repL_strs _ fun x hx => hok x ((sortT_perm ns).mem_iff.mp hx)) p' hf
    · split at p
      · rename_i ns hn
        rw [ints_rep hn rr] at q
        refine cr_sortedI pins s σ H _ us Q I r ⟨a, ns, rfl, q, fun zs p' hp hs hf => ?_⟩
        rw [sortI_uniq hp hs]
        exact p.lst S (repL_ints _) p' hf
      · exact p.elim
  · exact p.elim
theorem strs_cmp {prog : Program} {w : World} {A : Around} {P : Nat → Value → Prop} (val : Nat → List Nat) (hval : ∀ i v, P i v → ∃ x t, v = .str x t ∧ x.cps.toList = val i) :
    CmpOf prog w A .Lt P (fun i j => decide (val i < val j)) := fun i j vi vj s Q E hi hj h => by
  obtain ⟨x, t, rfl, e1⟩ := hval i vi hi
  obtain ⟨y, u, rfl, e2⟩ := hval j vj hj
  dsimp only at h
  rw [← e1, ← e2] at h
  exact richCompare_gives (op := .Lt) (typeIs_str s _ t) (typeIs_str s _ u) PySem.F.slot_str_lt PySem.F.entry_str_lt (PySem.F.args_str_lt_2 _ _) (gives_str_lt _ _ t u) (fun x => nomatch x) h
theorem argBest_lex (val : Nat → List Nat) : ∀ k, argBest (fun i j => decide (val i < val j)) k ≤ k ∧ ∀ j, j ≤ k → ¬ val j < val (argBest (fun i j => decide (val i < val j)) k)
  | 0 => ⟨Nat.le_refl _, fun j hj => by
    have : j = 0 := by omega
    subst this
    exact List.lt_irrefl _⟩
  | k + 1 => by
    obtain ⟨h1, h2⟩ := argBest_lex val k
    simp only [argBest]
    by_cases hc : val (k + 1) < val (argBest (fun i j => decide (val i < val j)) k)
    · rw [if_pos (by simpa using hc)]
      refine ⟨Nat.le_refl _, fun j hj => ?_⟩
      rcases Nat.lt_or_ge j (k + 1) with hlt | hge
      · exact fun z => h2 j (by omega) (List.lt_trans z hc)
      · have : j = k + 1 := by omega
        subst this; exact List.lt_irrefl _
    · rw [if_neg (by simpa using hc)]
      refine ⟨by omega, fun j hj => ?_⟩
      rcases Nat.lt_or_ge j (k + 1) with hlt | hge
      · exact h2 j (by omega)
      · have : j = k + 1 := by omega
        subst this; exact hc
def rMinT (K : PySem.W.Frag) : List V → Hp → VK → Prop := fun vs H Q => ∃ (a : Addr) (ns : List Str), vs = [V.ref a] ∧ SqL K H a (ns.map V.str) ∧ 0 < ns.length ∧ ∀ m, m ∈ ns → (∀ y, y ∈ ns → ¬ y.cps.toList < m.cps.toList) → Q (.str m) H
theorem min_rawT {prog : Program} {w : World} {A : Around} {E : Value → Shared → Prop} {s : Shared} {l : Addr} {its : List Value} {ns : List Str} {Q : Value → Shared → Prop} (hh : A.handled = none) (hl : s.heap.IsList l its.toArray) (hi : StrsAre its ns) (hne : 0 < ns.length)
    (h : ∀ h' tk m t', (∀ b o, s.heap.get? b = some o → h'.get? b = some o) → m ∈ ns → (∀ y, y ∈ ns → ¬ y.cps.toList < m.cps.toList) → Q (.str m t') { s with heap := h', toks := tk }) : wpAny (model prog w) A (call (.builtin "min") [.ref l]) Q E s := by
  have hlt : l < s.heap.objs.size := by obtain ⟨_, e, _⟩ := hl; exact Heap.lt_size e
  have hlen : its.length = ns.length := hi.length
  have hval : ∀ (i : Nat) (v : Value), its.toArray[i]? = some v → ∃ (x : Str) (t : Tok), v = .str x t ∧ x.cps.toList = ((ns[i]?).getD (⟨#[]⟩ : Str)).cps.toList := fun i v hv => by
    have hss := ZS.ss_strs hi
    rw [List.getElem?_toArray] at hv
    obtain ⟨x, t, rfl⟩ := hi.all v (List.mem_of_getElem? hv)
    refine ⟨x, t, rfl, ?_⟩
    rw [← hss, List.getElem?_map, hv]
    rfl
  refine call_min_walk (wpAny_pyIter_list hl ?_)
  refine ⟨_, _, _, _, _, _, _, rfl, Walks.list (A := A.in1) hh _ l (Nat.ne_of_lt hlt) its.toArray, ⟨⟨_, Heap.get?_push_size _ rfl, rfl, rfl⟩, hl.push _⟩, fun b hb => ?_, by simpa [hlen] using hne, strs_cmp (fun i => ((ns[i]?).getD (⟨#[]⟩ : Str)).cps.toList) hval, fun v h' tk hP hk => ?_⟩
  · show b < (s.heap.push _).objs.size
    rw [Heap.size_push]
    rcases List.mem_cons.mp hb with rfl | hb
    · exact Nat.lt_succ_self _
    · rcases List.mem_cons.mp hb with rfl | hb
      · exact Nat.lt_succ_of_lt hlt
      · cases hb
  · obtain ⟨b1, b2⟩ := argBest_lex (fun i => ((ns[i]?).getD (⟨#[]⟩ : Str)).cps.toList) (its.toArray.size - 1)
    generalize argBest (fun i j => decide (((ns[i]?).getD (⟨#[]⟩ : Str)).cps.toList < ((ns[j]?).getD (⟨#[]⟩ : Str)).cps.toList)) (its.toArray.size - 1) = at' at hP b1 b2
    obtain ⟨x, t, rfl, e⟩ := hval _ _ hP
    have hat : at' < ns.length := by simp at b1; omega
    have hx : ns[at']? = some x := by
      have hss := ZS.ss_strs hi
      rw [← hss, List.getElem?_map]
      rw [List.getElem?_toArray] at hP
      rw [hP]
      rfl
    refine h h' tk x t (old_kept hk) (List.mem_of_getElem? hx) fun y hy => ?_
    obtain ⟨j, hj, rfl⟩ := List.mem_iff_getElem.mp hy
    have := b2 j (by simp; omega)
    simpa [hx, hj] using this
theorem cr_minT (hc : X.calm = true) : CallR X (.builtin "min") (rMinT X.K) := by
  intro pins s σ H vs us Q I r h
  obtain ⟨a, ns, rfl, hs, hne, q⟩ := h
  obtain ⟨its, rv, hl, _⟩ := I.list hs
  rw [Vals.ref1 r]
  exact min_rawT (I.ok.hd hc) hl.isList rv.strs hne fun h' tk m t' hk h1 h2 => ⟨.str _, H, I.kept hk, ⟨_, rfl⟩, q m h1 h2⟩
def minT (y : List Nat) (ys : List (List Nat)) : List Nat := ys.foldl (fun m x => if x < m then x else m) y
def minI (y : Int) (ys : List Int) : Int := ys.foldl (fun m x => if x < m then x else m) y
theorem minT_spec : ∀ (ys : List (List Nat)) (y : List Nat), minT y ys ∈ y :: ys ∧ ∀ x ∈ y :: ys, ¬ x < minT y ys
  | [], y => ⟨List.mem_cons_self, fun x hx => by
    rcases List.mem_cons.mp hx with rfl | hx
    · exact List.lt_irrefl _
    · cases hx⟩
  | z :: ys, y => by
    obtain ⟨h1, h2⟩ := minT_spec ys (if z < y then z else y)
    have e : minT y (z :: ys) = minT (if z < y then z else y) ys := rfl
    rw [e]
    have h3 := h2 _ List.mem_cons_self
    refine ⟨?_, fun x hx => ?_⟩
    · rcases List.mem_cons.mp h1 with e | h
      · rw [e]
        split
        · exact List.mem_cons_of_mem _ List.mem_cons_self
        · exact List.mem_cons_self
      · exact List.mem_cons_of_mem _ (List.mem_cons_of_mem _ h)
    · by_cases q : z < y
      · simp only [if_pos q] at *
        rcases List.mem_cons.mp hx with rfl | hx
        · grind
        · rcases List.mem_cons.mp hx with rfl | hx
          · exact h3
          · exact h2 _ (List.mem_cons_of_mem _ hx)
      · simp only [if_neg q] at *
        rcases List.mem_cons.mp hx with rfl | hx
        · exact h3
        · rcases List.mem_cons.mp hx with rfl | hx
          · grind
          · exact h2 _ (List.mem_cons_of_mem _ hx)
theorem minI_spec : ∀ (ys : List Int) (y : Int), minI y ys ∈ y :: ys ∧ ∀ x ∈ y :: ys, minI y ys ≤ x
  | [], y => by simp [minI]
  | z :: ys, y => by
    obtain ⟨h1, h2⟩ := minI_spec ys (if z < y then z else y)
    have e : minI y (z :: ys) = minI (if z < y then z else y) ys := rfl
    rw [e]
    have h3 := h2 _ List.mem_cons_self
    by_cases q : z < y
    · simp only [if_pos q] at *
      simp only [List.mem_cons] at *
      refine ⟨by rcases h1 with h | h <;> simp [h], fun x hx => ?_⟩
      rcases hx with rfl | rfl | hx
      · omega
      · omega
      · exact h2 x (.inr hx)
    · simp only [if_neg q] at *
      simp only [List.mem_cons] at *
      refine ⟨by rcases h1 with h | h <;> simp [h], fun x hx => ?_⟩
      rcases hx with rfl | rfl | hx
      · omega
      · omega
      · exact h2 x (.inr hx)
theorem minT_uniq {y : List Nat} {ys : List (List Nat)} {m : List Nat} (h1 : m ∈ y :: ys) (h2 : ∀ x ∈ y :: ys, ¬ x < m) : m = minT y ys := by
  obtain ⟨a, b⟩ := minT_spec ys y
  have := h2 _ a
  have := b _ h1
  exact List.le_antisymm (List.not_lt.mp ‹¬ minT y ys < m›) (List.not_lt.mp ‹¬ m < minT y ys›)
def min1D : List D → R D
  | [.lst x] => match strsD x with
    | some (y :: ys) => .ok (.str (minT y ys))
    | some [] => .bad
    | none => match intsD x with
      | some (n :: ns) => .ok (.int (minI n ns))
      | _ => .bad
  | _ => .bad
theorem min1D_ne : NoExL min1D := fun x c vs h => by
  unfold min1D at h
  split at h
  · split at h
    · cases h
    · cases h
    · split at h <;> cases h
  · cases h
theorem call_min1D (v : Pl X C W) : CallR X (.builtin "min") (rC C.G min1D) := by
  intro pins s σ H xs us Q I r h
  obtain ⟨F, ds, S, r2, p⟩ := h
  unfold min1D at p
  split at p
  · obtain ⟨u, rfl, b⟩ := pair1 r2
    obtain ⟨a, ys, rfl, q, rr⟩ := bor_lst S b
    rw [← v.K] at q
    split at p
    · rename_i y0 ns hn
      obtain ⟨e, hok⟩ := strs_rep hn rr
      rw [e] at q
      refine cr_minT v.calm pins s σ H _ us Q I r ⟨a, (y0 :: ns).map toS, rfl, q, by simp, fun m hm hall => ?_⟩
      obtain ⟨m', hm', rfl⟩ := List.mem_map.mp hm
      have e2 : m' = minT y0 ns := minT_uniq hm' fun x hx => hall (toS x) (List.mem_map_of_mem hx)
      have := p (.str (toS m')) F H (Ext.refl S) (by rw [← e2]; exact rep_str.mpr ⟨rfl, hok _ hm'⟩)
      exact this
    · exact p.elim
    · split at p
      · rename_i n0 ns hn
        rw [ints_rep hn rr] at q
        refine cr_min v.calm pins s σ H _ us Q I r ⟨a, n0 :: ns, rfl, q, by simp, fun m hm hall => ?_⟩
        obtain ⟨b1, b2⟩ := minI_spec ns n0
        have e2 : m = minI n0 ns := by
          have := hall _ b1
          have := b2 _ hm
          omega
        rw [e2]
        exact p.int S
      · exact p.elim
  · exact p.elim
end
end
end Z
namespace Z
noncomputable section
open PySem PySem.Spec PySem.P PyProof.Rows L2
@[simp] theorem min1D_s (y : List Nat) (ys : List (List Nat)) : min1D [.lst (.str y :: ys.map .str)] = .ok (.str (minT y ys)) := by
  have : strsD (D.str y :: ys.map .str) = some (y :: ys) := strsD_map (y :: ys)
  unfold min1D
  dsimp only
  rw [this]
@[simp] theorem sortD_s (ys : List (List Nat)) : sortD [.lst (ys.map .str)] = .ok (.lst ((sortT ys).map .str)) := by
  unfold sortD
  dsimp only
  rw [strsD_map]
theorem eqvL_map (xs : List (List Nat)) : ∀ ys : List (List Nat), eqvL (xs.map .str) (ys.map .str) = decide (xs = ys) := by
  induction xs with
  | nil => intro ys; cases ys <;> simp [eqvL]
  | cons x xs ih => intro ys; cases ys with
    | nil => simp [eqvL]
    | cons y ys => simp only [List.map_cons, eqvL, eqv, ih]; simp [Bool.beq_eq_decide_eq]
def rot (w : List Nat) (k : Nat) : List Nat := w.drop k ++ w.take k
def rots (w : List Nat) : List (List Nat) := (List.range w.length).map (rot w)
def lrot (w : List Nat) : List Nat := match rots w with
  | [] => []
  | y :: ys => minT y ys
theorem rot_len (w : List Nat) (k : Nat) : (rot w k).length = w.length := by simp [rot]; omega
theorem rot_zero (w : List Nat) : rot w 0 = w := by simp [rot]
theorem rot_get (w : List Nat) (k i : Nat) (hk : k ≤ w.length) (hi : i < w.length) : (rot w k)[i]? = w[(i + k) % w.length]? := by
  unfold rot
  by_cases h : i < w.length - k
  · rw [List.getElem?_append_left (by simpa using h), List.getElem?_drop, Nat.mod_eq_of_lt (by omega), Nat.add_comm]
  · rw [List.getElem?_append_right (by simpa using h), List.getElem?_take, List.length_drop, if_pos (by omega)]
    congr 1
    have e : i + k = (i - (w.length - k)) + w.length := by omega
    rw [e, Nat.add_mod_right, Nat.mod_eq_of_lt (by omega)]
theorem rot_rot (w : List Nat) (i j : Nat) (hi : i ≤ w.length) (hj : j ≤ w.length) (hw : 0 < w.length) : rot (rot w i) j = rot w ((i + j) % w.length) := by
  apply List.ext_getElem?
  intro m
  by_cases hm : m < w.length
  · rw [rot_get _ _ _ (by rw [rot_len]; exact hj) (by rw [rot_len]; exact hm), rot_len, rot_get _ _ _ hi (Nat.mod_lt _ hw), rot_get _ _ _ (Nat.le_of_lt (Nat.mod_lt _ hw)) hm]
    rw [Nat.mod_add_mod, Nat.add_mod_mod, Nat.add_assoc, Nat.add_comm j i]
  · rw [List.getElem?_eq_none (by rw [rot_len, rot_len]; omega), List.getElem?_eq_none (by rw [rot_len]; omega)]
theorem rot_full (w : List Nat) : rot w w.length = w := by simp [rot]
theorem mem_rots {w x : List Nat} : x ∈ rots w ↔ ∃ k, k < w.length ∧ x = rot w k := by
  unfold rots
  rw [List.mem_map]
  constructor
  · rintro ⟨k, hk, rfl⟩; exact ⟨k, by simpa using hk, rfl⟩
  · rintro ⟨k, hk, rfl⟩; exact ⟨k, by simpa using hk, rfl⟩
theorem rots_len (w : List Nat) : (rots w).length = w.length := by simp [rots]
theorem rots_rot {w : List Nat} {i : Nat} (hi : i < w.length) {x : List Nat} : x ∈ rots (rot w i) ↔ x ∈ rots w := by
  have hw : 0 < w.length := by omega
  rw [mem_rots, mem_rots, rot_len]
  constructor
  · rintro ⟨k, hk, rfl⟩
    exact ⟨(i + k) % w.length, Nat.mod_lt _ hw, rot_rot w i k (by omega) (by omega) hw⟩
  · rintro ⟨k, hk, rfl⟩
    refine ⟨(k + (w.length - i)) % w.length, Nat.mod_lt _ hw, ?_⟩
    rw [rot_rot w i _ (by omega) (Nat.le_of_lt (Nat.mod_lt _ hw)) hw, Nat.add_mod_mod]
    have : i + (k + (w.length - i)) = k + w.length := by omega
    rw [this, Nat.add_mod_right, Nat.mod_eq_of_lt hk]
theorem self_rots {w : List Nat} (hw : w ≠ []) : w ∈ rots w := mem_rots.mpr ⟨0, List.length_pos_iff.mpr hw, (rot_zero w).symm⟩
theorem rots_cons {w : List Nat} (hw : w ≠ []) : ∃ ys, rots w = w :: ys := by
  have h := List.length_pos_iff.mpr hw
  unfold rots
  obtain ⟨n, hn⟩ : ∃ n, w.length = n + 1 := ⟨w.length - 1, by omega⟩
  rw [hn, List.range_succ_eq_map, List.map_cons, rot_zero]
  exact ⟨_, rfl⟩
theorem lrot_spec {w : List Nat} (hw : w ≠ []) : lrot w ∈ rots w ∧ ∀ x ∈ rots w, ¬ x < lrot w := by
  obtain ⟨ys, e⟩ := rots_cons hw
  unfold lrot
  rw [e]
  exact minT_spec ys w
theorem lrot_uniq {w m : List Nat} (hw : w ≠ []) (h1 : m ∈ rots w) (h2 : ∀ x ∈ rots w, ¬ x < m) : m = lrot w := by
  obtain ⟨a, b⟩ := lrot_spec hw
  have h3 := h2 _ a
  have h4 := b _ h1
  exact List.le_antisymm (List.not_lt.mp h3) (List.not_lt.mp h4)
theorem lrot_nil {w : List Nat} (hw : w ≠ []) : lrot w ≠ [] := by
  obtain ⟨k, h, e⟩ := mem_rots.mp (lrot_spec hw).1
  intro z
  have := congrArg List.length e
  rw [z, rot_len] at this
  simp at this
  omega
theorem lrot_len {w : List Nat} (hw : w ≠ []) : (lrot w).length = w.length := by
  obtain ⟨k, h, e⟩ := mem_rots.mp (lrot_spec hw).1
  rw [e, rot_len]
theorem lrot_rot {w : List Nat} {i : Nat} (hi : i < w.length) : lrot (rot w i) = lrot w := by
  have hw : w ≠ [] := by intro z; subst z; simp at hi
  have hw2 : rot w i ≠ [] := by intro z; have := rot_len w i; rw [z] at this; simp at this; omega
  obtain ⟨a, b⟩ := lrot_spec hw
  exact (lrot_uniq hw2 ((rots_rot hi).mpr a) fun x hx => b x ((rots_rot hi).mp hx)).symm
@[simp] theorem eqD_b (a b : Bool) : eqD (.bl a) (.bl b) = .ok (.bl (a == b)) := rfl
@[simp] theorem neD_b (a b : Bool) : neD (.bl a) (.bl b) = .ok (.bl (!(a == b))) := rfl
@[simp] theorem isi_str (x : List Nat) : isiD "str" (.str x) = .ok (.bl true) := rfl
@[simp] theorem isi_int (x : Int) : isiD "int" (.int x) = .ok (.bl true) := rfl
@[simp] theorem isi_ib (x : Int) : isiD "bool" (.int x) = .ok (.bl false) := rfl
@[simp] theorem isi_bb (x : Bool) : isiD "bool" (.bl x) = .ok (.bl true) := rfl
@[simp] theorem isi_lst (x : List D) : isiD "list" (.lst x) = .ok (.bl true) := rfl
@[simp] theorem isi_tup (x : List D) : isiD "tuple" (.tup x) = .ok (.bl true) := rfl
theorem letter_ok (i : Int) (h : 0 ≤ i) (h2 : i < 6) : ixD (.str [97, 98, 99, 100, 101, 102]) (.int i) = .ok (.str [97 + i.toNat]) := by
  have hz : ([97, 98, 99, 100, 101, 102] : List Nat).length ≤ SZ := le_sz (by decide)
  apply ixD_s _ _ h _ hz
  have : i = 0 ∨ i = 1 ∨ i = 2 ∨ i = 3 ∨ i = 4 ∨ i = 5 := by omega
  rcases this with rfl | rfl | rfl | rfl | rfl | rfl <;> rfl
def Lets (kd : Int) (w : List Nat) : Prop := ∀ x ∈ w, 97 ≤ x ∧ (x : Int) < 97 + kd
theorem Lets.nil {kd : Int} : Lets kd [] := fun _ h => by cases h
theorem Lets.take {kd : Int} {a : List Nat} (h : Lets kd a) (n : Nat) : Lets kd (a.take n) := fun x hx => h x (List.mem_of_mem_take hx)
theorem Lets.drop {kd : Int} {a : List Nat} (h : Lets kd a) (n : Nat) : Lets kd (a.drop n) := fun x hx => h x (List.mem_of_mem_drop hx)
theorem Lets.one {kd i : Int} (h : 0 ≤ i) (h2 : i < kd) : Lets kd [97 + i.toNat] := fun x hx => by
  rw [List.mem_singleton] at hx
  subst hx
  omega
theorem depL_strs (xs : List (List Nat)) : depL (xs.map .str) = 0 := by
  induction xs with
  | nil => simp [depL]
  | cons x xs ih => simp only [List.map_cons, depL, ih, dep]; rfl
theorem idxL_str {xs : List (List Nat)} {y : List Nat} (h : y ∈ xs) : idxL (.lst (xs.map .str)) [.str y] = .ok (.int (xs.findIdx (· == y) : Nat)) := by
  have e : (fun z => eqv z (D.str y)) ∘ D.str = fun x => x == y := by
    funext x
    rfl
  unfold idxL
  dsimp only
  rw [depL_strs, if_pos ⟨by omega, by simp [dep]⟩, List.any_map, e, List.findIdx_map, e, if_pos]
  simpa using h
def abc (k : Int) : List Nat := [97, 98, 99, 100, 101, 102].take k.toNat
theorem mem_abc {k : Int} (h1 : 1 ≤ k) (h2 : k ≤ 6) {c : Nat} : c ∈ abc k ↔ 97 ≤ c ∧ (c : Int) < 97 + k := by
  have : k = 1 ∨ k = 2 ∨ k = 3 ∨ k = 4 ∨ k = 5 ∨ k = 6 := by omega
  rcases this with rfl | rfl | rfl | rfl | rfl | rfl <;> simp [abc] <;> omega
def goodW (w : List Nat) (k : Int) : Bool := decide (1 ≤ w.length) && decide (w.length ≤ 24) && w.all fun c => decide (97 ≤ c) && decide ((c : Int) < 97 + k)
theorem goodW_iff {w : List Nat} {k : Int} : goodW w k = true ↔ 1 ≤ w.length ∧ w.length ≤ 24 ∧ Lets k w := by
  unfold goodW Lets
  simp [and_assoc]
@[simp] theorem itD_s (x : List Nat) : itD (.str x) = .ok (x.map fun c => .str [c]) := rfl
theorem inS_one (c : Nat) (y : List Nat) : inS [c] y = decide (c ∈ y) := by
  unfold inS
  rw [Bool.eq_iff_iff]
  simp only [List.any_eq_true, List.mem_range, beq_iff_eq, decide_eq_true_eq]
  constructor
  · rintro ⟨i, hi, h⟩
    have : c ∈ (y.drop i).take 1 := by
      have h' : (y.drop i).take 1 = [c] := h
      rw [h']; simp
    exact List.mem_of_mem_drop (List.mem_of_mem_take this)
  · intro h
    obtain ⟨i, hi, rfl⟩ := List.mem_iff_getElem.mp h
    refine ⟨i, by omega, ?_⟩
    show (y.drop i).take 1 = [y[i]]
    rw [List.drop_eq_getElem_cons hi]
    rfl
@[simp] theorem inD_sf (x y : List Nat) : inD false (.str x) (.str y) = .ok (.bl (inS x y)) := by
  show R.ok (D.bl (xor false (inS x y))) = _
  rw [Bool.false_xor]
@[simp] theorem inD_st (x y : List Nat) : inD true (.str x) (.str y) = .ok (.bl (!inS x y)) := by
  show R.ok (D.bl (xor true (inS x y))) = _
  rw [Bool.true_xor]
section
variable {s : SS} {fe : SS → R D}
def getOw : Option Sl → Option (List D)
  | some (.ow (.lst xs)) => some xs
  | _ => none
@[simp] theorem getOw_l (xs : List D) : getOw (some (.ow (.lst xs))) = some xs := rfl
theorem owL_s (i : Nat) : owL s i = getOw s[i]? := by
  unfold owL
  generalize s[i]? = o
  cases o with
  | none => rfl
  | some x => cases x with
    | ow d => cases d <;> rfl
    | _ => rfl
def rMut (s : SS) (i : Nat) (o : Option (List D)) (r : R D) (g : List D → D → R (List D)) : RS := match o with
  | some xs => rE s r fun d s => match g xs d with
    | .ok ys => if ys.length ≤ SZ then .nx (s.set i (.ow (.lst ys))) else .bad
    | _ => .bad
  | none => .bad
theorem sMut_s (i : Nat) (g : List D → D → R (List D)) : sMut i fe g s = rMut s i (getOw s[i]?) (fe s) g := by
  unfold sMut
  rw [owL_s]
  cases getOw s[i]? with
  | none => rfl
  | some xs => rfl
@[simp] theorem sApp_s (i : Nat) : sApp i fe s = rMut s i (getOw s[i]?) (fe s) gApp := sMut_s i gApp
@[simp] theorem rMut_app (i : Nat) (xs : List D) (d : D) : rMut s i (some xs) (.ok d) gApp = if xs.length + 1 ≤ SZ then .nx (s.set i (.ow (.lst (xs ++ [d])))) else .bad := by
  show (if (xs ++ [d]).length ≤ SZ then _ else _) = _
  rw [List.length_append]
  rfl
@[simp] theorem rMut_ex (i : Nat) (xs : List D) (c : Nat) (vs : List D) (g : List D → D → R (List D)) : rMut s i (some xs) (.ex c vs) g = .ex c vs s := rfl
def frzS : Option Sl → Option D
  | some (.ow d) => some d
  | _ => none
@[simp] theorem sFrz_s (i : Nat) (f : SS → RS) : sFrz i f s = f (frz i s) := rfl
def frzG (s : SS) (i : Nat) : Option Sl → SS
  | some (.ow d) => s.set i (.sh d)
  | _ => s
@[simp] theorem frz_g (i : Nat) : frz i s = frzG s i s[i]? := rfl
@[simp] theorem frzG_ow (i : Nat) (d : D) : frzG s i (some (.ow d)) = s.set i (.sh d) := rfl
@[simp] theorem frzG_sh (i : Nat) (d : D) : frzG s i (some (.sh d)) = s := rfl
@[simp] theorem sRetO_s (i : Nat) : sRetO i s = match s[i]? with | some (.ow d) => .rt true d | _ => .bad := rfl
end
@[simp] theorem rng3_i (i j : Int) (h : fit62 i) (h2 : fit62 j) : rng3 [.int i, .int j, .int (-1)] = .ok (downD i j) := by unfold rng3; simp [h, h2]
theorem eqD_ok (d e : D) : eqD d e = if dep d ≤ 64 ∧ dep e ≤ 64 then .ok (.bl (eqv d e)) else .bad := rfl
end
end Z
namespace Z
noncomputable section
open PySem PySem.Spec PySem.P PyProof.Rows L2
def sRaise (c : Nat) : SS → RS := fun s => .ex c [] s
theorem s_raise {X : Cx} {C : CT} {W : WX} {x m : Str} {j c : Nat} {B newId initId : String} {bmB : List Value} {D : Addr} {p p2 pos pos' : Pos} (v : Pl X C W) (F : ExcBaseFacts B newId initId bmB) (q : PySem.W.excIn X.K D bmB newId = true) (gC : X.mg x = some (.ref D))
    (kC : PySem.W.keepIn X.K (.ref D) = true) (r : Raises X (.ref D)) (hx : C.G.xcl c = some (D, [])) (hg : Gl X x) (hdb : (x == ("__debug__" : Str)) = false := by decide) :
    PS X (.Raise (some (.Call (.Name x p) [.Constant (.str m) j p2] [] pos)) none pos') (tS C W (sRaise c)) :=
  ps_imp (ps_raise v.calm v.tk (pmk_own F q gC kC r hg hdb)) fun En σ H ⟨F, sd, S, h⟩ => h (.ref D) none F H σ S (Same.refl F) Lk.refl ⟨D, [], hx, rfl, .inl ⟨rfl, rfl, rfl⟩⟩
section
variable {X : Cx} {pins : List (Addr × Obj)} {σ : L2.St} {H : Hp} {s : Shared}
abbrev suit (X : Cx) (a : Addr) (pn : List (Addr × Obj)) : Cx := { X with A := X.A.mark (some (.ref a)), calm := false, pn := pn, xe := fun _ _ => False }
theorem suit_ok (ok : X.Ok) (a : Addr) (pn : List (Addr × Obj)) : (suit X a pn).Ok :=
  ⟨ok.mod, ok.kind, ok.glob, ok.blt, ok.above, ok.inj, ok.has, ok.cab, (fun z => absurd (show false = true from z) Bool.false_ne_true), ok.frames, ok.stk, ok.exf, ok.bs, ok.bsz, ok.noex, ok.exfs, ok.funs, ok.frf⟩
theorem inv_suit (I : Inv X pins σ H s) {a : Addr} {oe : Obj} {vs : Array Value} {cls : Value} {dx : Option Addr} (ha : s.heap.get? a = some oe) (hd : oe.data = .fields vs) (hz : Zc cls dx oe) (na : H a = none) (nL : a ≠ X.env.locals)
    (nP : ∀ p ∈ X.pn ++ pins, p.1 ≠ a) (n0 : X.s_0.heap.get? a = none) : Inv (suit X a (X.pn ++ pins)) [] σ (upd H a (exo a cls dx)) s := by
  have ne : ∀ {b : Addr} {u : HO}, H b = some u → b ≠ a := fun h => ne_of_none h na
  refine ⟨suit_ok I.ok _ _, I.os, I.bare, ⟨I.base.keep, I.base.slot, fun b o e n hx => ?_, I.base.there, fun b xs e => ?_, fun b o u e => ?_, fun b ps e => ?_⟩, I.loc, I.cell, ?_, fun x c e => ?_, fun p hp => ?_, fun b u e => ?_, I.len⟩
  · have hb : b ≠ a := fun z => by subst z; rw [n0] at e; cases e
    rw [upd_ne hb]
    exact I.base.free b o e n hx
  · have q := I.base.tups b xs e
    rw [upd_ne (ne q)]
    exact q
  · have q := I.base.frzs b o u e
    rw [upd_ne (ne q)]
    exact q
  · obtain ⟨more, q⟩ := I.base.tbls b ps e
    exact ⟨more, by rw [upd_ne (ne q)]; exact q⟩
  · show upd H a (exo a cls dx) X.env.locals = none
    rw [upd_ne (Ne.symm nL)]
    exact I.free
  · have hc : c ≠ a := fun z => by
      subst z
      obtain ⟨v, o, q1, q2⟩ := I.cell x c e
      rw [ha] at q1
      cases q1
      rw [hd] at q2
      cases q2
    show upd H a (exo a cls dx) c = none
    rw [upd_ne hc]
    exact I.freeC x c e
  · have hp' : p ∈ X.pn ++ pins := by rw [List.append_nil] at hp; exact hp
    obtain ⟨q1, q2, q3, q4, q5⟩ := I.pin p hp'
    exact ⟨q1, by rw [upd_ne (nP p hp')]; exact q2, q3, q4, q5⟩
  · by_cases hb : b = a
    · subst hb
      rw [upd_same] at e
      cases e
      exact ⟨⟨oe, vs, ha, hz, hd⟩, ⟨oe, ha⟩, fun h1 h2 ⟨o1, v1, q1, q2, q3⟩ k => ⟨o1, v1, k _ q1, q2, q3⟩⟩
    · rw [upd_ne hb] at e
      exact (I.hok b u e).stay (fun c w' hc q => q) (fun c q => by rw [upd_ne (ne q)]; exact q) fun c xs q => by rw [upd_ne (ne q)]; exact q
theorem inv_unsuit {a : Addr} {pn' : List (Addr × Obj)} (I : Inv (suit X a (X.pn ++ pins)) pn' σ H s) (ok : X.Ok) : Inv X pins σ H s :=
  ⟨ok, I.os, I.bare, I.base, I.loc, I.cell, I.free, I.freeC, fun p hp => I.pin p (List.mem_append_left _ hp), I.hok, I.len⟩
def wEx (K : PySem.W.Frag) (c : Value) (i : Nat) (ts : TS) (Wout : WX) (D : Ends) : WX := fun cls d σ H =>
  ∃ b, PySem.W.exmOne K cls c = some b ∧ (b = true → ∀ a, H a = none → ts { nx := fun σ' H' => D.nx (σ'.set i none) H', rt := D.rt, bk := fun σ' H' => D.bk (σ'.set i none) H', ct := fun σ' H' => D.ct (σ'.set i none) H' } (σ.set i (some (.ref a))) (upd H a (exo a cls d))) ∧
    (b = false → Wout cls d σ H)
end
section
variable {X : Cx} {x n : Str} {c : Value} {i : Nat} {body suite : List Stmt} {b₀ : Stmt} {np pos pos' : Pos} {tb : WX → TS} {ts : TS} {Wout : WX}
theorem ps_try_exo (hs : X.stack = X.env :: X.outer) (hf : X.env.frame = some X.env.locals) (hex : X.ex = []) (hN : X.N.Nodup) (hi : X.N[i]? = some n) (hln : X.env.kindOf n = some .local) (hc : Names X x c) (tk : Takes X Wout)
    (hb : ∀ (W : WX) (pn : List (Addr × Obj)) (xe : Value → Shared → Prop), Takes (X.tr pn xe) W → PassesOwn (model X.prog X.w) X.A X.env xe → PSs (X.tr pn xe) body (tb W))
    (hsu : ∀ (a : Addr) (pn : List (Addr × Obj)), PSs (suit X a pn) (b₀ :: suite) ts) :
    PS X (.Try body [.ExceptHandler (some (.Name x np)) (some n) (b₀ :: suite) pos'] [] [] pos) (fun D σ H => tb (wEx X.K c i ts Wout D) D σ H) := by
  refine ⟨fun pins s σ H D I h => ?_⟩
  have ok := I.ok
  have hfr : X.A.frames = some (X.env :: X.outer) := by rw [ok.frames, hs]
  have hloc : Loc X.env.scope n := .inl hln
  refine wpAny_Try_except ?_
  refine wpAny_mono ((hb (wEx X.K c i ts Wout D) (X.pn ++ pins) (fun e s₁ => wpAny (model X.prog X.w) X.A (noteFrame e X.env) (fun _ s₂ => wpAny (model X.prog X.w) X.A (setFlight e none) (fun _ s₃ =>
    wpAny (model X.prog X.w) X.A (handleBy e X.env [.ExceptHandler (some (.Name x np)) (some n) (b₀ :: suite) pos']) (SP X pins D) X.xe s₃) X.xe s₂) X.xe s₁) (fun u s' xx => ?_) PassesOwn.looking).run [] s σ H D (I.toTry _) h) (fun f s1 hsp => ?_) (fun e s1 he => he)
  · obtain ⟨a, B, sI, pins', σ', H', cls, d, rfl, J', nb, up, sky, na, os, ag, b, hb1, hyes, hno⟩ := xx
    have J : Inv X pins σ' H' sI := J'.ofTry ok
    have sky' : Sky B (X.env :: X.outer) a (Zc cls d) X.env.locals s'.heap := by rw [← hs]; exact sky
    show wpAny (model X.prog X.w) X.A (noteFrame (.ref a) X.env) _ _ _
    refine Sky.land Zc.steady hfr hf sky' fun h3 fl3 up3 => ?_
    have J3 : Inv X pins σ' H' { s' with heap := h3 } := J.landed nb fl3.1 (up.trans up3) os ag
    obtain ⟨oe3, vs3, he3, hz3, hd3⟩ := fl3.there
    have notFr : ∀ {h : Heap} {o : Obj} {vs : Array Value}, h.FunFrames B (X.env :: X.outer) → h.get? a = some o → o.data = .fields vs → a ∉ frs (X.env :: X.outer) := fun {h o vs} ff e dd hm => by
      obtain ⟨_, o', e', hnf⟩ := ff.mem hm
      rw [e] at e'; cases e'
      exact hnf _ dd
    have nfr := notFr fl3.2.2.1 he3 hd3
    have nL : a ≠ X.env.locals := fun z => nfr (List.mem_filterMap.mpr ⟨X.env, List.mem_cons_self, by rw [hf, z]⟩)
    have nI : sI.heap.get? a = none := by
      cases q : sI.heap.get? a with
      | none => rfl
      | some o =>
        have := nb a o q (by rw [hs]; exact nfr)
        rw [fl3.2.1] at this
        cases this
    have n0 : X.s_0.heap.get? a = none := by
      cases q : X.s_0.heap.get? a with
      | none => rfl
      | some o =>
        obtain ⟨o', q'⟩ := J.base.there a o q (by rw [hex]; intro z; cases z)
        rw [nI] at q'
        cases q'
    have nP : ∀ p ∈ X.pn ++ pins, p.1 ≠ a := fun p hp z => by
      obtain ⟨q1, _⟩ := J.pin p hp
      rw [z, nI] at q1
      cases q1
    have S3 := inv_suit J3 he3 hd3 hz3 na nL nP n0
    refine wpAny_handleBy_cons (codeAny_handlers_test ?_) (by intro q; cases q)
    have LT : PySem.W.Looks (model X.prog X.w) h3 (typeOf (.ref a)) cls := fun A Q E s k q => wpAny_typeOf_ref (k _ _ he3) (by rw [hz3.1]; exact q)
    have LM := PySem.W.exm_one (M := model X.prog X.w) (J3.kIn) LT hb1
    have test : ∀ {Q : Value → Shared → Prop} {E : Value → Shared → Prop}, Q c { s' with heap := h3 } → wpAny (model X.prog X.w) (X.A.mark (some (.ref a))) (eval (.Name x np) X.env) Q E { s' with heap := h3 } := fun {Q E} q => by
      obtain ⟨hg, hdbg, hm | ⟨hm, hv, hnn⟩⟩ := hc
      · exact ld_glob (X := suit X a (X.pn ++ pins)) S3 hg hm q hdbg
      · exact ld_blt (X := suit X a (X.pn ++ pins)) S3 hg hm hv q hnn hdbg
    refine test (LM.here ?_)
    cases b with
    | true =>
      refine codeAny_handlers_suite_as ?_
      refine HandSPX.lands_againZ fl3 fun h4 fl4 up4 => ?_
      have J4 : Inv X pins σ' H' { s' with heap := h4 } := J.landed nb fl4.1 ((up.trans up3).trans up4) os ag
      obtain ⟨oe4, vs4, he4, hz4, hd4⟩ := fl4.there
      have S4 := inv_suit J4 he4 hd4 hz4 na nL nP n0
      refine store_ok (X := suit X a (X.pn ++ pins)) (v := .ref a) S4 hN hi hloc rfl (fun s5 S5 => ?_) (.inr hln)
      refine wpAny_mono ((hsu a (X.pn ++ pins)).run [] s5 _ _ _ S5 (hyes rfl a na)) (fun f s6 hsp => ?_) (fun _ _ z => False.elim z)
      have end_ : ∀ {σ6 : L2.St} {H6 : Hp} {Q : Shared → Prop}, Inv (suit X a (X.pn ++ pins)) [] σ6 H6 s6 → (∀ s7, Inv X pins (σ6.set i none) H6 s7 → Q s7) →
          wpAny (model X.prog X.w) X.A (do bindName X.env n .none; unbindBehindTheSuite X.env n pos') (fun _ s7 => Q s7) X.xe s6 := fun {σ6 H6 Q} S6 hq => gone_ok (inv_unsuit S6 ok) hN hi hln hq
      cases f with
      | next =>
        obtain ⟨σ6, H6, S6, q6⟩ := hsp
        exact end_ S6 fun s7 J7 => ⟨_, _, J7, q6⟩
      | brk =>
        obtain ⟨σ6, H6, S6, q6⟩ := hsp
        exact end_ S6 fun s7 J7 => ⟨_, _, J7, q6⟩
      | cont =>
        obtain ⟨σ6, H6, S6, q6⟩ := hsp
        exact end_ S6 fun s7 J7 => ⟨_, _, J7, q6⟩
      | ret u =>
        obtain ⟨v6, σ6, H6, S6, r6, q6⟩ := hsp
        exact end_ S6 fun s7 J7 => ⟨_, _, _, J7, r6, q6⟩
    | false =>
      show wpAny _ X.A (handleBy (.ref a) X.env []) _ _ _
      refine wpAny_handleBy_nil ?_
      obtain ⟨k1, k2, k3, oe, vs, T, oT, ts', he, hz, hd, h1, hr⟩ := id fl3
      unfold PySem.passOn
      refine wpAny_bind (wpAny_field he hd h1 ?_)
      rw [if_neg (show ¬ ((Value.ref T == Value.none) = true) from by simp)]
      have fin : wpAny (model X.prog X.w) X.A (setFlight (.ref a) X.env.frame) (fun _ s4 => wpAny (model X.prog X.w) X.A (throw (.ref a) : Sem Flow) (SP X pins D) X.xe s4) X.xe { s' with heap := h3 } := by
        rw [hf]
        refine HandSPX.setFlight_upZ fl3 fun h4 hh4 up4 => wpAny_throw (tk _ _ ?_)
        exact ⟨a, B, sI, pins, σ', H', cls, d, rfl, J, nb, (up.trans up3).trans up4, .inr (.inr (by rw [hs]; exact hh4)), na, os, ag, hno rfl⟩
      first
        | exact wpAny_bind (wpAny_pure (wpAny_bind fin))
        | exact wpAny_bind fin
  · cases f with
    | next =>
      obtain ⟨σ', H', J', q⟩ := hsp
      exact wpAny_execs_nil ⟨σ', H', J'.ofTry ok, q⟩
    | brk =>
      obtain ⟨σ', H', J', q⟩ := hsp
      exact ⟨σ', H', J'.ofTry ok, q⟩
    | cont =>
      obtain ⟨σ', H', J', q⟩ := hsp
      exact ⟨σ', H', J'.ofTry ok, q⟩
    | ret u =>
      obtain ⟨v, σ', H', J', r, q⟩ := hsp
      exact ⟨v, σ', H', J'.ofTry ok, r, q⟩
end
def isX (c k : Nat) : Bool := c == k || k == 0
def wipeR (i : Nat) : RS → RS
  | .nx s => .nx (s.set i .no)
  | .bk s => .bk (s.set i .no)
  | .ct s => .ct (s.set i .no)
  | .rt b d => .rt b d
  | .ex _ _ _ => .bad
  | .rm _ _ => .bad
  | .rn _ _ => .bad
  | .bad => .bad
def catchR (i k : Nat) (fsu : SS → RS) : RS → RS
  | .ex c vs s => if isX c k = true then (match setS s i (.sh (.exc c vs)) with
    | some s2 => wipeR i (fsu s2)
    | none => .bad) else .ex c vs s
  | r => r
def sTry (i k : Nat) (fb fsu : SS → RS) : SS → RS := fun s => catchR i k fsu (fb s)
theorem StR.wipe1 {C : CT} {F H : Hp} {s : SS} {σ : L2.St} {i : Nat} (S : StR C F H s σ) : StR C F H (s.set i .no) (σ.set i none) := by
  have ne : ∀ {j : Nat} {x : Sl}, x ≠ .no → (s.set i .no)[j]? = some x → i ≠ j ∧ s[j]? = some x := fun {j x} hx h => by
    by_cases hij : i = j
    · subst hij
      by_cases hl : i < s.length
      · rw [List.getElem?_set_self hl] at h; cases h; exact (hx rfl).elim
      · rw [List.getElem?_eq_none (by simpa using hl)] at h; cases h
    · rw [List.getElem?_set_ne hij] at h
      exact ⟨hij, h⟩
  have ne2 : ∀ {j : Nat} {d : D}, (s.set i .no)[j]? = some (.ow d) ∨ (s.set i .no)[j]? = some (.lk d) → i ≠ j ∧ (s[j]? = some (.ow d) ∨ s[j]? = some (.lk d)) := fun {j d} h => by
    rcases h with h | h
    · exact ⟨(ne (by intro z; cases z) h).1, .inl (ne (by intro z; cases z) h).2⟩
    · exact ⟨(ne (by intro z; cases z) h).1, .inr (ne (by intro z; cases z) h).2⟩
  refine ⟨S.ext, by rw [List.length_set, List.length_set]; exact S.len, fun j d q => ?_, fun j d q => ?_, fun j k d e a q1 q2 q3 q4 => ?_, S.nt.step (fun j k d q => ?_) (fun j k l q => ?_) (fun j e b q z => ?_) (Same.refl F) fun b o z1 z2 _ => ⟨z1, z2⟩⟩
  · obtain ⟨h1, h2⟩ := ne (by intro z; cases z) q
    rw [List.getElem?_set_ne h1]
    exact S.sh j d h2
  · obtain ⟨h1, h2⟩ := ne2 q
    rw [List.getElem?_set_ne h1]
    exact S.ow j d h2
  · obtain ⟨h1, h2⟩ := ne2 q1
    obtain ⟨h3, h4⟩ := ne2 q2
    rw [List.getElem?_set_ne h1] at q3
    rw [List.getElem?_set_ne h3] at q4
    exact S.dis j k d e a h2 h4 q3 q4
  · obtain ⟨h1, h2⟩ := ne (by intro z; cases z) q
    rw [List.getElem?_set_ne h1]
    exact ⟨h2, rfl⟩
  · obtain ⟨h1, h2⟩ := ne (by intro z; cases z) q
    rw [List.getElem?_set_ne h1]
    exact ⟨h2, rfl⟩
  · obtain ⟨h1, h2⟩ := ne2 q
    rw [List.getElem?_set_ne h1] at z
    exact .inl ⟨j, e, h2, z⟩
theorem s_try {X : Cx} {C : CT} {W : WX} {x n : Str} {D : Addr} {body suite : List Stmt} {b₀ : Stmt} {np pos pos' : Pos} {fb fsu : SS → RS} (v : Pl X C W) (i k : Nat) (hN : X.N.Nodup) (hc : Names X x (.ref D))
    (he : ∀ c A ns, C.G.xcl c = some (A, ns) → PySem.W.exmOne X.K (.ref A) (.ref D) = some (isX c k))
    (hb : ∀ (W' : WX) (pn : List (Addr × Obj)) (xe : Value → Shared → Prop), Pl (X.tr pn xe) C W' → PSs (X.tr pn xe) body (tS C W' fb))
    (hsu : ∀ (a : Addr) (pn : List (Addr × Obj)), PSs (suit X a pn) (b₀ :: suite) (tS C WNo fsu))
    (hs : X.stack = X.env :: X.outer := by rfl) (hf : X.env.frame = some X.env.locals := by rfl) (hex : X.ex = [] := by rfl) (hi : X.N[i]? = some n := by rfl) (hln : X.env.kindOf n = some .local := by rfl) :
    PS X (.Try body [.ExceptHandler (some (.Name x np)) (some n) (b₀ :: suite) pos'] [] [] pos) (tS C W (sTry i k fb fsu)) := by
  refine ps_imp (ps_try_exo (i := i) (tb := fun W' => tS C W' fb) hs hf hex hN hi hln hc v.tk (fun W' pn xe tk ps => hb W' pn xe ⟨⟨v.K, v.hu, tk, ps⟩, v.calm⟩) hsu) fun En σ H ⟨F, sd, S, h⟩ => ?_
  refine ⟨F, sd, S, ?_⟩
  unfold sTry at h
  cases q : fb sd with
  | nx s' => rw [q] at h; exact h
  | bk s' => rw [q] at h; exact h
  | ct s' => rw [q] at h; exact h
  | rt b d => rw [q] at h; cases b <;> exact h
  | rm d s' => rw [q] at h; exact h
  | rn j s' => rw [q] at h; exact h
  | bad => rw [q] at h; exact h.elim
  | ex c vs s' =>
    rw [q] at h
    intro cls dx F' H' σ' S' f' l' xr
    obtain ⟨A, ns, hx, rfl, hxd⟩ := xr
    refine ⟨isX c k, he c A ns hx, fun hyes a na => ?_, fun hno => ?_⟩
    · have h : PostS C W F sd σ En (if isX c k = true then (match setS s' i (.sh (.exc c vs)) with | some s2 => wipeR i (fsu s2) | none => .bad) else .ex c vs s') := h
      rw [if_pos hyes] at h
      cases q2 : setS s' i (.sh (.exc c vs)) with
      | none => rw [q2] at h; exact h.elim
      | some s2 =>
        rw [q2] at h
        dsimp only at h
        have e1 : Ext F' H' (upd F' a (exo a (.ref A) dx)) (upd H' a (exo a (.ref A) dx)) := Ext.new S'.fh na
        have fa : F' a = none := S'.fh.free na
        have rr : Rep C.G (upd F' a (exo a (.ref A) dx)) (.exc c vs) (.ref a) := by
          unfold Rep
          refine ⟨a, A, ns, dx, rfl, hx, upd_same, ?_⟩
          rcases hxd with ⟨h1, h2, h3⟩ | ⟨d, fs, h1, h2, h3, h4⟩
          · exact .inl ⟨h1, h2, h3⟩
          · exact .inr ⟨d, fs, h1, e1.ff _ _ h2, h3, RepL.mono e1.ff h4⟩
        have S2 := (S'.mono e1).setSh q2 rr
        have l2 : Lk sd σ s2 (σ'.set i (some (.ref a))) := l'.trans (lk_set q2)
        obtain ⟨es2, hil, hnl⟩ := setS_some q2
        have lw : ∀ {s3 : SS} {σ3 : L2.St}, Lk s2 (σ'.set i (some (.ref a))) s3 σ3 → Lk sd σ (s3.set i .no) (σ3.set i none) := fun {s3 σ3} l3 j x e k => by
          obtain ⟨⟨d1, g1, gl1⟩, g2⟩ := l' j x e k
          have hij : i ≠ j := fun z => by
            subst z
            have := hnl d1 g1
            rw [gl1.lk] at this
            cases this
          obtain ⟨⟨d2, g3, gl2⟩, g4⟩ := l3 j d1 (by rw [es2, List.getElem?_set_ne hij]; exact g1) gl1.lk
          rw [List.getElem?_set_ne hij, List.getElem?_set_ne hij]
          exact ⟨⟨d2, g3, gl1.trans gl2⟩, by rw [g4, List.getElem?_set_ne hij]; exact g2⟩
        refine ⟨_, s2, S2, ?_⟩
        cases q3 : fsu s2 with
        | nx s3 =>
          rw [q3] at h
          exact fun F3 H3 σ3 S3 f3 l3 => h F3 H3 _ S3.wipe1 (f'.trans (e1.ff.trans f3)) (lw l3)
        | bk s3 =>
          rw [q3] at h
          exact fun F3 H3 σ3 S3 f3 l3 => h F3 H3 _ S3.wipe1 (f'.trans (e1.ff.trans f3)) (lw l3)
        | ct s3 =>
          rw [q3] at h
          exact fun F3 H3 σ3 S3 f3 l3 => h F3 H3 _ S3.wipe1 (f'.trans (e1.ff.trans f3)) (lw l3)
        | rt b d =>
          rw [q3] at h
          cases b with
          | false => exact fun v F3 H3 x3 f3 => h v F3 H3 x3 (f'.trans (e1.ff.trans f3))
          | true => exact fun v F3 H3 x3 f3 => h v F3 H3 x3 (f'.trans (e1.ff.trans f3))
        | ex c2 vs2 s3 => rw [q3] at h; exact h.elim
        | rm d s3 => rw [q3] at h; exact h.elim
        | rn j s3 => rw [q3] at h; exact h.elim
        | bad => rw [q3] at h; exact h.elim
    · have h : PostS C W F sd σ En (if isX c k = true then (match setS s' i (.sh (.exc c vs)) with | some s2 => wipeR i (fsu s2) | none => .bad) else .ex c vs s') := h
      rw [if_neg (by rw [hno]; exact Bool.false_ne_true)] at h
      exact h _ _ _ _ _ S' f' l' ⟨A, ns, hx, rfl, hxd⟩
structure XCl (K : PySem.W.Frag) (D : Addr) : Prop where
  cl : PySem.W.isClsIn K D = true
  hg : PySem.W.findIn K (.ref D) "__getattribute__" = some (some (.builtin "BaseException.__getattribute__"))
  hk : PySem.W.findIn K (.ref D) "__getattr__" = some none
  hs : PySem.W.subIn K (.ref D) (.type "BaseException") = some true
  ha : PySem.W.findIn K (.ref D) "__class__" = some (some (.builtin "object.__class__"))
  hn : PySem.W.specialIn K (.builtin "object.__class__") "__get__" = some (some (.builtin "getset_descriptor.__get__"))
  ht : PySem.W.takesIn K (.builtin "object.__class__") = some true
  hm : PySem.W.mroIn K D (.type "object") = some true
section
variable {X : Cx} {C : CT} {W : WX}
def Asked (K : PySem.W.Frag) (H : Hp) (x : V) (t : Value) : Prop := (x = .non ∧ t = .type "NoneType") ∨ ∃ a A dx, x = .ref a ∧ t = .ref A ∧ H a = some (exo a (.ref A) dx) ∧ XCl K A ∧ (dx = none ∨ ∃ d fs, dx = some d ∧ H d = some (.xd fs))
theorem asked_kit {pins : List (Addr × Obj)} {s : Shared} {σ : L2.St} {H : Hp} {x : V} {u t : Value} (I : Inv X pins σ H s) (rx : RelV x u) (h : Asked X.K H x t) : ∃ P : Heap → Prop, PySem.W.KitX X.K u t P ∧ P s.heap ∧ u ≠ .builtin "__main__.__loader__#opaque" := by
  rcases h with ⟨rfl, rfl⟩ | ⟨a, A, dx, rfl, rfl, ha, Z, hd⟩
  · cases (show u = Value.none from rx)
    exact ⟨_, PySem.W.kitx_none, True.intro, fun z => nomatch z⟩
  · cases (show u = Value.ref a from rx)
    obtain ⟨⟨oe, vs, h1, ⟨h2, h3⟩, h4⟩, _, _⟩ := (show ObjOk X.prog X.w H s.heap a (exo a (.ref A) dx) from I.hok a _ ha)
    have hcl : (PySem.W.clsIn X.K A).isSome = true := Z.cl
    rcases hd with rfl | ⟨d, fs, rfl, hd⟩
    · refine ⟨_, PySem.W.kitx_exc (ox := oe) (od := none) hcl Z.hg Z.hk Z.hs Z.ha Z.hn Z.ht Z.hm, ?_, fun z => nomatch z⟩
      refine ⟨h1, h2, ?_, ?_⟩
      · unfold PySem.W.notCls; rw [h4]
      · rw [h3]; trivial
    · obtain ⟨mA, ⟨od, _, _, h5, _⟩, _⟩ := (show ObjOk X.prog X.w H s.heap d (.xd fs) from I.hok d _ hd)
      refine ⟨_, PySem.W.kitx_exc (ox := oe) (od := some od) hcl Z.hg Z.hk Z.hs Z.ha Z.hn Z.ht Z.hm, ?_, fun z => nomatch z⟩
      refine ⟨h1, h2, ?_, ?_⟩
      · unfold PySem.W.notCls; rw [h4]
      · rw [h3]; exact h5
def rIsX (K : PySem.W.Frag) : List V → Hp → VK → Prop := fun xs H Q => ∃ (x c : V) (t u : Value) (b : Bool), xs = [x, c] ∧ ClsV c u ∧ Asked K H x t ∧ PySem.W.kitOne K t u = some b ∧ Q (.bl b) H
theorem call_isX : CallR X (.builtin "isinstance") (rIsX X.K) := by
  intro pins s σ H xs us Q I r h
  obtain ⟨x, c, t, u, b, rfl, k, ty, e, q⟩ := h
  obtain ⟨u1, u2, rfl, r1, r2⟩ := vals2 r
  have e2 := k.eq r2
  subst e2
  obtain ⟨P, Z, p, hx⟩ := asked_kit I r1 ty
  exact PySem.W.kia_one Z I.kIn p e hx fun tk => ⟨.bl b, H, I.tok tk, rfl, q⟩
def isxD (k : Nat) : D → R D
  | .exc c _ => .ok (.bl (isX c k))
  | .non => .ok (.bl false)
  | _ => .bad
structure AskC (K : PySem.W.Frag) (mg : Str → Option Value) (G : GE) (x : Str) (k : Nat) : Prop where
  ex : ∃ D, mg x = some (.ref D) ∧ PySem.W.kitOne K (.type "NoneType") (.ref D) = some false ∧ ∀ c A ns, G.xcl c = some (A, ns) → PySem.W.kitOne K (.ref A) (.ref D) = some (isX c k)
structure CatC (K : PySem.W.Frag) (mg : Str → Option Value) (G : GE) (x : Str) (k : Nat) : Prop where
  ex : ∃ D, mg x = some (.ref D) ∧ ∀ c A ns, G.xcl c = some (A, ns) → PySem.W.exmOne K (.ref A) (.ref D) = some (isX c k)
structure RsC (K : PySem.W.Frag) (mg : Str → Option Value) (G : GE) (x : Str) (c : Nat) : Prop where
  ex : ∃ D, mg x = some (.ref D) ∧ PySem.W.excIn K D [.type "ValueError", .type "Exception", .type "BaseException", .type "object"] "ValueError.__new__" = true ∧ PySem.W.keepIn K (.ref D) = true ∧ PySem.W.subIn K (.ref D) (.type "BaseException") = some true ∧
    PySem.W.typeIn K (.ref D) = some (.type "type") ∧ G.xcl c = some (D, [])
section
variable {X : Cx} {C : CT} {W : WX}
theorem asked_of {F H : Hp} {v : V} {c : Nat} {ds : List D} (S : Same F H) (XB : ∀ c A ns, C.G.xcl c = some (A, ns) → XCl X.K A) (b : Bor C.G F H (.exc c ds) v) : ∃ A ns, C.G.xcl c = some (A, ns) ∧ Asked X.K H v (.ref A) := by
  rcases b with b | ⟨_, _, _, b⟩
  · unfold Rep at b
    obtain ⟨a, A, ns, dx, rfl, h1, h2, h3⟩ := b
    refine ⟨A, ns, h1, .inr ⟨a, A, dx, rfl, rfl, S _ _ h2, XB c A ns h1, ?_⟩⟩
    rcases h3 with ⟨_, h, _⟩ | ⟨d, fs, e1, e2, _⟩
    · exact .inl h
    · exact .inr ⟨d, fs, e1, S _ _ e2⟩
  · exact b.elim
variable {a : Expr} {es : List Expr} {fa : SS → R D} {pos p p2 : Pos} {y : Str} {k : Nat}
theorem s_isx (v : Pq X C W) (XB : ∀ c A ns, C.G.xcl c = some (A, ns) → XCl X.K A) (T : AskC X.K X.mg C.G y k) (hg : Gl X "isinstance") (hm : X.mg "isinstance" = none) (hgT : Gl X y) (ha : PE X a (tB C W fa)) (hdb : (y == ("__debug__" : Str)) = false := by decide)
    (he : starEach [a, .Name y p2] X.env = (false, eval a X.env) :: starEach [.Name y p2] X.env := by rfl) (he2 : starEach [.Name y p2] X.env = (false, eval (.Name y p2) X.env) :: starEach [] X.env := by rfl)
    (hpl : (backTo pos (starEach [.Name y p2] X.env)).any (·.1) = false := by rfl) : PE X (.Call (.Name "isinstance" p) [a, .Name y p2] [] pos) (tD C W (eUn (isxD k) fa)) := by
  obtain ⟨D, hD, hno, hyes⟩ := T.ex
  refine pe_imp (pe_callB call_isX hg hm (by decide +kernel) (pa_cons ha (pa_cons (pe_glob (v := .ref D) hgT hD rfl hdb) pa_nil he2) he) (by decide) (by decide) he hpl) fun σ H Q ⟨F, sd, S, h⟩ => ?_
  refine ⟨F, sd, S, PostE.bind h fun d u F1 H1 e1 b1 h1 => ?_⟩
  unfold isxD at h1
  split at h1
  · obtain ⟨A, ns, hx, q⟩ := asked_of e1.fh XB b1
    exact ⟨u, .ref D, _, .ref D, _, rfl, .own D, q, hyes _ A ns hx, h1 _ F1 H1 (Ext.refl e1.fh) (rep_bl.mpr rfl)⟩
  · exact ⟨u, .ref D, _, .ref D, _, rfl, .own D, .inl ⟨bor_non b1, rfl⟩, hno, h1 _ F1 H1 (Ext.refl e1.fh) (rep_bl.mpr rfl)⟩
  · exact h1.elim
end
def xclOf (K : PySem.W.Frag) (tbl : List (Option (Str × List Str))) (c : Nat) : Option (Addr × List Str) := match tbl[c]? with
  | some (some (n, ns)) => (match PySem.W.nsIn K mainGlobals n with
    | some (some (.ref a)) => some (a, ns)
    | _ => none)
  | _ => none
theorem xcl_get {K : PySem.W.Frag} {tbl : List (Option (Str × List Str))} {c : Nat} {n : Str} {ns : List Str} {g : Addr} (h : tbl[c]? = some (some (n, ns))) (e : PySem.W.nsIn K mainGlobals n = some (some (.ref g))) : xclOf K tbl c = some (g, ns) := by
  unfold xclOf
  rw [h]
  dsimp only
  rw [e]
def xAll (K : PySem.W.Frag) (P : Nat → Addr → Prop) : Nat → List (Option (Str × List Str)) → Prop
  | _, [] => True
  | i, none :: r => xAll K P (i + 1) r
  | i, some (n, _) :: r => (∃ g, PySem.W.nsIn K mainGlobals n = some (some (.ref g)) ∧ P i g) ∧ xAll K P (i + 1) r
theorem xAll_get {K : PySem.W.Frag} {P : Nat → Addr → Prop} : ∀ {tbl : List (Option (Str × List Str))} {i c : Nat} {n : Str} {ns : List Str}, xAll K P i tbl → tbl[c]? = some (some (n, ns)) → ∃ g, PySem.W.nsIn K mainGlobals n = some (some (.ref g)) ∧ P (i + c) g
  | [], i, c, n, ns, _, h => by simp at h
  | none :: r, i, c, n, ns, x, h => by
    cases c with
    | zero => simp at h
    | succ c =>
      have := xAll_get (i := i + 1) (c := c) x (by simpa using h)
      rwa [show i + 1 + c = i + (c + 1) by omega] at this
  | some (m, ms) :: r, i, c, n, ns, x, h => by
    cases c with
    | zero =>
      simp at h
      obtain ⟨rfl, rfl⟩ := h
      exact x.1
    | succ c =>
      have := xAll_get (i := i + 1) (c := c) x.2 (by simpa using h)
      rwa [show i + 1 + c = i + (c + 1) by omega] at this
theorem xcl_all {K : PySem.W.Frag} {tbl : List (Option (Str × List Str))} {P : Nat → Addr → Prop} (x : xAll K P 0 tbl) : ∀ c A ns, xclOf K tbl c = some (A, ns) → P c A := fun c A ns h => by
  unfold xclOf at h
  split at h
  · rename_i n ms hn
    obtain ⟨g, e, p⟩ := xAll_get x hn
    rw [e] at h
    cases h
    rwa [Nat.zero_add] at p
  · cases h
end
end
end Z
namespace Z
noncomputable section
open PySem PySem.Spec PySem.P PyProof.Rows L2
section
variable {X : Cx} {C : CT} {W : WX} {a b c e : Expr} {fa fb fc fe : SS → R D} {g g' : D → D → R D} {pos p p2 : Pos} {fs : SS → R (List D)}
theorem s_tryC {x n : Str} {body suite : List Stmt} {b₀ : Stmt} {np pos pos' : Pos} {fb fsu : SS → RS} {k : Nat} (v : Pl X C W) (i : Nat) (T : CatC X.K X.mg C.G x k) (hN : X.N.Nodup) (hg : Gl X x)
    (hb : ∀ (W' : WX) (pn : List (Addr × Obj)) (xe : Value → Shared → Prop), Pl (X.tr pn xe) C W' → PSs (X.tr pn xe) body (tS C W' fb))
    (hsu : ∀ (a : Addr) (pn : List (Addr × Obj)), Pq (suit X a pn) C WNo → PSs (suit X a pn) (b₀ :: suite) (tS C WNo fsu)) (hdb : (x == ("__debug__" : Str)) = false := by decide)
    (hs : X.stack = X.env :: X.outer := by rfl) (hf : X.env.frame = some X.env.locals := by rfl) (hex : X.ex = [] := by rfl) (hi : X.N[i]? = some n := by rfl) (hln : X.env.kindOf n = some .local := by rfl) :
    PS X (.Try body [.ExceptHandler (some (.Name x np)) (some n) (b₀ :: suite) pos'] [] [] pos) (tS C W (sTry i k fb fsu)) := by
  obtain ⟨D, hD, he⟩ := T.ex
  exact s_try v i k hN ⟨hg, hdb, .inl hD⟩ he hb (fun a pn => hsu a pn ⟨v.K, v.hu, takes0, PassesOwn.never⟩) hs hf hex hi hln
theorem s_raiseC {x m : Str} {j c : Nat} {p p2 pos pos' : Pos} (v : Pl X C W) (T : RsC X.K X.mg C.G x c) (hg : Gl X x) (hdb : (x == ("__debug__" : Str)) = false := by decide) :
    PS X (.Raise (some (.Call (.Name x p) [.Constant (.str m) j p2] [] pos)) none pos') (tS C W (sRaise c)) := by
  obtain ⟨D, hD, h1, h2, h3, h4, h5⟩ := T.ex
  exact s_raise v PySem.F.excBase_ValueError h1 hD h2 (raises_own h3 h4) h5 hg hdb
def chn (x : D) (fc : R D) (k : D → R D) : R D := match x with
  | .bl true => fc.bind k
  | .bl false => .ok (.bl false)
  | _ => .bad
def eChain (g g' : D → D → R D) (fa fb fc : SS → R D) : SS → R D := fun s => (fa s).bind fun x => (fb s).bind fun y => (g x y).bind fun d => chn d (fc s) fun z => g' y z
theorem chain_read (hg : NoEx2 g) (hg' : NoEx2 g') {σ : L2.St} {H : Hp} {Q : VK} (h : tD C W (eChain g g' fa fb fc) σ H Q) : tChain (r2 C.G g) (r2 C.G g') (tB C W fa) (tB C W fb) (tB C W fc) σ H Q := by
  obtain ⟨F, sd, S, h⟩ := h
  refine ⟨F, sd, S, PostE.bind h fun d v F1 H1 e1 b1 h1 => ?_⟩
  refine ⟨F1, sd, S.mono e1, PostE.bind h1 fun d2 v2 F2 H2 e2 b2 h2 => ?_⟩
  refine ⟨F2, d, d2, e2.fh, Bor.mono e2 b1, b2, ?_⟩
  cases q : g d d2 with
  | ex c vs => exact (hg _ _ _ _ q).elim
  | bad => rw [q] at h2; exact h2.elim
  | ok z =>
    rw [q] at h2
    intro v3 F3 H3 e3 r3
    have h2 : PostE C W F2 H2 σ (pD C) Q (chn z (fc sd) fun z => g' d2 z) := h2
    cases z with
    | bl k =>
      refine ⟨k, rep_bl.mp r3, ?_⟩
      cases k with
      | false => exact PostE.ext e3 h2 _ F3 H3 (Ext.refl e3.fh) (rep_bl.mpr rfl)
      | true =>
        have h2 : PostE C W F2 H2 σ (pD C) Q ((fc sd).bind fun z => g' d2 z) := h2
        refine ⟨F3, sd, ((S.mono e1).mono e2).mono e3, PostE.bind (PostE.ext e3 h2) fun d4 v4 F4 H4 e4 b4 h4 => ?_⟩
        exact ⟨F4, d2, d4, e4.fh, (b2.mono e3).mono e4, b4, h4.toV (hg' _ _)⟩
    | _ => exact h2.elim
theorem t_chain {op op' : CmpOp} (hg : NoEx2 g) (ho : OpR X (compareOp op) (r2 C.G g)) (hg' : NoEx2 g') (ho' : OpR X (compareOp op') (r2 C.G g')) (ha : PE X a (tB C W fa)) (hb : PE X b (tB C W fb)) (hc : PE X c (tB C W fc))
    (hm : lastMarks [op, op'] [b, c] = false := by with_unfolding_all rfl) : PT X (.Compare a [op, op'] [b, c] pos) (tT C W (eChain g g' fa fb fc)) :=
  pt_imp (pt_chain ho ho' ha hb hc hm) fun _ _ _ h => chain_read hg hg' (t_of h)
def fit24 (i : Int) : Prop := -4611686018427387904 ≤ i ∧ i ≤ 16777216
instance (i : Int) : Decidable (fit24 i) := Classical.propDecidable _
end
section
variable {s : SS} {fa fb fc : SS → R D}
@[simp] theorem eChain_s (g g' : D → D → R D) : eChain g g' fa fb fc s = (fa s).bind fun x => (fb s).bind fun y => (g x y).bind fun d => chn d (fc s) fun z => g' y z := rfl
@[simp] theorem chn_ok (b c : Bool) (x : D) (k : D → R D) (h : k x = .ok (.bl c)) : chn (.bl b) (.ok x) k = .ok (.bl (b && c)) := by
  cases b with
  | true => exact h
  | false => rfl
@[simp] theorem chn_tt (r : R D) (k : D → R D) : chn (.bl true) r k = r.bind k := rfl
@[simp] theorem chn_ff (r : R D) (k : D → R D) : chn (.bl false) r k = .ok (.bl false) := rfl
@[simp] theorem sTry_s (i k : Nat) (fb fsu : SS → RS) : sTry i k fb fsu s = catchR i k fsu (fb s) := rfl
@[simp] theorem catchR_nx (i k : Nat) (fsu : SS → RS) : catchR i k fsu (.nx s) = .nx s := rfl
@[simp] theorem catchR_rt (i k : Nat) (fsu : SS → RS) (b : Bool) (d : D) : catchR i k fsu (.rt b d) = .rt b d := rfl
@[simp] theorem catchR_ex (i k : Nat) (fsu : SS → RS) (c : Nat) (vs : List D) : catchR i k fsu (.ex c vs s) = if isX c k = true then wipeR i (match (if canS s[i]? = true then some (s.set i (.sh (.exc c vs))) else none) with | some s2 => fsu s2 | none => .bad) else .ex c vs s := by
  unfold catchR
  dsimp only
  rw [setS_s]
  split
  · generalize (if canS s[i]? = true then some (List.set s i (Sl.sh (D.exc c vs))) else none) = o
    cases o <;> rfl
  · rfl
@[simp] theorem wipeR_nx (i : Nat) : wipeR i (.nx s) = .nx (s.set i .no) := rfl
@[simp] theorem wipeR_rt (i : Nat) (b : Bool) (d : D) : wipeR i (.rt b d) = .rt b d := rfl
@[simp] theorem sRaise_s (c : Nat) : sRaise c s = .ex c [] s := rfl
@[simp] theorem isX_self (c : Nat) : isX c c = true := by simp [isX]
@[simp] theorem isX_zero (c : Nat) : isX c 0 = true := by simp [isX]
@[simp] theorem isxD_e (k c : Nat) (vs : List D) : isxD k (.exc c vs) = .ok (.bl (isX c k)) := rfl
end
end
end Z
namespace ZR
open PySem PySem.Spec PyProof.Rows L2 RT
open Builtin Builtin.Str Builtin.Int
section
variable {prog : Program} {w : World} {A : Around} {E : Value → Shared → Prop} {s : Shared} {x : Str} {t : Tok} {Q : Value → Shared → Prop}
theorem join_rev {it l : Addr} {items : Array Value} {ys : List Str} (hh : A.handled = none) (hit : s.heap.IsRevIter it l ((items.size : Int) - 1)) (hl : s.heap.IsList l items) (hne : l ≠ it) (hn : items.size ≤ sizeLine)
    (hP : ∀ acc : Array Value, ItemsOf (fun i v => items[items.size - 1 - i]? = some v) acc items.size → StrsAre acc.toList ys) (hok : (ys.map (·.length)).sum + ys.length * x.length ≤ 16777216)
    (hq : ∀ h' t' k, (∀ b o, b ≠ it → s.heap.get? b = some o → h'.get? b = some o) → Q (.str (Txt.join x ys) t') { s with heap := h', toks := k }) :
    wpAny (model prog w) A (call (.builtin "str.join") [.str x t, .ref it]) Q E s := by
  refine wpAny_call (codeAny_call_builtin F.slot_str_join.plain F.entry_str_join (F.slot_str_join.check _ _ _ _ _ _ _ _ (typeIs_str _ _ _) (F.args_str_join_2 _ _) ?_))
  rw [join_tree_other]
  refine wpAny_bind (wpAny_typeOf hit.typeIs ?_)
  show wpAny _ A.in1 ((pyIter (.ref it)).tryCatch _ >>= fun it => collect it >>= fun items => joinTail x items) _ _ s
  refine wpAny_bind (wpAny_tryCatch (wpAny_pyIter_revIter hit ?_))
  refine wpAny_bind (collect_rev (A := A.in1) hh hit hl hne hn fun h' tk acc hk hacc => ?_)
  obtain ⟨l2, hl2, ht⟩ := strsAre_values (hP acc hacc)
  subst ht
  rw [hl2]
  have hok' := joinOk_of hok
  unfold JoinOk at hok'
  rw [Bool.not_eq_true'] at hok'
  have g : Gives (joinTail x (strValues l2)) (joinMade x l2) := by
    have g0 := gives_joinTail x l2 hok'
    cases l2 with
    | nil => exact g0
    | cons p r => cases r with
      | nil => exact g0
      | cons q r' => exact g0
  exact g prog w A (wants Q E) _ (post_join l2 ⟨joinFit_length hok', fun t' k => hq h' t' k hk⟩)
end
end ZR
namespace Z
noncomputable section
open PySem PySem.Spec PySem.P PyProof.Rows L2
def joinRevM (x : D) : List D → R D
  | [.lst xs] => match x with
    | .str a => (match strsD xs with
      | some ys => if (ys.map (·.length)).sum + ys.length * a.length ≤ SZ then .ok (.str (TL.joinL a ys.reverse)) else .bad
      | none => .bad)
    | _ => .bad
  | _ => .bad
section
variable {X : Cx} {C : CT} {W : WX} {o e : Expr} {fa fb : SS → R D} {pos pos2 p2 apos p : Pos}
end
end
end Z
namespace Z
noncomputable section
open PySem PySem.Spec PySem.P PyProof.Rows L2
section
variable {X : Cx} {C : CT} {W : WX} {a b c e : Expr} {fa fb fc fe fi f : SS → R D} {pos pos' p p2 apos : Pos} {x y : Str} {o : Expr}
end
section
variable {s : SS} {fi fe : SS → R D}
end
end
end Z
namespace Z
open PySem PySem.Spec PySem.P PyProof.Rows L2
theorem lex_iff {a b : List Nat} : a < b ↔ (∃ z, z ≠ [] ∧ b = a ++ z) ∨ (∃ p c d x y, a = p ++ c :: x ∧ b = p ++ d :: y ∧ c < d) := by
  induction a generalizing b with
  | nil =>
    cases b with
    | nil => simp
    | cons d b => simp
  | cons c a ih =>
    cases b with
    | nil => simp
    | cons d b =>
      rw [List.cons_lt_cons_iff]
      constructor
      · rintro (h | ⟨rfl, h⟩)
        · exact .inr ⟨[], c, d, a, b, rfl, rfl, h⟩
        · rcases ih.mp h with ⟨z, hz, rfl⟩ | ⟨p, e, f, x, y, rfl, rfl, hef⟩
          · exact .inl ⟨z, hz, rfl⟩
          · exact .inr ⟨c :: p, e, f, x, y, rfl, rfl, hef⟩
      · rintro (⟨z, hz, h⟩ | ⟨p, e, f, x, y, h1, h2, hef⟩)
        · injection h with h1 h2
          exact .inr ⟨h1.symm, ih.mpr (.inl ⟨z, hz, h2⟩)⟩
        · cases p with
          | nil =>
            injection h1 with h1 h1'
            injection h2 with h2 h2'
            subst h1 h2
            exact .inl hef
          | cons g p =>
            injection h1 with h1 h1'
            injection h2 with h2 h2'
            subst h1 h2
            exact .inr ⟨rfl, ih.mpr (.inr ⟨p, e, f, x, y, h1', h2', hef⟩)⟩
theorem lex_pre {a b : List Nat} (p : List Nat) : p ++ a < p ++ b ↔ a < b := by
  induction p with
  | nil => rfl
  | cons c p ih =>
    rw [List.cons_append, List.cons_append, List.cons_lt_cons_iff]
    constructor
    · rintro (h | ⟨-, h⟩)
      · exact absurd h (Nat.lt_irrefl _)
      · exact ih.mp h
    · exact fun h => .inr ⟨rfl, ih.mpr h⟩
theorem lex_tri (a b : List Nat) : a < b ∨ a = b ∨ b < a := by
  by_cases h1 : a < b
  · exact .inl h1
  · by_cases h2 : b < a
    · exact .inr (.inr h2)
    · exact .inr (.inl (List.le_antisymm (List.not_lt.mp h2) (List.not_lt.mp h1)))
theorem lex_app {a b : List Nat} (h : a < b) (hl : b.length ≤ a.length) (x y : List Nat) : a ++ x < b ++ y := by
  rcases lex_iff.mp h with ⟨z, hz, rfl⟩ | ⟨p, c, d, u, v, rfl, rfl, hcd⟩
  · have := List.length_pos_iff.mpr hz
    rw [List.length_append] at hl
    omega
  · exact lex_iff.mpr (.inr ⟨p, c, d, u ++ x, v ++ y, by simp, by simp, hcd⟩)
theorem lex_same {a b x y : List Nat} (hl : a.length = b.length) (h : a ++ x < b ++ y) : a < b ∨ (a = b ∧ x < y) := by
  by_cases e : a = b
  · subst e
    exact .inr ⟨rfl, (lex_pre a).mp h⟩
  · rcases lex_tri a b with h1 | h1 | h1
    · exact .inl h1
    · exact absurd h1 e
    · exact absurd h (List.lt_asymm (lex_app h1 (by omega) y x))
def Pr (w : List Nat) : Prop := w ≠ [] ∧ ∀ k, 0 < k → k < w.length → w < rot w k
end Z
namespace Z
noncomputable section
open PySem PySem.Spec PySem.P PyProof.Rows L2
theorem repS_get (t : List Nat) (m i : Nat) (h : i < m * t.length) : (repS t m)[i]? = t[i % t.length]? := by
  unfold repS
  induction m generalizing i with
  | zero => omega
  | succ m ih =>
    rw [List.replicate_succ, List.flatten_cons]
    by_cases hi : i < t.length
    · rw [List.getElem?_append_left hi, Nat.mod_eq_of_lt hi]
    · rw [List.getElem?_append_right (by omega), ih _ (by rw [Nat.succ_mul] at h; omega)]
      congr 1
      conv => rhs; rw [show i = (i - t.length) + t.length by omega, Nat.add_mod_right]
theorem repS_len (t : List Nat) (m : Nat) : (repS t m).length = m * t.length := by simp [repS]
theorem least_nat {P : Nat → Bool} : ∀ (n : Nat), P n = true → ∃ m, m ≤ n ∧ P m = true ∧ ∀ t, t < m → P t = false
  | 0, h => ⟨0, Nat.le_refl _, h, fun t ht => absurd ht (Nat.not_lt_zero _)⟩
  | n + 1, h => by
    by_cases q : ∃ k, k ≤ n ∧ P k = true
    · obtain ⟨k, hk, hp⟩ := q
      have ⟨m, h1, h2, h3⟩ := least_nat (P := P) k hp
      exact ⟨m, by omega, h2, h3⟩
    · refine ⟨n + 1, Nat.le_refl _, h, fun t ht => ?_⟩
      cases e : P t with
      | false => rfl
      | true => exact absurd ⟨t, by omega, e⟩ q
termination_by n => n
def rtOk (w : List Nat) (s : Nat) : Bool := decide (0 < s) && (decide (w.length % s = 0) && (repS (w.take s) (w.length / s) == w))
theorem rtOk_full {w : List Nat} (hw : w ≠ []) : rtOk w w.length = true := by
  have := List.length_pos_iff.mpr hw
  simp [rtOk, this, Nat.div_self this, repS]
theorem rt_ex {w : List Nat} (hw : w ≠ []) : ∃ s, s ≤ w.length ∧ rtOk w s = true ∧ ∀ t, t < s → rtOk w t = false := least_nat _ (rtOk_full hw)
def rlen (w : List Nat) : Nat := if h : w ≠ [] then Classical.choose (rt_ex h) else 0
theorem rlen_spec {w : List Nat} (hw : w ≠ []) : rlen w ≤ w.length ∧ rtOk w (rlen w) = true ∧ ∀ t, t < rlen w → rtOk w t = false := by
  unfold rlen
  rw [dif_pos hw]
  exact Classical.choose_spec (rt_ex hw)
def rootW (w : List Nat) : List Nat := w.take (rlen w)
theorem rtOk_iff {w : List Nat} {s : Nat} : rtOk w s = true ↔ 0 < s ∧ w.length % s = 0 ∧ ∀ i, i < w.length → w[i]? = w[i % s]? := by
  unfold rtOk
  rw [Bool.and_eq_true, Bool.and_eq_true, decide_eq_true_eq, decide_eq_true_eq, beq_iff_eq]
  constructor
  · rintro ⟨h1, h2, h3⟩
    refine ⟨h1, h2, fun i hi => ?_⟩
    have hs : s ≤ w.length := Nat.le_of_dvd (by omega) (Nat.dvd_of_mod_eq_zero h2)
    have hl : (w.take s).length = s := by simp; omega
    have hm : w.length / s * s = w.length := Nat.div_mul_cancel (Nat.dvd_of_mod_eq_zero h2)
    conv => lhs; rw [← h3]
    rw [repS_get _ _ _ (by rw [hl, hm]; exact hi), hl, List.getElem?_take, if_pos (Nat.mod_lt _ h1)]
  · rintro ⟨h1, h2, h3⟩
    refine ⟨h1, h2, ?_⟩
    by_cases h0 : w.length = 0
    · have : w = [] := List.length_eq_zero_iff.mp h0
      subst this
      simp [repS]
    · have hs : s ≤ w.length := Nat.le_of_dvd (by omega) (Nat.dvd_of_mod_eq_zero h2)
      have hl : (w.take s).length = s := by simp; omega
      have hm : w.length / s * s = w.length := Nat.div_mul_cancel (Nat.dvd_of_mod_eq_zero h2)
      apply List.ext_getElem?
      intro i
      by_cases hi : i < w.length
      · rw [repS_get _ _ _ (by rw [hl, hm]; exact hi), hl, List.getElem?_take, if_pos (Nat.mod_lt _ h1), h3 i hi]
      · rw [List.getElem?_eq_none (by rw [repS_len, hl, hm]; omega), List.getElem?_eq_none (by omega)]
theorem rlen_pos {w : List Nat} (hw : w ≠ []) : 0 < rlen w := (rtOk_iff.mp (rlen_spec hw).2.1).1
theorem rlen_dvd {w : List Nat} (hw : w ≠ []) : w.length % rlen w = 0 := (rtOk_iff.mp (rlen_spec hw).2.1).2.1
theorem root_len {w : List Nat} (hw : w ≠ []) : (rootW w).length = rlen w := by
  have := (rlen_spec hw).1
  simp [rootW]
  omega
theorem root_rep {w : List Nat} (hw : w ≠ []) : repS (rootW w) (w.length / rlen w) = w := by
  have h := (rlen_spec hw).2.1
  unfold rtOk at h
  rw [Bool.and_eq_true, Bool.and_eq_true, decide_eq_true_eq, decide_eq_true_eq, beq_iff_eq] at h
  exact h.2.2
theorem rot_of_rt {w : List Nat} {s : Nat} (h : rtOk w s = true) (hs : s < w.length) : rot w s = w := by
  obtain ⟨h1, h2, h3⟩ := rtOk_iff.mp h
  apply List.ext_getElem?
  intro i
  by_cases hi : i < w.length
  · rw [rot_get w s i (by omega) hi, h3 _ (Nat.mod_lt _ (by omega)), h3 i hi, Nat.mod_mod_of_dvd _ (Nat.dvd_of_mod_eq_zero h2), Nat.add_mod_right]
  · rw [List.getElem?_eq_none (by rw [rot_len]; omega), List.getElem?_eq_none (by omega)]
theorem rot_mul {w : List Nat} {k : Nat} (h : rot w k = w) (hk : k ≤ w.length) (hw : 0 < w.length) : ∀ j, j * k ≤ w.length → rot w (j * k) = w
  | 0, _ => by simp [rot_zero]
  | j + 1, hj => by
    rw [Nat.succ_mul] at hj ⊢
    have ih := rot_mul h hk hw j (by omega)
    have h1 := rot_rot w (j * k) k (by omega) hk hw
    rw [ih, h] at h1
    by_cases e : j * k + k = w.length
    · rw [e, rot_full]
    · rw [Nat.mod_eq_of_lt (by omega)] at h1
      exact h1.symm
theorem rt_of_rot {w : List Nat} {k : Nat} (h : rot w k = w) (h0 : 0 < k) (hk : k < w.length) : rlen w ≤ k := by
  have hw0 : 0 < w.length := by omega
  have hw : w ≠ [] := List.length_pos_iff.mp hw0
  obtain ⟨m, m1, m2, m3⟩ := least_nat (P := fun j => decide (0 < j) && (rot w j == w)) k (by simp [h0, h])
  simp only [Bool.and_eq_true, decide_eq_true_eq, beq_iff_eq] at m2
  obtain ⟨m2, m4⟩ := m2
  have hd : w.length % m = 0 := by
    by_cases e : w.length % m = 0
    · exact e
    · exfalso
      have hr := Nat.mod_lt w.length m2
      have hq : w.length / m * m ≤ w.length := Nat.div_mul_le_self _ _
      have hq2 : w.length / m * m + w.length % m = w.length := by rw [Nat.mul_comm]; exact Nat.div_add_mod _ _
      have h1 := rot_mul m4 (by omega) hw0 _ hq
      have h2 := rot_rot w (w.length / m * m) (w.length % m) hq (by omega) hw0
      rw [hq2, Nat.mod_self, rot_zero, h1] at h2
      have h3 := m3 _ hr
      simp [h2] at h3
      omega
  have hok : rtOk w m = true := rtOk_iff.mpr ⟨m2, hd, fun i hi => by
    have hj : i / m * m ≤ w.length := Nat.le_trans (Nat.div_mul_le_self _ _) (by omega)
    have h1 := rot_mul m4 (by omega) hw0 _ hj
    have him := Nat.mod_lt i m2
    have hie : i % m + i / m * m = i := by rw [Nat.mul_comm, Nat.add_comm]; exact Nat.div_add_mod _ _
    have h2 := rot_get w (i / m * m) (i % m) hj (by omega)
    rw [h1, hie, Nat.mod_eq_of_lt hi] at h2
    exact h2.symm⟩
  apply Nat.le_of_not_lt
  intro hlt
  have := (rlen_spec hw).2.2 m (by omega)
  rw [hok] at this
  cases this
theorem root_ne {w : List Nat} (hw : w ≠ []) : rootW w ≠ [] := by
  intro z
  have := root_len hw
  rw [z] at this
  have := rlen_pos hw
  simp at *
  omega
def Parts (ps : List (List Nat)) : Prop := (∀ p ∈ ps, Pr p) ∧ ∀ (i : Nat) (a b : List Nat), ps[i]? = some a → ps[i + 1]? = some b → ¬ a < b
theorem Parts.tail {p : List Nat} {ps : List (List Nat)} (h : Parts (p :: ps)) : Parts ps :=
  ⟨fun q hq => h.1 q (List.mem_cons_of_mem _ hq), fun i a b h1 h2 => h.2 (i + 1) a b (by simpa using h1) (by simpa using h2)⟩
end
end Z
namespace ZT
open PySem PySem.Spec PyProof.Rows L2
def tkey (e : Int × Value) : Str := match e.2 with | .str k _ => k | _ => Str.empty
def GoodT (w : World) (e : Int × Value) : Prop := ∃ k tk, e.2 = Value.str k tk ∧ e.1 = hashStr w k

def SetRT (w : World) (h : Heap) (a : Addr) (S : Str → Bool) (n : Nat) : Prop :=
  ∃ o es ep t, h.get? a = some o ∧ o.ExactSet ∧ o.data = .set es ep t ∧ (∀ e ∈ es.toList, GoodT w e) ∧ (es.toList.map tkey).Nodup ∧ (∀ k, S k = true ↔ k ∈ es.toList.map tkey) ∧
    es.size ≤ scanBound ∧ t.fits es.size = true ∧ es.size = n ∧ Ris t.place.toList ∧ (w.params.followText "set-order" = true ∨ t.led = true)

section
variable {P : Program} {w : World} {h h' : Heap} {a : Addr} {S : Str → Bool} {n : Nat}

theorem SetRT.at (R : SetRT w h a S n) (k : ∀ o, h.get? a = some o → h'.get? a = some o) : SetRT w h' a S n := by
  obtain ⟨o, es, ep, t, ho, r⟩ := R
  exact ⟨o, es, ep, t, k o ho, r⟩
theorem SetRT.congr {S' : Str → Bool} (R : SetRT w h a S n) (e : ∀ k, S' k = S k) : SetRT w h a S' n := by
  have q : S' = S := funext e
  rw [q]; exact R
theorem goodt_elems {l : List (Int × Value)} (g : ∀ e ∈ l, GoodT w e) : ElemsOf (PySem.strKind P w) l := fun e he => by
  obtain ⟨k, tk, h1, h2⟩ := g e he
  exact ⟨⟨k, by rw [h1]; exact strKind_is P w k tk, h2⟩, by rw [h1] <;> rfl⟩
theorem goodt_is {e : Int × Value} (g : GoodT w e) (k : Str) : (PySem.strKind P w).is k e.2 = true ↔ tkey e = k := by
  obtain ⟨k0, tk, h1, _⟩ := g
  unfold tkey
  rw [h1]
  show ((k0 == k) = true) ↔ k0 = k
  exact beq_iff_eq
theorem goodt_mem {l : List (Int × Value)} (g : ∀ e ∈ l, GoodT w e) (k : Str) : k ∈ l.map tkey ↔ ∃ e ∈ l, (PySem.strKind P w).is k e.2 = true := by
  rw [List.mem_map]
  constructor
  · rintro ⟨e, he, q⟩
    exact ⟨e, he, (goodt_is (g e he) k).2 q⟩
  · rintro ⟨e, he, q⟩
    exact ⟨e, he, (goodt_is (g e he) k).1 q⟩
end

section
variable {P : Program} {w : World} {A : Around} {E : Value → Shared → Prop} {s : Shared} {a : Addr} {S : Str → Bool} {n : Nat}

theorem store_atT {h : Heap} {a : Addr} {o : Obj} {es es' : Array (Int × Value)} {ep : Nat} {t t' : SetTable} (ho : h.get? a = some o) (hd : o.data = .set es ep t) :
    (h.update a (Obj.putSet es' t')).get? a = some { o with data := .set es' (ep + 1) t' } := by
  have q := Heap.get?_update_self (Obj.putSet es' t') ho (by rw [putSet_of es' t' hd]; rfl)
  rw [putSet_of es' t' hd] at q
  exact q

theorem scan_line {n : Nat} (h : n ≤ scanBound) : n ≤ sizeLine := by
  rw [sizeLine_eq]
  have : scanBound = 4096 := rfl
  omega
theorem setRT_add_tail {g : Bool → Sem Unit} (hg : ∀ (b : Bool) (s₁ : Shared) (Q' : Unit → Shared → Prop), Q' () s₁ → wpAny (model P w) A (g b) Q' E s₁)
    {o : Obj} {es : Array (Int × Value)} {ep : Nat} {t : SetTable} (ho : s.heap.get? a = some o) (hex : o.ExactSet) (hd : o.data = .set es ep t)
    {es1 : Array (Int × Value)} {t2 : SetTable} {S' : Str → Bool} (g1 : ∀ e ∈ es1.toList, GoodT w e) (nd1 : (es1.toList.map tkey).Nodup) (m1 : ∀ k, S' k = true ↔ k ∈ es1.toList.map tkey)
    (hb1 : es1.size ≤ scanBound) (hf2 : t2.fits es1.size = true) (hr : Ris t2.place.toList) (hl : w.params.followText "set-order" = true ∨ t2.led = true) {wasDummy : Bool} {R : Option Bool → Shared → Prop}
    (hR : ∀ h', Heap.SameBut a s.heap h' → SetRT w h' a S' es1.size → R (some true) { s with heap := h' }) :
    wpAny (model P w) A (do
        storeSet a es1 t2
        if (!wasDummy && t2.tooFull) = true then do
            g (relayAll t2 es1 (SetTable.grown es1.size)).2.2
            storeSet a (relayAll t2 es1 (SetTable.grown es1.size)).1 (relayAll t2 es1 (SetTable.grown es1.size)).2.1
            pure (some true)
          else pure (some true)) R E s := by
  refine wpAny_bind (wpAny_storeSet_of ho hd ?_ (scan_line hb1))
  have ho1 := store_atT (es' := es1) (t' := t2) ho hd
  have sb1 := Heap.SameBut.update s.heap a (Obj.putSet es1 t2)
  split
  · have pm := relayAll_perm t2 es1 (SetTable.grown es1.size)
    have hf3 := relayAll_fits t2 es1 (SetTable.grown es1.size)
    have hr3 := relayAll_ris t2 es1 (SetTable.grown es1.size)
    have hl3 := relayAll_led t2 es1 (SetTable.grown es1.size)
    generalize relayAll t2 es1 (SetTable.grown es1.size) = Z at pm hf3 hr3 hl3 ⊢
    obtain ⟨es2, t3, gave⟩ := Z
    dsimp only at pm hf3 hr3 hl3 ⊢
    have hsz : es2.size = es1.size := by rw [← Array.length_toList, pm.length_eq, Array.length_toList]
    have hb2 : es2.size ≤ scanBound := by rw [hsz]; exact hb1
    refine wpAny_bind (hg _ _ _ ?_)
    refine wpAny_bind (wpAny_storeSet_of ho1 rfl ?_ (scan_line hb2))
    have ho2 := store_atT (es' := es2) (t' := t3) ho1 rfl
    refine wpAny_pure (hR _ (sb1.trans (Heap.SameBut.update _ a _)) ?_)
    exact ⟨_, es2, _, t3, ho2, hex, rfl, fun e he => g1 e (pm.mem_iff.mp he), (pm.map tkey).nodup_iff.mpr nd1, fun k => (m1 k).trans (pm.map tkey).mem_iff.symm, hb2, hf3, hsz, hr3,
      hl.imp id fun z => by rw [hl3]; exact z⟩
  · exact wpAny_pure (hR _ sb1 ⟨_, es1, _, t2, ho1, hex, rfl, g1, nd1, m1, hb1, hf2, rfl, hr, hl⟩)

theorem setRT_add_hashed {k : Str} {tk : Tok} {Q : Bool → Shared → Prop} (R : SetRT w s.heap a S n) (room : n < scanBound)
    (hQ : ∀ h', Heap.SameBut a s.heap h' → SetRT w h' a (fun j => S j || decide (j = k)) (if S k = true then n else n + 1) → Q (!S k) { s with heap := h' }) :
    wpAny (model P w) A (setAddHashed a (Value.str k tk) ((PySem.strKind P w).hash k)) Q E s := by
  obtain ⟨o, es, ep, t, ho, hex, hd, g, nd, hm, hb, hf, hn, hr, hl⟩ := R
  have hkey : (PySem.strKind P w).is k (Value.str k tk) = true := strKind_is P w k tk
  have hsc : (Value.str k tk).scannable = true := rfl
  have hel : ElemsOf (PySem.strKind P w) es.toList := goodt_elems g
  unfold setAddHashed setAddHashedIn
  refine wpAny_holding (wpAny_bind (wpAny_setState_of ho hd hf ?_))
  dsimp only
  rw [byScan_of hsc (by rw [hn]; exact room) hel]
  simp only [↓reduceIte]
  unfold setAddByScan
  refine wpAny_bind ?_
  refine wpAny_bind (wpAny_rule ?_)
  refine wpAny_bind (wpAny_setScan_of hkey ho hd hf hel ?_)
  cases hfi : List.findIdx? (fun e => (PySem.strKind P w).is k e.2) es.toList with
  | some j =>
    dsimp only
    obtain ⟨hj, pj, _⟩ := List.findIdx?_eq_some_iff_getElem.mp hfi
    have hSk : S k = true := (hm k).2 ((goodt_mem (P := P) (w := w) g k).2 ⟨es.toList[j], List.getElem_mem hj, pj⟩)
    refine wpAny_pure (wpAny_pure ?_)
    have q := hQ s.heap (Heap.SameBut.refl a s.heap) ⟨o, es, ep, t, ho, hex, hd, g, nd, fun i => by
      rw [Bool.or_eq_true, decide_eq_true_eq, ← hm i]
      exact ⟨fun z => z.elim id (fun e => e ▸ hSk), .inl⟩, hb, hf, by rw [if_pos hSk]; exact hn, hr, hl⟩
    rw [hSk] at q
    exact q
  | none =>
    dsimp only
    have hnk : k ∉ es.toList.map tkey := fun z => by
      obtain ⟨e, he, q⟩ := (goodt_mem (P := P) (w := w) g k).1 z
      have c := List.findIdx?_eq_none_iff.mp hfi e he
      rw [q] at c
      cases c
    have hSk : S k = false := by
      cases q : S k with
      | false => rfl
      | true => exact absurd ((hm k).1 q) hnk
    have hgw : ∀ (b : Bool) {s₁ : Shared} {Q' : Unit → Shared → Prop}, Q' () s₁ → wpAny (model P w) A (match b with | true => rule "set.scan.the-table-gave-way" | false => pure ()) Q' E s₁ :=
      fun b s₁ Q' q => by cases b <;> first | exact wpAny_pure q | exact wpAny_rule q
    have pm := layNew_perm t es ((PySem.strKind P w).hash k) (Value.str k tk)
    have hf1 := layNew_fits t es ((PySem.strKind P w).hash k) (Value.str k tk)
    have hr1 := layNew_ris t es ((PySem.strKind P w).hash k) (Value.str k tk) hr
    have hl1 := layNew_led t es ((PySem.strKind P w).hash k) (Value.str k tk)
    generalize layNew t es ((PySem.strKind P w).hash k) (Value.str k tk) = Z at pm hf1 hr1 hl1 ⊢
    obtain ⟨es1, t1, wasDummy, gave⟩ := Z
    dsimp only at pm hf1 hr1 hl1 ⊢
    rw [Array.toList_push] at pm
    have pc : es1.toList.Perm (((PySem.strKind P w).hash k, Value.str k tk) :: es.toList) := pm.trans (List.perm_append_singleton _ _)
    have pk : (es1.toList.map tkey).Perm (k :: es.toList.map tkey) := pc.map tkey
    have g1 : ∀ e ∈ es1.toList, GoodT w e := fun e he => by
      rcases List.mem_cons.mp (pc.mem_iff.mp he) with z | z
      · rw [z]; exact ⟨k, tk, rfl, rfl⟩
      · exact g e z
    have nd1 : (es1.toList.map tkey).Nodup := pk.nodup_iff.mpr (List.nodup_cons.mpr ⟨hnk, nd⟩)
    have m1 : ∀ i, (S i || decide (i = k)) = true ↔ i ∈ es1.toList.map tkey := fun i => by
      rw [Bool.or_eq_true, decide_eq_true_eq, hm i, pk.mem_iff, List.mem_cons]
      exact Or.comm
    have hsz : es1.size = n + 1 := by rw [← Array.length_toList, pc.length_eq, List.length_cons, Array.length_toList, hn]
    have hb1 : es1.size ≤ scanBound := by rw [hsz]; exact room
    have hled : w.params.followText "set-order" = true ∨ t1.led = true := hl.imp id fun z => by rw [hl1]; exact z
    have fin : ∀ h', Heap.SameBut a s.heap h' → SetRT w h' a (fun j => S j || decide (j = k)) es1.size → Q true { s with heap := h' } := fun h' sb r => by
      have q := hQ h' sb
      rw [hSk] at q
      rw [hsz] at r
      exact q r
    refine wpAny_bind (hgw _ ?_)
    split
    · refine wpAny_bind ?_
      rw [hashByValue_scannable 8 hsc]
      refine wpAny_pure ?_
      refine setRT_add_tail ?_ ho hex hd g1 nd1 m1 hb1 ?_ ?_ ?_ ?_
      · intro b s₁ Q' q; cases b <;> first | exact wpAny_pure q | exact wpAny_rule q
      · first | (split <;> first | exact hf1 | exact SetTable.fits_plain_off hf1) | exact hf1
      · first | (split <;> exact hr1) | exact hr1
      · first | (split <;> exact hled) | exact hled
      · intro h' sb r; dsimp only; exact wpAny_pure (fin h' sb r)
    · refine wpAny_bind (wpAny_pure ?_)
      simp only [↓reduceIte]
      refine setRT_add_tail ?_ ho hex hd g1 nd1 m1 hb1 hf1 hr1 hled ?_
      · intro b s₁ Q' q; cases b <;> first | exact wpAny_pure q | exact wpAny_rule q
      · intro h' sb r; dsimp only; exact wpAny_pure (fin h' sb r)

end
theorem setRT_new_at {w : World} {h : Heap} {a : Addr} {ns : List Str} (ho : h.get? a = some { cls := .type "set", dict := none, data := .set #[] 0 (.fresh 0 0 (!w.params.followText "set-order")) }) : SetRT w h a (fun j => decide (j ∈ ns.take 0)) 0 :=
  ⟨_, #[], 0, _, ho, ⟨rfl, rfl, rfl⟩, rfl, (fun e he => by simp at he), (by simp), (fun k => by simp), (by decide), (by rfl), rfl, List.Pairwise.nil, by
    show _ ∨ (!w.params.followText "set-order") = true
    cases w.params.followText "set-order"
    · exact .inr rfl
    · exact .inl rfl⟩
section
variable {P : Program} {w : World} {A : Around} {E : Value → Shared → Prop} {s : Shared}
theorem set_update_strs {I : Addr} {fp wr : List Addr} {G : Array GenState → Array GenState → Prop} {n : Nat} {Pv : Nat → Value → Prop} {St : Nat → Shared → Prop} {R : Result → Shared → Prop}
    (W : WalksS P w A.in1 I fp wr G n Pv St) (S : Addr) (hSf : S ∉ fp) (ns : List Str) (hn : n = ns.length) (hb : ns.length ≤ scanBound) (hval : ∀ i v, Pv i v → ∃ k t, ns[i]? = some k ∧ v = .str k t) :
    ∀ (k i : Nat) (s : Shared), n - i = k → i ≤ n → St i s → (∃ c, c ≤ i ∧ SetRT w s.heap S (fun j => decide (j ∈ ns.take i)) c) →
      (∀ s' c, Moved (S :: wr) G s s' → c ≤ n → SetRT w s'.heap S (fun j => decide (j ∈ ns)) c → R (.ok (.ret .none)) s') →
      codeAny (model P w) A (.builtin "set.update.loop" ⟨[.ref S, .ref I], []⟩) R s := by
  have hSw : S ∉ wr := fun h => hSf (W.sub _ h)
  have hsub : ∀ b ∈ wr, b ∈ S :: wr := fun b hb => List.mem_cons_of_mem _ hb
  intro k
  induction k with
  | zero =>
    intro i s hk' hi hst ⟨c, hc, hS⟩ hR
    have hin : i = n := by omega
    subst hin
    refine codeAny_builtin F.entry_set_update_loop ?_
    rw [Around.under_plainId F.plain_set_update_loop _]
    show wpAny _ A.in1 (pyNext (.ref I) >>= _) _ _ s
    refine wpAny_bind (W.done s _ _ hst fun s' hm => ?_)
    show wpAny _ A.in1 (ret Value.none) _ _ s'
    have e : ns.take i = ns := List.take_of_length_le (by omega)
    rw [e] at hS
    exact wpAny_pure (hR s' c (hm.mono hsub) hc (hS.at fun o e => hm.heap S o hSw e))
  | succ k ih =>
    intro i s hk' hi hst ⟨c, hc, hS⟩ hR
    have hlt : i < n := by omega
    refine codeAny_builtin F.entry_set_update_loop ?_
    rw [Around.under_plainId F.plain_set_update_loop _]
    show wpAny _ A.in1 (pyNext (.ref I) >>= _) _ _ s
    refine wpAny_bind (W.item i s _ _ hlt hst fun v s' hP hst' hm => ?_)
    obtain ⟨z, t, hz, rfl⟩ := hval i v hP
    have hS' : SetRT w s'.heap S (fun j => decide (j ∈ ns.take i)) c := hS.at fun o e => hm.heap S o hSw e
    show wpAny _ A.in1 (holding [Value.str z t] (setAdd S (.str z t)) >>= _) _ _ s'
    refine wpAny_bind (wpAny_holding ?_)
    unfold setAdd
    refine wpAny_holding ?_
    refine wpAny_bind ((PySem.strKind P w).pyHash (k := z) (strKind_is _ _ _ _) ?_)
    refine setRT_add_hashed (s := { s' with toks := s'.toks + 1 }) hS' (by omega) fun h' hsb hS2 => ?_
    have hS3 : SetRT w h' S (fun j => decide (j ∈ ns.take (i + 1))) (if decide (z ∈ ns.take i) = true then c else c + 1) := hS2.congr fun j => by
      rw [List.take_add_one, hz]
      simp [List.mem_append]
    have hc3 : (if decide (z ∈ ns.take i) = true then c else c + 1) ≤ i + 1 := by
      split <;> omega
    refine wpAny_pure ⟨plainId_quiet F.plain_set_update_loop _, ih (i + 1) _ (by omega) hlt (W.frame _ s' _ _ hst' (Nat.le_succ _) fun b hb o e => ?_) ⟨_, hc3, hS3⟩ fun s'' c2 hm'' hc'' hS'' => ?_⟩
    · rw [hsb.2 b (fun h : b = S => hSf (by rw [← h]; exact hb))]; exact e
    · refine hR s'' c2 (Moved.trans W.gtrans ((hm.mono hsub).then_heap (Nat.le_succ _) fun b o hb e => ?_) hm'') hc'' hS''
      rw [hsb.2 b (fun h : b = S => hb (by rw [h]; exact List.mem_cons_self))]; exact e

theorem code_set_led1 (a : Value) {Q₁ : Value → Shared → Prop}
    (h : Q₁ (.ref s.heap.objs.size) { s with heap := s.heap.push { cls := .type "set", dict := none, data := .set #[] 0 (.fresh 0 0 (!w.params.followText "set-order")) } }) :
    codeAny (model P w) A (.call (.builtin "set.__new__") ⟨[.type "set", a], []⟩) (wants Q₁ E) s := by
  refine codeAny_of_tree ?_
  show wpAny _ A.in1 (do checkBuiltinCall "set.__new__" ⟨[.type "set", a], []⟩; again (.builtin "set.__new__" ⟨[.type "set", a], []⟩)) _ _ s
  refine wpAny_bind (wpAny_of_eq (F.newCall_set_1 a) (wpAny_pure ⟨plainId_quiet F.plain_set_new _, codeAny_builtin F.entry_set_new ?_⟩))
  rw [Around.under_plainId F.plain_set_new _]
  unfold Builtin.«set.__new__» Builtin.Frozenset.newClass
  have hsub := sub_set_self
  obtain ⟨hp, g, d, tk, os⟩ := s
  dsimp only
  wp_walk
  refine wpAny_askSetting (wpAny_pure ?_)
  dsimp only
  simp only [newObj]
  refine wpAny_bind (wpAny_alloc (wpAny_pure ?_))
  exact wpAny_pure h

theorem call_set_listT {l : Addr} {items : Array Value} (ns : List Str) {Q : Value → Shared → Prop} (hh : A.handled = none) (hl : s.heap.IsList l items) (hit : StrsAre items.toList ns) (hb : ns.length ≤ scanBound)
    (h : ∀ (h' : Heap) (tk c : Nat), SetRT w h' s.heap.objs.size (fun j => decide (j ∈ ns)) c → c ≤ ns.length → (∀ b o, s.heap.get? b = some o → h'.get? b = some o) → Q (.ref s.heap.objs.size) { s with heap := h', toks := tk }) :
    wpAny (model P w) A (call (.type "set") [.ref l]) Q E s := by
  have hisz : items.size = ns.length := by
    have q := StrsAre.len_eq hit
    rw [Array.length_toList] at q
    exact q
  obtain ⟨c, tl, hmro⟩ := F.called_set.mro
  have hmade := F.called_set.made
  have hsub := F.called_set.sub
  refine wpAny_call (codeAny_of_tree ?_)
  show wpAny _ _ (callAny (.type "set") _) _ _ _
  refine wpAny_pure ⟨Code.quiet_builtin _ (by decide +kernel), codeAny_builtin F.entry_type_call ?_⟩
  rw [Around.under_plain (weight_type_call_type "set" [.ref l] []) rfl]
  have h1 := F.called_set.notType
  have h2 := F.called_set.canCreate
  have hct := F.typeCall_set_1 (.ref l)
  repeat (any_goals (first | assumption | wp_step))

  refine codeAny_mono (code_set_led1 (.ref l) (E := E) (Q₁ := fun obj s₁ => obj = .ref s.heap.objs.size ∧ s₁ = { s with heap := s.heap.push { cls := .type "set", dict := none, data := .set #[] 0 (.fresh 0 0 (!w.params.followText "set-order")) } }) ⟨rfl, rfl⟩) fun r s₁ hr => ?_
  cases r with
  | error e => exact hr
  | ok fl =>
    cases fl with
    | ret obj =>
      obtain ⟨rfl, rfl⟩ := hr
      have hS : (s.heap.push { cls := .type "set", dict := none, data := .set #[] 0 (.fresh 0 0 (!w.params.followText "set-order")) }).get? s.heap.objs.size = some { cls := .type "set", dict := none, data := .set #[] 0 (.fresh 0 0 (!w.params.followText "set-order")) } := Heap.get?_push_size _ rfl
      have hT : Shared.TypeIs { s with heap := s.heap.push { cls := .type "set", dict := none, data := .set #[] 0 (.fresh 0 0 (!w.params.followText "set-order")) } } (.ref s.heap.objs.size) "set" := ⟨_, hS, rfl⟩
      have hli := F.called_set.init.lookup
      have hbi := F.called_set.init.bind (.ref s.heap.objs.size)
      repeat (any_goals (first | assumption | wp_step))

      refine codeAny_mono (codeAny_call_builtin (R := wants (fun r s₂ => r = .none ∧ ∃ h' tk c, s₂ = { s with heap := h', toks := tk } ∧ SetRT w h' s.heap.objs.size (fun j => decide (j ∈ ns)) c ∧ c ≤ ns.length ∧
          (∀ b o, s.heap.get? b = some o → h'.get? b = some o)) E) F.called_set.init.plain F.entry_set_init (check_set_init_1 hT ?_)) fun r₂ s₂ hr₂ => ?_
      · obtain ⟨ol, hol, hcl, nl, hdl⟩ := hl
        obtain ⟨ocls, odict, odata, oslots⟩ := ol
        simp only at hcl hdl
        subst hcl; subst hdl
        have hol' : (s.heap.push { cls := .type "set", dict := none, data := .set #[] 0 (.fresh 0 0 (!w.params.followText "set-order")) }).get? l = some { cls := .type "list", dict := odict, data := .seq items nl, slots := oslots } := Heap.get?_push_of_some _ hol
        have hsls := F.sub_list_set
        have hslf := F.sub_list_frozenset
        have hne : (Value.type "list" == Value.type "dict") = false := by decide
        have hl1 : (s.heap.push { cls := .type "set", dict := none, data := .set #[] 0 (.fresh 0 0 (!w.params.followText "set-order")) }).IsList l items := ⟨_, hol', rfl, nl, rfl⟩
        unfold Builtin.«set.__init__» noKeywords Builtin.Frozenset.updateFrom
        generalize hPI : pyIter = PI
        wp_walk
        subst hPI

        refine wpAny_pyIter_list hl1 ?_
        refine wpAny_bind (wpAny_runValue ?_)
        have hlS : l < s.heap.objs.size := Heap.lt_size hol
        have hh3 : A.in1.in1.in1.handled = none := by simp [hh]
        have hz1 : (s.heap.push { cls := .type "set", dict := none, data := .set #[] 0 (.fresh 0 0 (!w.params.followText "set-order")) }).objs.size = s.heap.objs.size + 1 := Heap.size_push ..
        have hneI : l ≠ (s.heap.push { cls := .type "set", dict := none, data := .set #[] 0 (.fresh 0 0 (!w.params.followText "set-order")) }).objs.size := by
          rw [Heap.size_push]; exact Nat.ne_of_lt (Nat.lt_succ_of_lt hlS)
        have hSf : s.heap.objs.size ∉ [(s.heap.push { cls := .type "set", dict := none, data := .set #[] 0 (.fresh 0 0 (!w.params.followText "set-order")) }).objs.size, l] := by
          rw [Heap.size_push]; simp only [List.mem_cons, List.mem_singleton, List.not_mem_nil, or_false, not_or]
          exact ⟨Nat.ne_of_lt (Nat.lt_succ_self _), Nat.ne_of_gt hlS⟩
        have hval : ∀ (i : Nat) (v : Value), items[i]? = some v → ∃ k t, ns[i]? = some k ∧ v = .str k t := fun i v hv => by
          have hi : i < ns.length := by rw [← hisz]; exact (Array.getElem?_eq_some_iff.mp hv).1
          obtain ⟨t, e⟩ := SS.strs_at hit i v (by rw [Array.getElem?_toList]; exact hv)
          refine ⟨ns[i], t, List.getElem?_eq_getElem hi, ?_⟩
          rw [e, List.getD_eq_getElem?_getD, List.getElem?_eq_getElem hi] <;> rfl
        refine set_update_strs ((Walks.list hh3 _ l hneI items).toS) s.heap.objs.size
          hSf ns hisz hb hval (items.size - 0) 0 _ (by omega) (Nat.zero_le _)
          ⟨⟨_, Heap.get?_push_size _ rfl, rfl, rfl⟩, (hl1.push _)⟩ ?hS0 ?hR
        case hS0 =>
          have hget : ((s.heap.push { cls := .type "set", dict := none, data := .set #[] 0 (.fresh 0 0 (!w.params.followText "set-order")) }).push { cls := .type "list_iterator", data := .fields #[.ref l, .int 0 0] }).get? s.heap.objs.size
              = some { cls := .type "set", dict := none, data := .set #[] 0 (.fresh 0 0 (!w.params.followText "set-order")) } := Heap.get?_push_of_some _ hS
          exact ⟨0, Nat.le_refl 0, setRT_new_at hget⟩
        case hR =>
          intro s' c' hm hc' hS'
          obtain ⟨h', g2, d', tk', os'⟩ := s'
          have eg : g2 = s.gens := hm.gens
          have ed : d' = s.drawn := hm.drawn
          have eo : os' = s.os := hm.os
          subst eg; subst ed; subst eo
          show wpAny _ _ _ _ _ _
          refine wpAny_pure ?_
          show wpAny _ _ (ret Value.none) _ _ _
          rw [hisz] at hc'
          refine wpAny_pure ⟨rfl, h', tk', c', rfl, hS', hc', fun b o e => ?_⟩
          have hb0 : b < s.heap.objs.size := Heap.lt_size e
          have hb1 : b ≠ s.heap.objs.size := Nat.ne_of_lt hb0
          have hb2 : b ≠ (s.heap.push { cls := .type "set", dict := none, data := .set #[] 0 (.fresh 0 0 (!w.params.followText "set-order")) }).objs.size := by
            rw [Heap.size_push]; exact Nat.ne_of_lt (Nat.lt_succ_of_lt hb0)
          exact hm.heap b o (by simp only [List.mem_cons, List.mem_singleton, List.not_mem_nil, or_false, not_or]; exact ⟨hb1, hb2⟩) (Heap.get?_push_of_some _ (Heap.get?_push_of_some _ e))

      · cases r₂ with
        | error e => exact hr₂
        | ok fl₂ =>
          cases fl₂ with
          | ret r =>
            obtain ⟨rfl, h', tk, c', rfl, hS', hc', hk'⟩ := hr₂
            repeat (any_goals (first | assumption | wp_step))
            exact h _ _ _ hS' hc' hk'
          | _ => exact hr₂.elim
    | _ => exact hr.elim

end
end ZT
namespace ZT
open PySem PySem.Spec PyProof.Rows L2 SrtO Srt
section
variable {P : Program} {w : World} {A : Around} {E : Value → Shared → Prop} {s : Shared}
end
end ZT
namespace Z
noncomputable section
open PySem PySem.Spec PySem.P PyProof.Rows L2
def dedT : List (List Nat) → List (List Nat)
  | [] => []
  | x :: r => if x ∈ r then dedT r else x :: dedT r
theorem dedT_mem {x : List Nat} : ∀ {r : List (List Nat)}, x ∈ dedT r ↔ x ∈ r
  | [] => Iff.rfl
  | y :: r => by
    unfold dedT
    split
    · rw [dedT_mem (r := r), List.mem_cons]
      exact ⟨.inr, fun h => h.elim (fun e => by subst e; assumption) id⟩
    · rw [List.mem_cons, List.mem_cons, dedT_mem (r := r)]
theorem dedT_nodup : ∀ (r : List (List Nat)), (dedT r).Nodup
  | [] => List.nodup_nil
  | y :: r => by
    unfold dedT
    split
    · exact dedT_nodup r
    · rename_i h
      exact List.nodup_cons.mpr ⟨fun z => h (dedT_mem.mp z), dedT_nodup r⟩
theorem dedT_le : ∀ (r : List (List Nat)), (dedT r).length ≤ r.length
  | [] => Nat.le_refl _
  | y :: r => by
    unfold dedT
    have := dedT_le r
    split
    · simp; omega
    · simp; omega
def setD (m : Nat) (g : List (List Nat) → D) : D → R D
  | .lst xs => match strsD xs with
    | some ys => if ys.length < m then .ok (g (dedT ys)) else .bad
    | none => .bad
  | _ => .bad
def lenSetD : D → R D := setD 4097 fun ys => .int (ys.length : Nat)
theorem lenSetD_m (ys : List (List Nat)) (h : ys.length < 4097) : lenSetD (.lst (ys.map .str)) = .ok (.int ((dedT ys).length : Nat)) := by
  unfold lenSetD setD
  dsimp only
  rw [strsD_map]
  exact if_pos h
theorem toS_cps (z : Str) : toS z.cps.toList = z := by
  show (⟨z.cps.toList.toArray⟩ : Str) = z
  rw [Array.toArray_toList]
theorem ded_perm {ns : List Str} {ys : List (List Nat)} (nd : ns.Nodup) (hm : ∀ k, k ∈ ns ↔ decide (k ∈ ys.map toS) = true) : (ns.map fun z => z.cps.toList).Perm (dedT ys) := by
  refine (List.perm_ext_iff_of_nodup ?_ (dedT_nodup ys)).mpr fun x => ?_
  · refine List.pairwise_map.mpr (nd.imp fun {a b} h e => h ?_)
    rw [← toS_cps a, ← toS_cps b, e]
  · rw [dedT_mem, List.mem_map]
    constructor
    · rintro ⟨z, hz, rfl⟩
      have := (hm z).mp hz
      simp only [decide_eq_true_eq, List.mem_map] at this
      obtain ⟨y, hy, rfl⟩ := this
      exact hy
    · intro h
      exact ⟨toS x, (hm _).mpr (by simpa using ⟨x, h, rfl⟩), rfl⟩
section
variable {X : Cx} {C : CT} {W : WX} {a : Expr} {fa : SS → R D} {pos q p2 p : Pos}
end
end
end Z
namespace Z
noncomputable section
open PySem PySem.Spec PySem.P PyProof.Rows L2
def noEx : RS → RS
  | .ex _ _ _ => .bad
  | r => r
def goM (c : Nat) (vs : List D) (s : SS) : List (Nat × (SS → RS)) → RS
  | [] => .ex c vs s
  | (k, f) :: r => if isX c k = true then noEx (f s) else goM c vs s r
def sTryM (m : List (Nat × (SS → RS))) (fb : SS → RS) : SS → RS := fun s => match fb s with
  | .ex c vs s' => goM c vs s' m
  | r => r
def HM (X : Cx) (C : CT) (hds : List ExceptHandler) (m : List (Nat × (SS → RS))) : Prop :=
  ∃ l, HdsOk X hds l ∧ ∀ (W : WX) (En : Ends) (c : Nat) (vs : List D) (A : Addr) (ns : List Str) (dx : Option Addr) (F H : Hp) (s : SS) (σ : L2.St), C.G.xcl c = some (A, ns) → XR C.G F c vs (.ref A) dx → StR C F H s σ → PostS C W F s σ En (goM c vs s m) → wMany X.K W En l (.ref A) dx σ H
theorem hm_nil {X : Cx} {C : CT} : HM X C [] [] := ⟨[], .nil, fun W En c vs A ns dx F H s σ hx xr S h => h _ _ F H σ S (Same.refl F) Lk.refl xr⟩
theorem postS_noEx {C : CT} {W W' : WX} {F : Hp} {sd : SS} {σ : L2.St} {En : Ends} {r : RS} (h : PostS C W F sd σ En (noEx r)) : PostS C W' F sd σ En r := by
  cases r with
  | nx s => exact h
  | bk s => exact h
  | ct s => exact h
  | rt b d => cases b <;> exact h
  | rm d s => exact h
  | rn j s => exact h
  | ex c vs s => exact h.elim
  | bad => exact h.elim
theorem hm_cons {X : Cx} {C : CT} {x : Str} {k : Nat} {b₀ : Stmt} {suite : List Stmt} {np pos' : Pos} {hds : List ExceptHandler} {f : SS → RS} {m : List (Nat × (SS → RS))} (T : CatC X.K X.mg C.G x k) (hg : Gl X x)
    (hsu : ∀ (a : Addr) (oe : Obj) (pn : List (Addr × Obj)), PSs (X.suite a ((a, oe) :: pn)) (b₀ :: suite) (tS C WNo f)) (r : HM X C hds m) (hdb : (x == ("__debug__" : Str)) = false := by decide) :
    HM X C (.ExceptHandler (some (.Name x np)) none (b₀ :: suite) pos' :: hds) ((k, f) :: m) := by
  obtain ⟨D, hD, he⟩ := T.ex
  obtain ⟨l, h1, h2⟩ := r
  refine ⟨(.ref D, fun _ _ _ => tS C WNo f) :: l, .cons ⟨hg, hdb, .inl hD⟩ (fun a oe cls d pn _ _ => hsu a oe pn) h1, fun W En c vs A ns dx F H s σ hx xr S h => ?_⟩
  refine ⟨isX c k, he c A ns hx, fun hy a na => ?_, fun hn => ?_⟩
  · unfold goM at h
    rw [if_pos hy] at h
    exact ⟨F, s, S, postS_noEx h⟩
  · unfold goM at h
    rw [if_neg (by rw [hn]; exact Bool.false_ne_true)] at h
    exact h2 W En c vs A ns dx F H s σ hx xr S h
theorem s_tryM {X : Cx} {C : CT} {W : WX} {body : List Stmt} {h₀ : ExceptHandler} {hds : List ExceptHandler} {pos : Pos} {fb : SS → RS} {m : List (Nat × (SS → RS))} (v : Pl X C W)
    (hb : ∀ (W' : WX) (pn : List (Addr × Obj)) (xe : Value → Shared → Prop), Pl (X.tr pn xe) C W' → PSs (X.tr pn xe) body (tS C W' fb)) (hm : HM X C (h₀ :: hds) m)
    (hs : X.stack = X.env :: X.outer := by rfl) (hf : X.env.frame = some X.env.locals := by rfl) : PS X (.Try body (h₀ :: hds) [] [] pos) (tS C W (sTryM m fb)) := by
  obtain ⟨l, h1, h2⟩ := hm
  refine ps_imp (ps_try_many (tb := fun W' => tS C W' fb) hs hf v.tk (fun W' pn xe tk ps => hb W' pn xe ⟨⟨v.K, v.hu, tk, ps⟩, v.calm⟩) h1) fun En σ H ⟨F, sd, S, h⟩ => ?_
  refine ⟨F, sd, S, ?_⟩
  unfold sTryM at h
  cases q : fb sd with
  | nx s' => rw [q] at h; exact h
  | bk s' => rw [q] at h; exact h
  | ct s' => rw [q] at h; exact h
  | rt b d => rw [q] at h; cases b <;> exact h
  | rm d s' => rw [q] at h; exact h
  | rn j s' => rw [q] at h; exact h
  | bad => rw [q] at h; exact h.elim
  | ex c vs s' =>
    rw [q] at h
    intro cls dx F' H' σ' S' f' l' xr
    obtain ⟨A, ns, hx, rfl, hxd⟩ := id xr
    exact h2 W En c vs A ns dx F' H' s' σ' hx xr S' (PostS.mono f' l' h)
section
variable {s : SS} {fb : SS → RS} {m : List (Nat × (SS → RS))}
def catM (m : List (Nat × (SS → RS))) : RS → RS
  | .ex c vs s' => goM c vs s' m
  | r => r
@[simp] theorem sTryM_s : sTryM m fb s = catM m (fb s) := rfl
@[simp] theorem catM_nx : catM m (.nx s) = .nx s := rfl
@[simp] theorem catM_rt (b : Bool) (d : D) : catM m (.rt b d) = .rt b d := rfl
@[simp] theorem catM_ex (c : Nat) (vs : List D) : catM m (.ex c vs s) = goM c vs s m := rfl
@[simp] theorem goM_nil (c : Nat) (vs : List D) : goM c vs s [] = .ex c vs s := rfl
@[simp] theorem goM_cons (c k : Nat) (f : SS → RS) (vs : List D) : goM c vs s ((k, f) :: m) = if isX c k = true then noEx (f s) else goM c vs s m := rfl
@[simp] theorem noEx_nx : noEx (.nx s) = .nx s := rfl
@[simp] theorem noEx_rt (b : Bool) (d : D) : noEx (.rt b d) = .rt b d := rfl
end
end
end Z
namespace Z
noncomputable section
open PySem PySem.Spec PySem.P PyProof.Rows L2
section
variable {X : Cx} {C : CT} {W : WX} {tg : Expr} {p pos : Pos} {x : Str} {ft : FG} {vs : List Nat} {f : SS → RS} {body : List Stmt}
end
@[simp] theorem sAsg_s (ft : FG) (fe : SS → R D) (s : SS) : sAsg ft fe s = rE s (fe s) fun d s => optS (ft d s) := rfl
@[simp] theorem gT_t (gs : List FG) (ds : List D) (s : SS) : gT gs (.tup ds) s = seqG gs ds s := rfl
@[simp] theorem seqG_nil (s : SS) : seqG [] [] s = some s := rfl
@[simp] theorem seqG_cons (g : FG) (gs : List FG) (d : D) (ds : List D) (s : SS) : seqG (g :: gs) (d :: ds) s = (g d s).bind (seqG gs ds) := rfl
end
end Z
namespace Z
noncomputable section
open PySem PySem.Spec PySem.P PyProof.Rows L2
def Nk (w : List Nat) : Prop := ∀ k, k < w.length → ¬ rot w k < w
theorem nk_iff {w : List Nat} (hw : w ≠ []) : Nk w ↔ lrot w = w := by
  constructor
  · intro h
    refine (lrot_uniq hw (self_rots hw) fun x hx => ?_).symm
    obtain ⟨k, hk, rfl⟩ := mem_rots.mp hx
    exact h k hk
  · intro h k hk
    have := (lrot_spec hw).2 _ (mem_rots.mpr ⟨k, hk, rfl⟩)
    rwa [h] at this
def Below (top : Nat) (w : List Nat) : Prop := ∀ x ∈ w, x ≤ top
theorem Below.app {t : Nat} {a b : List Nat} : Below t (a ++ b) ↔ Below t a ∧ Below t b := by
  unfold Below
  constructor
  · exact fun h => ⟨fun x hx => h x (List.mem_append_left _ hx), fun x hx => h x (List.mem_append_right _ hx)⟩
  · rintro ⟨h1, h2⟩ x hx
    rcases List.mem_append.mp hx with h | h
    · exact h1 x h
    · exact h2 x h
theorem top_max {top : Nat} : ∀ (w : List Nat), Below top w → ¬ List.replicate w.length top < w
  | [], _ => by simp
  | a :: w, h => by
    have ha := h a List.mem_cons_self
    have hw : Below top w := fun x hx => h x (List.mem_cons_of_mem _ hx)
    rw [List.length_cons, List.replicate_succ, List.cons_lt_cons_iff]
    rintro (h1 | ⟨_, h1⟩)
    · omega
    · exact top_max w hw h1
theorem top_eq {top : Nat} {w : List Nat} (h : Below top w) (h2 : ¬ w < List.replicate w.length top) : w = List.replicate w.length top := by
  rcases lex_tri w (List.replicate w.length top) with h3 | h3 | h3
  · exact absurd h3 h2
  · exact h3
  · exact absurd h3 (top_max w h)
theorem nk_pieces {w : List Nat} (h : Nk w) {k l : Nat} (hk : k + l ≤ w.length) : ¬ (w.drop k).take l < w.take l := by
  intro hlt
  by_cases hkl : k < w.length
  · apply h k hkl
    have e1 : rot w k = (w.drop k).take l ++ ((w.drop k).drop l ++ w.take k) := by
      unfold rot
      rw [← List.append_assoc, List.take_append_drop]
    have e2 : w = w.take l ++ w.drop l := (List.take_append_drop _ _).symm
    rw [e1]
    conv => rhs; rw [e2]
    exact lex_app hlt (by simp; omega) _ _
  · have : l = 0 := by omega
    subst this
    simp at hlt
theorem nk_rep (top n : Nat) : Nk (List.replicate n top) := fun k hk => by
  have : rot (List.replicate n top) k = List.replicate n top := by
    apply List.eq_replicate_iff.mpr
    refine ⟨by rw [rot_len]; simp, fun b hb => ?_⟩
    unfold rot at hb
    rcases List.mem_append.mp hb with h | h
    · exact List.eq_of_mem_replicate (List.mem_of_mem_drop h)
    · exact List.eq_of_mem_replicate (List.mem_of_mem_take h)
  rw [this]
  exact List.lt_irrefl _
theorem nk_top {top : Nat} {a : Nat} {w : List Nat} (h : Nk (a :: w)) (hb : Below top (a :: w)) (ha : a = top) : a :: w = List.replicate (w.length + 1) top := by
  apply List.eq_replicate_iff.mpr
  refine ⟨by simp, fun b hbm => ?_⟩
  obtain ⟨i, hi, rfl⟩ := List.mem_iff_getElem.mp hbm
  have h1 := nk_pieces h (k := i) (l := 1) (by omega)
  have h2 := hb _ hbm
  rw [List.drop_eq_getElem_cons hi] at h1
  simp only [List.take_succ_cons, List.take_zero, List.cons_lt_cons_iff, List.lt_irrefl, and_false, or_false] at h1
  omega
theorem per_top {top k : Nat} {t : List Nat} (h0 : 0 < k) (hk : k ≤ t.length) (hp : t.drop k = t.take (t.length - k)) (he : t.drop (t.length - k) = List.replicate k top) : t[0]? = some top := by
  have step : ∀ i, i + k < t.length → t[i + k]? = t[i]? := fun i hi => by
    have := congrArg (fun z => z[i]?) hp
    simp only [List.getElem?_drop, List.getElem?_take] at this
    rw [if_pos (by omega)] at this
    rw [Nat.add_comm]
    exact this
  have walk : ∀ j, j * k < t.length → t[j * k]? = t[0]? := fun j => by
    induction j with
    | zero => intro _; simp
    | succ j ih =>
      intro hj
      rw [Nat.succ_mul] at hj ⊢
      rw [step _ hj, ih (by omega)]
  have hq : (t.length - 1) / k * k ≤ t.length - 1 := Nat.div_mul_le_self _ _
  have hq2 := Nat.lt_div_mul_add h0 (a := t.length - 1)
  rw [← walk ((t.length - 1) / k) (by omega)]
  have := congrArg (fun z => z[(t.length - 1) / k * k - (t.length - k)]?) he
  simp only [List.getElem?_drop, List.getElem?_replicate] at this
  rw [if_pos (by omega), show t.length - k + ((t.length - 1) / k * k - (t.length - k)) = (t.length - 1) / k * k by omega] at this
  exact this
theorem nk_fill {top : Nat} {t s : List Nat} (hb : Below top (t ++ s)) (h : Nk (t ++ s)) : Nk (t ++ List.replicate s.length top) := by
  have hbt := (Below.app.mp hb).1
  have hbs := (Below.app.mp hb).2
  cases t with
  | nil => exact nk_rep _ _
  | cons a t' =>
    by_cases ha : a = top
    · have h1 := nk_top (w := t' ++ s) h hb ha
      have h2 : a :: t' = List.replicate (t'.length + 1) top := by
        apply List.eq_replicate_iff.mpr
        refine ⟨by simp, fun b hbm => ?_⟩
        have : b ∈ a :: (t' ++ s) := by
          rcases List.mem_cons.mp hbm with rfl | hb'
          · exact List.mem_cons_self
          · exact List.mem_cons_of_mem _ (List.mem_append_left _ hb')
        rw [h1] at this
        exact List.eq_of_mem_replicate this
      rw [h2, List.replicate_append_replicate]
      exact nk_rep _ _
    · have hat : a < top := by
        have := hbt a List.mem_cons_self
        omega
      generalize ht : a :: t' = t at h hb hbt
      have ht0 : t[0]? = some a := by rw [← ht]; rfl
      have htl : 0 < t.length := by rw [← ht]; simp
      generalize hT : List.replicate s.length top = T
      have hTl : T.length = s.length := by rw [← hT]; simp
      intro k hk hlt
      have hlt0 := hlt
      have hk00 := hk
      by_cases h0 : k = 0
      · subst h0
        rw [rot_zero] at hlt
        exact List.lt_irrefl _ hlt
      · rw [List.length_append, hTl] at hk
        by_cases hkt : k < t.length
        · -- a turn that begins within t
          have e1 : rot (t ++ T) k = t.drop k ++ (T ++ t.take k) := by
            unfold rot
            rw [List.drop_append_of_le_length (by omega), List.take_append_of_le_length (by omega), List.append_assoc]
          have e2 : t ++ T = t.take (t.length - k) ++ (t.drop (t.length - k) ++ T) := by
            rw [← List.append_assoc, List.take_append_drop]
          have hl : (t.drop k).length = (t.take (t.length - k)).length := by simp
          rw [e1, e2] at hlt
          have hpc := nk_pieces h (k := k) (l := t.length - k) (by rw [List.length_append]; omega)
          rw [List.drop_append_of_le_length (by omega), List.take_append_of_le_length (by simp), List.take_append_of_le_length (by omega), List.take_of_length_le (by simp)] at hpc
          rcases lex_same hl hlt with h1 | ⟨heq, h1⟩
          · exact hpc h1
          · -- it repeats
            have hr := h k (by rw [List.length_append]; omega)
            have e3 : rot (t ++ s) k = t.drop k ++ (s ++ t.take k) := by
              unfold rot
              rw [List.drop_append_of_le_length (by omega), List.take_append_of_le_length (by omega), List.append_assoc]
            have e4 : t ++ s = t.take (t.length - k) ++ (t.drop (t.length - k) ++ s) := by
              rw [← List.append_assoc, List.take_append_drop]
            rw [e3] at hr
            conv at hr => rhs; rhs; rw [e4]
            rw [heq, lex_pre] at hr
            generalize hX : t.drop (t.length - k) = X at h1 hr
            have hXl : X.length = k := by rw [← hX]; simp; omega
            have hbX : Below top X := fun x hx => hbt x (by rw [← hX] at hx; exact List.mem_of_mem_drop hx)
            have hbXT : Below top (X ++ T) := Below.app.mpr ⟨hbX, fun x hx => by rw [← hT] at hx; exact Nat.le_of_eq (List.eq_of_mem_replicate hx)⟩
            -- T = the begin of X ++ T
            have e5 : X ++ T = (X ++ T).take T.length ++ (X ++ T).drop T.length := (List.take_append_drop _ _).symm
            have hbt5 : Below top ((X ++ T).take T.length) := fun x hx => hbXT x (List.mem_of_mem_take hx)
            have hl5 : ((X ++ T).take T.length).length = T.length := by simp
            have hTT : T = List.replicate ((X ++ T).take T.length).length top := by rw [hl5, hTl]; exact hT.symm
            rw [e5] at h1
            have hTx : T = (X ++ T).take T.length := by
              rcases lex_same hl5.symm h1 with h2 | ⟨h2, _⟩
              · have h3 := top_max _ hbt5
                rw [← hTT] at h3
                exact absurd h2 h3
              · exact h2
            by_cases hkm : T.length ≤ k
            · -- s is all tops
              have h6 : X.take T.length = T := by
                rw [List.take_append_of_le_length (by omega)] at hTx
                exact hTx.symm
              have h7 : ¬ s < List.replicate s.length top := by
                rw [hT]
                intro h8
                apply hr
                rw [← List.take_append_drop T.length X, List.append_assoc, h6]
                exact lex_app h8 (Nat.le_of_eq hTl) _ _
              have h9 := top_eq hbs h7
              rw [hT] at h9
              rw [h9] at h
              exact h k hk00 hlt0
            · have h6 : X = List.replicate k top := by
                have h7 : (X ++ T).take k = T.take k := by
                  conv => rhs; rw [hTx]
                  rw [List.take_take, Nat.min_eq_left (by omega)]
                rw [List.take_append_of_le_length (by omega), List.take_of_length_le (by omega)] at h7
                rw [h7, ← hT, List.take_replicate, Nat.min_eq_left (by omega)]
              have h7 := per_top (top := top) (Nat.pos_of_ne_zero h0) (by omega) heq (by rw [hX]; exact h6)
              rw [ht0] at h7
              have := Option.some.inj h7
              omega
        · -- a turn that begins with the top
          have e1 : rot (t ++ T) k = T.drop (k - t.length) ++ (t ++ T.take (k - t.length)) := by
            unfold rot
            rw [List.drop_append, List.take_append, List.drop_of_length_le (by omega), List.take_of_length_le (by omega : t.length ≤ k)]
            rfl
          have e2 : T.drop (k - t.length) = top :: List.replicate (s.length - (k - t.length) - 1) top := by
            rw [← hT, List.drop_replicate, ← List.replicate_succ]
            congr 1
            omega
          rw [e1, e2, ← ht] at hlt
          simp only [List.cons_append, List.cons_lt_cons_iff] at hlt
          omega
end
end Z
namespace Z
noncomputable section
open PySem PySem.Spec PySem.P PyProof.Rows L2
def Beg (top n : Nat) (t : List Nat) : Prop := t.length ≤ n ∧ Nk (t ++ List.replicate (n - t.length) top)
def lperF (t : List Nat) : Nat → Nat → Nat
  | 0, k => k
  | f + 1, k => if t.drop k = t.take (t.length - k) then k else lperF t f (k + 1)
def lper (t : List Nat) : Nat := lperF t (t.length - 1) 1
theorem lperF_spec (t : List Nat) : ∀ (f k : Nat), k + f = t.length → (∀ j, 1 ≤ j → j < k → t.drop j ≠ t.take (t.length - j)) → k ≤ lperF t f k ∧ lperF t f k ≤ t.length ∧ t.drop (lperF t f k) = t.take (t.length - lperF t f k) ∧ ∀ j, 1 ≤ j → j < lperF t f k → t.drop j ≠ t.take (t.length - j)
  | 0, k, hk, hj => by
    have : k = t.length := by omega
    subst this
    simp only [lperF]
    refine ⟨Nat.le_refl _, Nat.le_refl _, by simp, hj⟩
  | f + 1, k, hk, hj => by
    simp only [lperF]
    split
    · rename_i h
      exact ⟨Nat.le_refl _, by omega, h, hj⟩
    · rename_i h
      have := lperF_spec t f (k + 1) (by omega) (fun j h1 h2 => by
        by_cases h3 : j = k
        · subst h3; exact h
        · exact hj j h1 (by omega))
      exact ⟨by omega, this.2⟩
theorem lper_spec {t : List Nat} (h : t ≠ []) : 1 ≤ lper t ∧ lper t ≤ t.length ∧ t.drop (lper t) = t.take (t.length - lper t) ∧ ∀ j, 1 ≤ j → j < lper t → t.drop j ≠ t.take (t.length - j) := by
  have := List.length_pos_iff.mpr h
  exact lperF_spec t (t.length - 1) 1 (by omega) (fun j h1 h2 => by omega)
def agn (t : List Nat) : Nat := t.getD (t.length - lper t) 0
theorem take_one {t : List Nat} {i : Nat} (h : i < t.length) : t.take (i + 1) = t.take i ++ [t.getD i 0] := by
  rw [List.take_succ, List.getElem?_eq_getElem h, List.getD_eq_getElem?_getD, List.getElem?_eq_getElem h]
  rfl
theorem next_ge {t s : List Nat} {e k : Nat} (h : Nk (t ++ e :: s)) (h1 : 1 ≤ k) (hk : k ≤ t.length) (hp : t.drop k = t.take (t.length - k)) : t.getD (t.length - k) 0 ≤ e := by
  have hpc := nk_pieces h (k := k) (l := t.length - k + 1) (by simp; omega)
  rw [List.drop_append_of_le_length hk, List.take_append_of_le_length (by omega : t.length - k + 1 ≤ t.length), take_one (t := t) (by omega)] at hpc
  rw [show (t.drop k ++ e :: s).take (t.length - k + 1) = t.drop k ++ [e] by
    rw [List.take_append, List.take_of_length_le (by simp), show t.length - k + 1 - (t.drop k).length = 1 by simp]
    rfl, hp, lex_pre, List.cons_lt_cons_iff] at hpc
  omega
theorem shift_le {t s : List Nat} {p k : Nat} (h : Nk (t ++ s)) (h1 : 1 ≤ p) (hpk : p ≤ k) (hk : k ≤ t.length) (hp : t.drop p = t.take (t.length - p)) (hq : t.drop k = t.take (t.length - k)) : t.getD (t.length - k) 0 ≤ t.getD (t.length - p) 0 := by
  by_cases he : k = p
  · rw [he]; exact Nat.le_refl _
  · have e1 : t = t.take (t.length - p) ++ t.getD (t.length - p) 0 :: t.drop (t.length - p + 1) := by
      have := List.take_append_drop (t.length - p + 1) t
      rw [take_one (by omega), List.append_assoc] at this
      exact this.symm
    generalize hc : t.getD (t.length - p) 0 = c at e1 ⊢
    have hN : Nk (t.take (t.length - p) ++ c :: (t.drop (t.length - p + 1) ++ s)) := by
      have : t.take (t.length - p) ++ c :: (t.drop (t.length - p + 1) ++ s) = t ++ s := by
        conv => rhs; rw [e1]
        simp only [List.append_assoc, List.cons_append]
      rw [this]; exact h
    have hl : (t.take (t.length - p)).length = t.length - p := by simp
    have := next_ge hN (k := k - p) (by omega) (by rw [hl]; omega) (by
      rw [hl, ← hp, List.drop_drop, show p + (k - p) = k by omega, hq, hp, List.take_take]
      congr 1; omega)
    rw [hl, show t.length - p - (k - p) = t.length - k by omega] at this
    have e2 : (t.take (t.length - p)).getD (t.length - k) 0 = t.getD (t.length - k) 0 := by
      rw [List.getD_eq_getElem?_getD, List.getD_eq_getElem?_getD, List.getElem?_take, if_pos (by omega)]
    rw [e2] at this
    exact this
theorem agn_ge {t s : List Nat} {k : Nat} (h : Nk (t ++ s)) (h1 : 1 ≤ k) (hk : k ≤ t.length) (hq : t.drop k = t.take (t.length - k)) : t.getD (t.length - k) 0 ≤ agn t := by
  have ht : t ≠ [] := by intro e; rw [e] at hk; simp at hk; omega
  have hs := lper_spec ht
  refine shift_le h hs.1 ?_ hk hs.2.2.1 hq
  apply Nat.le_of_not_lt
  intro hlt
  exact hs.2.2.2 k h1 hlt hq
theorem nk_up {t s : List Nat} {e top r : Nat} (h : Nk (t ++ s)) (ht : t ≠ []) (he : agn t < e) (het : e ≤ top) : Nk (t ++ e :: List.replicate r top) := by
  have htl := List.length_pos_iff.mpr ht
  have ha : t.getD 0 0 ≤ agn t := by
    have := agn_ge h (k := t.length) (by omega) (Nat.le_refl _) (by simp)
    simpa using this
  generalize hT : List.replicate r top = T
  have hTl : T.length = r := by rw [← hT]; simp
  intro k hk hlt
  rw [List.length_append, List.length_cons, hTl] at hk
  by_cases h0 : k = 0
  · subst h0
    rw [rot_zero] at hlt
    exact List.lt_irrefl _ hlt
  · by_cases hkt : k ≤ t.length
    · have e1 : rot (t ++ e :: T) k = t.drop k ++ (e :: T ++ t.take k) := by
        unfold rot
        rw [List.drop_append_of_le_length (by omega), List.take_append_of_le_length (by omega), List.append_assoc]
      have e2 : t ++ e :: T = t.take (t.length - k) ++ (t.drop (t.length - k) ++ e :: T) := by
        rw [← List.append_assoc, List.take_append_drop]
      have hl : (t.drop k).length = (t.take (t.length - k)).length := by simp
      rw [e1, e2] at hlt
      have hpc := nk_pieces h (k := k) (l := t.length - k) (by rw [List.length_append]; omega)
      rw [List.drop_append_of_le_length (by omega), List.take_append_of_le_length (by simp), List.take_append_of_le_length (by omega), List.take_of_length_le (by simp)] at hpc
      rcases lex_same hl hlt with h1 | ⟨heq, h1⟩
      · exact hpc h1
      · have hg := agn_ge h (by omega) hkt heq
        have hi : t.length - k < t.length := by omega
        rw [List.drop_eq_getElem_cons hi] at h1
        rw [List.getD_eq_getElem?_getD, List.getElem?_eq_getElem hi] at hg
        simp only [List.cons_append, List.cons_lt_cons_iff, Option.getD_some] at h1 hg
        omega
    · have e1 : rot (t ++ e :: T) k = T.drop (k - t.length - 1) ++ (t ++ e :: T.take (k - t.length - 1)) := by
        unfold rot
        rw [List.drop_append, List.take_append, List.drop_of_length_le (by omega), List.take_of_length_le (by omega : t.length ≤ k)]
        rw [show k - t.length = (k - t.length - 1) + 1 by omega]
        rfl
      have e2 : T.drop (k - t.length - 1) = top :: List.replicate (r - (k - t.length - 1) - 1) top := by
        rw [← hT, List.drop_replicate, ← List.replicate_succ]
        congr 1
        omega
      rw [e1, e2] at hlt
      cases t with
      | nil => exact ht rfl
      | cons a t' =>
        simp only [List.cons_append, List.cons_lt_cons_iff] at hlt
        simp at ha
        omega
def Good (lo top n : Nat) (w : List Nat) : Prop := w.length = n ∧ Nk w ∧ ∀ x ∈ w, lo ≤ x ∧ x ≤ top
theorem Good.below {lo top n : Nat} {w : List Nat} (h : Good lo top n w) : Below top w := fun x hx => (h.2.2 x hx).2
theorem Good.beg {lo top n : Nat} {t s : List Nat} (h : Good lo top n (t ++ s)) : Beg top n t := by
  have hl := h.1
  rw [List.length_append] at hl
  refine ⟨by omega, ?_⟩
  have := nk_fill h.below h.2.1
  rwa [show s.length = n - t.length by omega] at this
theorem Beg.good {lo top n : Nat} {t : List Nat} (h : Beg top n t) (ht : ∀ x ∈ t, lo ≤ x ∧ x ≤ top) (hlo : lo ≤ top) : Good lo top n (t ++ List.replicate (n - t.length) top) := by
  have := h.1
  refine ⟨by simp; omega, h.2, fun x hx => ?_⟩
  rcases List.mem_append.mp hx with h1 | h1
  · exact ht x h1
  · rw [List.eq_of_mem_replicate h1]
    exact ⟨hlo, Nat.le_refl _⟩
def firstL (lo : Nat) (t : List Nat) : Nat := if t = [] then lo else agn t
theorem agn_mem {t : List Nat} (h : t ≠ []) : agn t ∈ t := by
  have := lper_spec h
  have hl := List.length_pos_iff.mpr h
  unfold agn
  rw [List.getD_eq_getElem?_getD, List.getElem?_eq_getElem (by omega)]
  exact List.getElem_mem _
theorem firstL_ran {lo top : Nat} {t : List Nat} (ht : ∀ x ∈ t, lo ≤ x ∧ x ≤ top) (hlo : lo ≤ top) : lo ≤ firstL lo t ∧ firstL lo t ≤ top := by
  unfold firstL
  split
  · exact ⟨Nat.le_refl _, hlo⟩
  · rename_i h
    exact ht _ (agn_mem h)
theorem Beg.nil_one {top n : Nat} {c : Nat} (hn : 0 < n) (hc : c ≤ top) : Beg top n ([] ++ [c]) := by
  refine ⟨by simp; omega, ?_⟩
  by_cases h : c = top
  · subst h
    have : ([] ++ [c]) ++ List.replicate (n - ([] ++ [c]).length) c = List.replicate (n - 1 + 1) c := by
      simp [List.replicate_succ]
    rw [this]
    exact nk_rep _ _
  · intro k hk hlt
    simp only [List.nil_append, List.length_cons, List.length_nil] at hk hlt
    by_cases h0 : k = 0
    · subst h0
      rw [rot_zero] at hlt
      exact List.lt_irrefl _ hlt
    · obtain ⟨j, rfl⟩ : ∃ j, k = j + 1 := ⟨k - 1, by omega⟩
      simp only [List.singleton_append, List.length_cons, List.length_replicate] at hk
      unfold rot at hlt
      simp only [List.singleton_append, List.drop_succ_cons, List.drop_replicate] at hlt
      rw [show n - (0 + 1) - j = (n - 1 - j - 1) + 1 by omega, List.replicate_succ] at hlt
      simp only [List.cons_append, List.cons_lt_cons_iff] at hlt
      omega
theorem firstL_le {lo top n : Nat} {t s : List Nat} {e : Nat} (h : Good lo top n (t ++ e :: s)) : firstL lo t ≤ e := by
  unfold firstL
  split
  · rename_i ht
    exact (h.2.2 e (List.mem_append_right _ List.mem_cons_self)).1
  · rename_i ht
    have hs := lper_spec ht
    exact next_ge h.2.1 hs.1 hs.2.1 hs.2.2.1
theorem Beg.up {lo top n : Nat} {t : List Nat} {e : Nat} (h : Beg top n t) (hn : t.length < n) (he : firstL lo t < e) (het : e ≤ top) : Beg top n (t ++ [e]) := by
  by_cases ht : t = []
  · subst ht
    exact Beg.nil_one (by simpa using hn) het
  · refine ⟨by simp; omega, ?_⟩
    unfold firstL at he
    rw [if_neg ht] at he
    have := nk_up (r := n - (t ++ [e]).length) h.2 ht he het
    simpa using this
theorem Beg.low {lo top n : Nat} {t : List Nat} (h : Beg top n t) (ht : ∀ x ∈ t, lo ≤ x ∧ x ≤ top) (hlo : lo ≤ top) (hn : t.length < n) (hc : ¬ Beg top n (t ++ [firstL lo t])) : firstL lo t < top := by
  have hr := firstL_ran ht hlo
  apply Nat.lt_of_le_of_ne hr.2
  intro he
  apply hc
  rw [he]
  refine ⟨by simp; omega, ?_⟩
  have := h.2
  rw [show n - t.length = (n - (t ++ [top]).length) + 1 by simp; omega, List.replicate_succ] at this
  simpa using this
def begB (top n : Nat) (t : List Nat) : Bool := decide (t.length ≤ n) && (lrot (t ++ List.replicate (n - t.length) top) == t ++ List.replicate (n - t.length) top)
theorem begB_iff {top n : Nat} {t : List Nat} (hn : 0 < n) : begB top n t = true ↔ Beg top n t := by
  unfold begB Beg
  rw [Bool.and_eq_true, decide_eq_true_eq, beq_iff_eq]
  constructor
  · rintro ⟨h1, h2⟩
    exact ⟨h1, (nk_iff (by intro e; have := congrArg List.length e; rw [List.length_append, List.length_replicate, List.length_nil] at this; omega)).mpr h2⟩
  · rintro ⟨h1, h2⟩
    exact ⟨h1, (nk_iff (by intro e; have := congrArg List.length e; rw [List.length_append, List.length_replicate, List.length_nil] at this; omega)).mp h2⟩
theorem rep_one (n top : Nat) : (List.replicate n [top]).flatten = List.replicate n top := by
  induction n with
  | zero => rfl
  | succ n ih => rw [List.replicate_succ, List.flatten_cons, ih, List.replicate_succ]; rfl
theorem repS_one (c n : Nat) : repS [c] n = List.replicate n c := by
  unfold repS
  exact rep_one n c
theorem ixD_last (xs : List Nat) (c : Nat) (h0 : xs ≠ []) (hl : xs.length ≤ SZ) (hc : xs[xs.length - 1]? = some c) : ixD (.str xs) (.int (-1)) = .ok (.str [c]) := by
  have := List.length_pos_iff.mpr h0
  have e : atI xs (-1) = some c := by
    unfold atI ixN
    simp
    rw [if_pos (by omega), Option.bind_some, show ((-1 : Int) + (xs.length : Int)).toNat = xs.length - 1 by omega]
    exact hc
  unfold ixD
  simp [e, hl]
theorem abc_last {k : Nat} (h1 : 1 ≤ k) (h2 : k ≤ 6) : ixD (.str (abc k)) (.int (-1)) = .ok (.str [96 + k]) := by
  have hz : (abc k).length ≤ SZ := le_sz (by simp [abc]; omega)
  refine ixD_last _ _ ?_ hz ?_
  all_goals
    have : k = 1 ∨ k = 2 ∨ k = 3 ∨ k = 4 ∨ k = 5 ∨ k = 6 := by omega
    rcases this with rfl | rfl | rfl | rfl | rfl | rfl <;> simp [abc]
theorem abc_at {k c : Nat} (h1 : 1 ≤ k) (h2 : k ≤ 6) (hc : c < k) : ixD (.str (abc k)) (.int c) = .ok (.str [97 + c]) := by
  have hz : (abc k).length ≤ SZ := le_sz (by simp [abc]; omega)
  refine ixD_s _ _ (by omega) _ hz ?_
  have : k = 1 ∨ k = 2 ∨ k = 3 ∨ k = 4 ∨ k = 5 ∨ k = 6 := by omega
  have : c = 0 ∨ c = 1 ∨ c = 2 ∨ c = 3 ∨ c = 4 ∨ c = 5 := by omega
  rcases this with rfl | rfl | rfl | rfl | rfl | rfl <;> (rcases ‹k = 1 ∨ _› with rfl | rfl | rfl | rfl | rfl | rfl <;> first | omega | simp [abc])
theorem abc_ix {k c : Nat} (h1 : 1 ≤ k) (h2 : k ≤ 6) (hc : 97 ≤ c) (hk : c < 97 + k) : idxS (.str (abc k)) [.str [c]] = .ok (.int (c - 97 : Nat)) := by
  unfold idxS
  dsimp only
  rw [if_pos ((mem_abc (by omega) (by omega)).mpr ⟨hc, by omega⟩)]
  have : k = 1 ∨ k = 2 ∨ k = 3 ∨ k = 4 ∨ k = 5 ∨ k = 6 := by omega
  have : c = 97 ∨ c = 98 ∨ c = 99 ∨ c = 100 ∨ c = 101 ∨ c = 102 := by omega
  rcases this with rfl | rfl | rfl | rfl | rfl | rfl <;> (rcases ‹k = 1 ∨ _› with rfl | rfl | rfl | rfl | rfl | rfl <;> first | omega | simp [abc, List.findIdx_cons])
structure Fil (lo top n : Nat) (t0 t : List Nat) : Prop where
  beg : Beg top n t
  let_ : ∀ x ∈ t, lo ≤ x ∧ x ≤ top
  pre : t0 <+: t
  low : ∀ w, Good lo top n w → t0 <+: w → ¬ w.take t.length < t
def nextW (lo top n : Nat) (t : List Nat) : Nat := if begB top n (t ++ [firstL lo t]) = true then firstL lo t else firstL lo t + 1
theorem Fil.step {lo top n : Nat} {t0 t : List Nat} (h : Fil lo top n t0 t) (hlo : lo ≤ top) (hn : t.length < n) : Fil lo top n t0 (t ++ [nextW lo top n t]) ∧ lo ≤ nextW lo top n t ∧ nextW lo top n t ≤ top ∧ (begB top n (t ++ [firstL lo t]) = false → firstL lo t < top) := by
  have hr := firstL_ran h.let_ hlo
  have hlow : begB top n (t ++ [firstL lo t]) = false → firstL lo t < top := fun hb => h.beg.low h.let_ hlo hn (fun hB => by
    rw [(begB_iff (by omega)).mpr hB] at hb
    cases hb)
  have hw : lo ≤ nextW lo top n t ∧ nextW lo top n t ≤ top := by
    unfold nextW
    split
    · exact hr
    · rename_i hb
      have := hlow (by simpa using hb)
      omega
  refine ⟨⟨?_, ?_, ?_, ?_⟩, hw.1, hw.2, hlow⟩
  · unfold nextW
    split
    · rename_i hb
      exact (begB_iff (by omega)).mp hb
    · rename_i hb
      have := hlow (by simpa using hb)
      exact h.beg.up hn (lo := lo) (by omega) (by omega)
  · intro x hx
    rcases List.mem_append.mp hx with h1 | h1
    · exact h.let_ x h1
    · rw [List.mem_singleton.mp h1]; exact hw
  · exact h.pre.trans (List.prefix_append _ _)
  · intro w hg hp hlt
    have hwl := hg.1
    have hi : t.length < w.length := by omega
    rw [List.length_append, List.length_singleton, take_one hi] at hlt
    rcases lex_same (by simp; omega) hlt with h1 | ⟨h1, h2⟩
    · exact h.low w hg hp h1
    · have e1 : w = t ++ w.getD t.length 0 :: w.drop (t.length + 1) := by
        have := List.take_append_drop (t.length + 1) w
        rw [take_one hi, h1, List.append_assoc] at this
        exact this.symm
      generalize w.getD t.length 0 = e at e1 h2
      simp only [List.cons_lt_cons_iff, List.lt_irrefl, and_false, or_false] at h2
      have hg' := hg
      rw [e1] at hg'
      have hfe := firstL_le hg'
      unfold nextW at h2
      split at h2
      · omega
      · rename_i hb
        have : e = firstL lo t := by omega
        apply hb
        apply (begB_iff (by omega)).mpr
        rw [← this]
        refine Good.beg (lo := lo) (s := w.drop (t.length + 1)) ?_
        rw [List.append_assoc]
        exact hg'
theorem Fil.start {lo top n : Nat} {t : List Nat} (h : Beg top n t) (hl : ∀ x ∈ t, lo ≤ x ∧ x ≤ top) : Fil lo top n t t := ⟨h, hl, List.prefix_refl _, fun w _ hp hlt => by
  rw [← List.prefix_iff_eq_take.mp hp] at hlt
  exact List.lt_irrefl _ hlt⟩
theorem Fil.done {lo top n : Nat} {t0 t : List Nat} (h : Fil lo top n t0 t) (hn : n ≤ t.length) : Good lo top n t ∧ t0 <+: t ∧ ∀ w, Good lo top n w → t0 <+: w → ¬ w < t := by
  have h1 := h.beg.1
  have h2 := h.beg.2
  rw [show n - t.length = 0 by omega, List.replicate_zero, List.append_nil] at h2
  refine ⟨⟨by omega, h2, h.let_⟩, h.pre, fun w hg hp hlt => h.low w hg hp ?_⟩
  rw [List.take_of_length_le (by have := hg.1; omega)]
  exact hlt
end
end Z
namespace Z
noncomputable section
open PySem PySem.Spec PySem.P PyProof.Rows L2
def allW (k : Nat) : Nat → List (List Nat)
  | 0 => [[]]
  | n + 1 => (allW k n).flatMap fun w => (abc k).map fun c => w ++ [c]
theorem abc_len {k : Nat} (h : k ≤ 6) : (abc k).length = k := by
  simp [abc]
  omega
theorem abc_sorted (k : Nat) : (abc k).Pairwise (· < ·) := by
  unfold abc
  exact List.Pairwise.sublist (List.take_sublist _ _) (by decide)
theorem mem_allW {k : Nat} (h1 : 1 ≤ k) (h2 : k ≤ 6) : ∀ {n : Nat} {w : List Nat}, w ∈ allW k n ↔ w.length = n ∧ ∀ x ∈ w, 97 ≤ x ∧ x ≤ 96 + k
  | 0, w => by
    simp only [allW, List.mem_singleton]
    constructor
    · rintro rfl; simp
    · rintro ⟨h, _⟩; exact List.length_eq_zero_iff.mp h
  | n + 1, w => by
    simp only [allW, List.mem_flatMap, List.mem_map]
    constructor
    · rintro ⟨v, hv, c, hc, rfl⟩
      have hv' := (mem_allW h1 h2).mp hv
      have hc' := (mem_abc (k := k) (by omega) (by omega)).mp hc
      refine ⟨by simp [hv'.1], fun x hx => ?_⟩
      rcases List.mem_append.mp hx with h | h
      · exact hv'.2 x h
      · rw [List.mem_singleton.mp h]; omega
    · rintro ⟨hl, hw⟩
      have hi : n < w.length := by omega
      refine ⟨w.take n, (mem_allW h1 h2).mpr ⟨by simp; omega, fun x hx => hw x (List.mem_of_mem_take hx)⟩, w.getD n 0, (mem_abc (k := k) (by omega) (by omega)).mpr ?_, ?_⟩
      · have := hw _ (List.getElem_mem hi)
        rw [List.getD_eq_getElem?_getD, List.getElem?_eq_getElem hi, Option.getD_some]
        omega
      · rw [← take_one hi, List.take_of_length_le (by omega)]
theorem allW_len {k : Nat} (h2 : k ≤ 6) : ∀ n : Nat, (allW k n).length = k ^ n
  | 0 => rfl
  | n + 1 => by
    have := allW_len h2 n
    simp only [allW, List.length_flatMap, List.length_map, abc_len h2]
    rw [List.map_const', List.sum_replicate_nat, this, Nat.pow_succ]
theorem allW_sorted {k : Nat} (h1 : 1 ≤ k) (h2 : k ≤ 6) : ∀ n : Nat, (allW k n).Pairwise (· < ·)
  | 0 => by simp [allW]
  | n + 1 => by
    have ih := allW_sorted h1 h2 n
    simp only [allW]
    rw [List.pairwise_flatMap]
    refine ⟨fun w _ => ?_, ?_⟩
    · rw [List.pairwise_map]
      refine (abc_sorted k).imp fun {a b} hab => ?_
      rw [lex_pre, List.cons_lt_cons_iff]
      exact Or.inl hab
    · refine List.Pairwise.imp_of_mem ?_ ih
      intro a b ha hb hab x hx y hy
      obtain ⟨c, _, rfl⟩ := List.mem_map.mp hx
      obtain ⟨d, _, rfl⟩ := List.mem_map.mp hy
      exact lex_app hab (by rw [((mem_allW h1 h2).mp ha).1, ((mem_allW h1 h2).mp hb).1]; exact Nat.le_refl _) _ _
theorem filter_head {p : List Nat → Bool} {r : List Nat} : ∀ {l : List (List Nat)}, l.Pairwise (· < ·) → r ∈ l → p r = true → (∀ w ∈ l, p w = true → ¬ w < r) → (l.filter p)[0]? = some r
  | [], _, h, _, _ => by cases h
  | a :: l, hs, hr, hp, hm => by
    by_cases ha : p a = true
    · rw [List.filter_cons_of_pos ha]
      rcases List.mem_cons.mp hr with e | e
      · rw [e]; rfl
      · exact absurd (List.rel_of_pairwise_cons hs e) (hm a List.mem_cons_self ha)
    · rw [List.filter_cons_of_neg ha]
      refine filter_head hs.of_cons ?_ hp fun w hw => hm w (List.mem_cons_of_mem _ hw)
      rcases List.mem_cons.mp hr with e | e
      · rw [e] at hp; exact absurd hp ha
      · exact e
end
end Z
namespace Z
noncomputable section
open PySem PySem.Spec PySem.P PyProof.Rows L2
theorem gt_split {w r : List Nat} (hl : w.length = r.length) (h : w < r) : ∃ j c s, j < w.length ∧ w.getD j 0 < c ∧ r = w.take j ++ c :: s := by
  rcases lex_iff.mp h with ⟨z, hz, rfl⟩ | ⟨p, c, d, x, y, rfl, rfl, hcd⟩
  · rw [List.length_append] at hl
    have := List.length_pos_iff.mpr hz
    omega
  · exact ⟨p.length, d, y, by simp, by simpa using hcd, by simp⟩
theorem split_gt {w s : List Nat} {j c : Nat} (hj : j < w.length) (hc : w.getD j 0 < c) : w < w.take j ++ c :: s := by
  have e : w = w.take j ++ w.getD j 0 :: w.drop (j + 1) := by
    rw [List.getD_eq_getElem?_getD, List.getElem?_eq_getElem hj]
    simp
  conv => lhs; rw [e]
  rw [lex_pre, List.cons_lt_cons_iff]
  exact .inl hc
theorem split_lt {w s : List Nat} {j c : Nat} (hj : j < w.length) (hc : c < w.getD j 0) : w.take j ++ c :: s < w := by
  have e : w = w.take j ++ w.getD j 0 :: w.drop (j + 1) := by
    rw [List.getD_eq_getElem?_getD, List.getElem?_eq_getElem hj]
    simp
  conv => rhs; rw [e]
  rw [lex_pre, List.cons_lt_cons_iff]
  exact .inl hc
theorem take_pre {w : List Nat} {i j : Nat} (h : i ≤ j) : w.take j = w.take i ++ (w.drop i).take (j - i) := by
  rw [← List.take_add]
  congr 1
  omega
theorem take_at {w : List Nat} {i j : Nat} (h : i < j) (hj : j ≤ w.length) : w.take j = w.take i ++ w.getD i 0 :: (w.drop (i + 1)).take (j - i - 1) := by
  rw [take_pre (Nat.le_of_lt h)]
  congr 1
  have hi : i < w.length := by omega
  rw [List.drop_eq_getElem_cons hi, List.getD_eq_getElem?_getD, List.getElem?_eq_getElem hi]
  rw [show j - i = (j - i - 1) + 1 by omega, List.take_succ_cons]
  rfl
theorem next_found {lo top n j c : Nat} {w r : List Nat} (hw : w.length = n) (hj : j < n) (hc : w.getD j 0 < c)
    (hno : ∀ j' c', j < j' → j' < n → w.getD j' 0 < c' → c' ≤ top → ¬ Beg top n (w.take j' ++ [c']))
    (hno2 : ∀ c', w.getD j 0 < c' → c' < c → ¬ Beg top n (w.take j ++ [c']))
    (hp : w.take j ++ [c] <+: r) (hl : ∀ g, Good lo top n g → w.take j ++ [c] <+: g → ¬ g < r) :
    w < r ∧ ∀ g, Good lo top n g → w < g → ¬ g < r := by
  obtain ⟨s, rfl⟩ := hp
  have e0 : w.take j ++ [c] ++ s = w.take j ++ c :: s := by simp
  rw [e0] at hl ⊢
  refine ⟨split_gt (by omega) hc, fun g hg hlt hgr => ?_⟩
  obtain ⟨j', c', s', h1, h2, rfl⟩ := gt_split (by rw [hw, hg.1]) hlt
  have hb : Beg top n (w.take j' ++ [c']) := Good.beg (lo := lo) (s := s') (by simpa using hg)
  have ht : c' ≤ top := (hg.2.2 c' (by simp)).2
  by_cases e : j < j'
  · exact hno j' c' e (by omega) h2 ht hb
  · by_cases e2 : j' = j
    · subst e2
      by_cases e3 : c' < c
      · exact hno2 c' h2 e3 hb
      · by_cases e4 : c' = c
        · subst e4
          exact hl _ hg ⟨s', by simp⟩ hgr
        · rw [lex_pre, List.cons_lt_cons_iff] at hgr
          rcases hgr with h | ⟨h, -⟩
          · omega
          · omega
    · rw [take_at (i := j') (j := j) (by omega) (by omega)] at hgr
      rw [List.append_assoc, lex_pre, List.cons_append, List.cons_lt_cons_iff] at hgr
      rcases hgr with h | ⟨h, -⟩ <;> omega
theorem next_none {lo top n : Nat} {w : List Nat} (hw : w.length = n)
    (hno : ∀ j' c', j' < n → w.getD j' 0 < c' → c' ≤ top → ¬ Beg top n (w.take j' ++ [c'])) : ∀ g, Good lo top n g → ¬ w < g := fun g hg hlt => by
  obtain ⟨j', c', s', h1, h2, rfl⟩ := gt_split (by rw [hw, hg.1]) hlt
  exact hno j' c' (by omega) h2 (hg.2.2 c' (by simp)).2 (Good.beg (lo := lo) (s := s') (by simpa using hg))
def LastP (lo top n : Nat) (w f : List Nat) : Prop := Good lo top n f ∧ ¬ w < f ∧ ∀ g, Good lo top n g → ¬ w < g → ¬ f < g
theorem last_self {lo top n : Nat} {w : List Nat} (hw : Good lo top n w) : LastP lo top n w w := ⟨hw, List.lt_irrefl _, fun _ _ h => h⟩
theorem last_found {lo top n j c : Nat} {w : List Nat} (hw : w.length = n) (hr : ∀ x ∈ w, lo ≤ x ∧ x ≤ top) (hnk : ¬ Nk w) (hj : j < n) (hc : c < w.getD j 0) (hlo : lo ≤ c)
    (hb : Beg top n (w.take j ++ [c]))
    (hno : ∀ j' c', j < j' → j' < n → lo ≤ c' → c' < w.getD j' 0 → ¬ Beg top n (w.take j' ++ [c']))
    (hno2 : ∀ c', c < c' → c' < w.getD j 0 → ¬ Beg top n (w.take j ++ [c'])) : LastP lo top n w (w.take j ++ c :: List.replicate (n - j - 1) top) := by
  have hm : w.getD j 0 ∈ w := by
    rw [List.getD_eq_getElem?_getD, List.getElem?_eq_getElem (by omega)]
    simp
  have htop := (hr _ hm).2
  have e0 : w.take j ++ [c] ++ List.replicate (n - j - 1) top = w.take j ++ c :: List.replicate (n - j - 1) top := by simp
  refine ⟨?_, fun h => List.lt_irrefl _ (List.lt_trans h (split_lt (by omega) hc)), fun g hg hle hlt => ?_⟩
  · rw [← e0]
    have := hb.good (lo := lo) (fun x hx => by
      rcases List.mem_append.mp hx with h | h
      · exact hr x (List.mem_of_mem_take h)
      · rw [List.mem_singleton.mp h]; omega) (by omega)
    have e : (w.take j ++ [c]).length = j + 1 := by simp; omega
    rw [e] at this
    simpa [Nat.sub_sub] using this
  · have hgw : g < w := by
      rcases lex_tri w g with h | h | h
      · exact absurd h hle
      · subst h; exact absurd hg.2.1 hnk
      · exact h
    rcases lex_iff.mp hgw with ⟨z, hz, h⟩ | ⟨p, c', d, x, y, h1, h2, hcd⟩
    · have h3 := congrArg List.length h
      rw [List.length_append, hg.1, hw] at h3
      have := List.length_pos_iff.mpr hz
      omega
    · have hp : w.take p.length = p := by rw [h2]; simp
      have hpd : w.getD p.length 0 = d := by rw [h2]; simp
      have hpn : p.length < n := by rw [← hw, h2]; simp
      have hbg : Beg top n (w.take p.length ++ [c']) := Good.beg (lo := lo) (s := x) (by rw [hp]; subst h1; simpa using hg)
      have hcl : lo ≤ c' := (hg.2.2 c' (by rw [h1]; simp)).1
      have hgt : g = w.take p.length ++ c' :: x := by rw [hp]; exact h1
      generalize p.length = j' at *
      by_cases e : j < j'
      · exact hno j' c' e hpn hcl (by omega) hbg
      · by_cases e2 : j' = j
        · subst e2
          rw [hgt, lex_pre, List.cons_lt_cons_iff] at hlt
          rcases hlt with h | ⟨h, h'⟩
          · exact hno2 c' h (by omega) hbg
          · have hx : x.length = n - j' - 1 := by
              have := hg.1
              rw [hgt] at this
              simp at this
              omega
            rw [← hx] at h'
            refine top_max x (fun a ha => ?_) h'
            exact (hg.2.2 a (by rw [hgt]; simp [ha])).2
        · rw [hgt, take_at (i := j') (j := j) (by omega) (by omega)] at hlt
          rw [List.append_assoc, lex_pre, List.cons_append, List.cons_lt_cons_iff] at hlt
          rcases hlt with h | ⟨h, -⟩ <;> omega
theorem last_ex {lo top n : Nat} {w : List Nat} (hn : 0 < n) (hlo : lo ≤ top) (hw : w.length = n) (hr : ∀ x ∈ w, lo ≤ x ∧ x ≤ top)
    (hno : ∀ j' c', j' < n → lo ≤ c' → c' < w.getD j' 0 → ¬ Beg top n (w.take j' ++ [c'])) : Nk w := by
  have hg : Good lo top n (List.replicate n lo) := ⟨by simp, nk_rep _ _, fun x hx => by rw [List.eq_of_mem_replicate hx]; omega⟩
  rcases lex_tri w (List.replicate n lo) with h | h | h
  · obtain ⟨j, c, s, h1, h2, h3⟩ := gt_split (by simpa using hw) h
    have hc : c = lo := by
      have : c ∈ List.replicate n lo := by rw [h3]; simp
      exact List.eq_of_mem_replicate this
    have hm : w.getD j 0 ∈ w := by
      rw [List.getD_eq_getElem?_getD, List.getElem?_eq_getElem (by omega)]
      simp
    have := (hr _ hm).1
    omega
  · rw [h]; exact hg.2.1
  · rcases lex_iff.mp h with ⟨z, hz, h⟩ | ⟨p, c', d, x, y, h1, h2, hcd⟩
    · have h3 := congrArg List.length h
      rw [List.length_append, List.length_replicate, hw] at h3
      have := List.length_pos_iff.mpr hz
      omega
    · have hp : w.take p.length = p := by rw [h2]; simp
      have hpd : w.getD p.length 0 = d := by rw [h2]; simp
      have hpn : p.length < n := by rw [← hw, h2]; simp
      have hc : lo ≤ c' := (hg.2.2 c' (by rw [h1]; simp)).1
      refine absurd (Good.beg (lo := lo) (s := x) ?_) (hno p.length c' hpn hc (by omega))
      rw [hp]
      rw [h1] at hg
      simpa using hg
end
end Z
namespace Z
noncomputable section
open PySem PySem.Spec PySem.P PyProof.Rows L2
def Bt (u v : List Nat) : Prop := ∃ d c s, d < u.length ∧ u.getD d 0 < c ∧ v = u.take d ++ c :: s
theorem bt_iff {u v : List Nat} (h : u.length = v.length) : Bt u v ↔ u < v := by
  constructor
  · rintro ⟨d, c, s, h1, h2, rfl⟩
    exact split_gt h1 h2
  · intro hl
    obtain ⟨j, c, s, h1, h2, h3⟩ := gt_split h hl
    exact ⟨j, c, s, h1, h2, h3⟩
theorem Bt.app {u v : List Nat} (h : Bt u v) (x : List Nat) : Bt u (v ++ x) := by
  obtain ⟨d, c, s, h1, h2, rfl⟩ := h
  exact ⟨d, c, s ++ x, h1, h2, by simp⟩
theorem Bt.at {u v : List Nat} {d c : Nat} {s : List Nat} (h1 : d < u.length) (e : v = u.take d ++ c :: s) : v.getD d 0 = c := by
  subst e
  rw [List.getD_eq_getElem?_getD, List.getElem?_append_right (by rw [List.length_take]; omega), List.length_take, Nat.min_eq_left (by omega)]
  simp
theorem getD_take {u : List Nat} {l d : Nat} (h : d < l) : (u.take l).getD d 0 = u.getD d 0 := by
  rw [List.getD_eq_getElem?_getD, List.getD_eq_getElem?_getD, List.getElem?_take, if_pos h]
theorem bt_take {u : List Nat} {l : Nat} : ¬ Bt u (u.take l) := by
  rintro ⟨d, c, s, h1, h2, e⟩
  have hd : d < l := by
    have := congrArg List.length e
    simp at this
    omega
  have := Bt.at h1 e
  rw [getD_take hd] at this
  omega
theorem Bt.cut {u v x : List Nat} (h : Bt u (v ++ x)) : Bt u v ∨ (v = u.take v.length ∧ ∃ d c s, v.length ≤ d ∧ d < u.length ∧ u.getD d 0 < c ∧ v ++ x = u.take d ++ c :: s) := by
  obtain ⟨d, c, s, h1, h2, e⟩ := h
  by_cases hd : d < v.length
  · left
    refine ⟨d, c, s.take (v.length - d - 1), h1, h2, ?_⟩
    have := congrArg (List.take v.length) e
    rw [List.take_left] at this
    rw [this, List.take_append]
    rw [List.take_of_length_le (by simp; omega), List.length_take, Nat.min_eq_left (by omega)]
    rw [show v.length - d = (v.length - d - 1) + 1 by omega, List.take_succ_cons]
    simp
    omega
  · right
    refine ⟨?_, d, c, s, by omega, h1, h2, e⟩
    have := congrArg (List.take v.length) e
    rw [List.take_left, List.take_append, List.length_take, show v.length - min d u.length = 0 by omega, List.take_zero, List.append_nil, List.take_take, Nat.min_eq_left (by omega)] at this
    exact this
def BB (u v : List Nat) : Prop := ∀ i, i < v.length → Bt u (v.drop i)
theorem BB.nil {u : List Nat} : BB u [] := fun i h => by simp at h
theorem nk_at {u : List Nat} (hN : Nk u) {i d c : Nat} (hi : i ≤ d) (hd : d < u.length) (hc : u.getD d 0 < c) (s : List Nat) : Bt u ((u.drop i).take (d - i) ++ c :: s) := by
  have hp := nk_pieces hN (k := i) (l := d - i + 1) (by omega)
  rw [take_one (by simp; omega : d - i < (u.drop i).length), take_one (by omega : d - i < u.length)] at hp
  have e1 : (u.drop i).getD (d - i) 0 = u.getD d 0 := by
    rw [List.getD_eq_getElem?_getD, List.getD_eq_getElem?_getD, List.getElem?_drop, show i + (d - i) = d by omega]
  rw [e1] at hp
  have hl : ((u.drop i).take (d - i)).length = (u.take (d - i)).length := by simp; omega
  rcases lex_tri ((u.drop i).take (d - i)) (u.take (d - i)) with h | h | h
  · exact absurd (lex_app h (by omega) _ _) hp
  · rw [h, lex_pre, List.cons_lt_cons_iff] at hp
    refine ⟨d - i, c, s, by omega, ?_, by rw [h]⟩
    have : ¬ u.getD d 0 < u.getD (d - i) 0 := fun z => hp (.inl z)
    omega
  · obtain ⟨e, c', s', h1, h2, h3⟩ := gt_split hl.symm h
    have he : e < d - i := by simp at h1; omega
    rw [h3]
    refine ⟨e, c', s' ++ c :: s, by omega, ?_, ?_⟩
    · rwa [getD_take he] at h2
    · rw [List.take_take, Nat.min_eq_left (by omega)]
      simp
theorem BB.cons {u : List Nat} (hN : Nk u) {d c : Nat} {s : List Nat} (hd : d < u.length) (hc : u.getD d 0 < c) (hs : BB u s) : BB u (u.take d ++ c :: s) := fun i hi => by
  by_cases h : i ≤ d
  · rw [List.drop_append_of_le_length (by simp; omega), List.drop_take]
    exact nk_at hN h hd hc s
  · have hl : (u.take d).length = d := by simp; omega
    rw [List.drop_append, hl, List.drop_of_length_le (by omega), List.nil_append, show i - d = (i - d - 1) + 1 by omega, List.drop_succ_cons]
    refine hs _ ?_
    rw [List.length_append, hl, List.length_cons] at hi
    omega
theorem BB.tail {u : List Nat} {d c : Nat} {s : List Nat} (hd : d ≤ u.length) (h : BB u (u.take d ++ c :: s)) : BB u s := fun i hi => by
  have hl : (u.take d).length = d := by simp; omega
  have := h (d + 1 + i) (by rw [List.length_append, hl, List.length_cons]; omega)
  rwa [List.drop_append, hl, List.drop_of_length_le (by omega), List.nil_append, show d + 1 + i - d = i + 1 by omega, List.drop_succ_cons] at this
theorem BB.rots {u v : List Nat} (h : BB u v) (hl : v.length = u.length) : ∀ i, i < v.length → u < rot v i := fun i hi => by
  rw [← bt_iff (by rw [rot_len, hl])]
  exact (h i hi).app _
theorem bt_uniq {u : List Nat} {d c d' c' : Nat} {s s' : List Nat} (h1 : d < u.length) (h2 : u.getD d 0 < c) (h3 : d' < u.length) (h4 : u.getD d' 0 < c') (e : u.take d ++ c :: s = u.take d' ++ c' :: s') : d = d' ∧ c = c' ∧ s = s' := by
  have key : ∀ {d c d' c' : Nat} {s s' : List Nat}, d < u.length → d' < u.length → u.getD d 0 < c → u.take d ++ c :: s = u.take d' ++ c' :: s' → ¬ d < d' := by
    intro d c d' c' s s' h1 h3 h2 e hlt
    have a := Bt.at h1 e.symm
    rw [List.getD_eq_getElem?_getD, List.getElem?_append_left (by simp; omega), ← List.getD_eq_getElem?_getD, getD_take hlt] at a
    omega
  have hd : d = d' := by
    have a := key h1 h3 h2 e
    have b := key h3 h1 h4 e.symm
    omega
  subst hd
  have := List.append_cancel_left e
  injection this with a b
  exact ⟨rfl, a, b⟩
theorem rot_inj {v w : List Nat} {p : Nat} (hl : v.length = w.length) (h : rot v p = rot w p) : v = w := by
  unfold rot at h
  obtain ⟨h1, h2⟩ := List.append_inj h (by simp [hl])
  rw [← List.take_append_drop p v, ← List.take_append_drop p w, h1, h2]
theorem cut_uniq {u v1 v2 : List Nat} {p1 p2 : Nat} (hl : v1.length = v2.length) (hb : BB u v1) (h2 : v2.take p2 = u.take p2) (h12 : p1 ≤ p2) (hp : p2 < v2.length) (hu : p2 ≤ u.length) (e : rot v1 p1 = rot v2 p2) : p1 = p2 := by
  by_cases h : p1 = p2
  · exact h
  · exfalso
    have e2 : rot v2 p2 = rot (rot v2 (p2 - p1)) p1 := by
      rw [rot_rot _ _ _ (by omega) (by omega) (by omega), Nat.mod_eq_of_lt (by omega)]
      congr 1; omega
    rw [e2] at e
    have e3 : v1 = rot v2 (p2 - p1) := rot_inj (by rw [rot_len]; exact hl) e
    have hk : v2.take (p2 - p1) = u.take (p2 - p1) := by
      have := congrArg (List.take (p2 - p1)) h2
      rwa [List.take_take, List.take_take, Nat.min_eq_left (by omega)] at this
    have := hb (v2.length - (p2 - p1)) (by omega)
    rw [e3] at this
    unfold rot at this
    rw [List.drop_append, List.length_drop, Nat.sub_self, List.drop_zero, List.drop_of_length_le (by simp), List.nil_append, hk] at this
    exact bt_take this
theorem max_nat {P : Nat → Prop} : ∀ (n : Nat), P 0 → ∃ p, p ≤ n ∧ P p ∧ ∀ q, q ≤ n → P q → q ≤ p
  | 0, h => ⟨0, Nat.le_refl _, h, fun q hq _ => hq⟩
  | n + 1, h => by
    by_cases hp : P (n + 1)
    · exact ⟨n + 1, Nat.le_refl _, hp, fun q hq _ => hq⟩
    · obtain ⟨p, h1, h2, h3⟩ := max_nat (P := P) n h
      refine ⟨p, by omega, h2, fun q hq hP => ?_⟩
      by_cases e : q = n + 1
      · subst e; exact absurd hP hp
      · exact h3 q (by omega) hP
theorem cut_ex {u w : List Nat} (hN : Nk u) (hl : w.length = u.length) (h0 : 0 < u.length) (hw : ∀ i, i < w.length → u < rot w i) :
    ∃ p v d c s, p ≤ d ∧ d < u.length ∧ u.getD d 0 < c ∧ v = u.take d ++ c :: s ∧ BB u v ∧ v.length = u.length ∧ rot v p = w ∧ p < v.length := by
  obtain ⟨p, hp, hs, hmax⟩ := max_nat (P := fun p => w.drop (w.length - p) = u.take p) (u.length - 1) (by simp)
  have hvl : (rot w (w.length - p)).length = u.length := by rw [rot_len, hl]
  have hrot : rot (rot w (w.length - p)) p = w := by
    rw [rot_rot _ _ _ (by omega) (by omega) (by omega), show w.length - p + p = w.length by omega, Nat.mod_self, rot_zero]
  have hall : ∀ i, i < w.length → u < rot (rot w (w.length - p)) i := fun i hi => by
    rw [rot_rot _ _ _ (by omega) (by omega) (by omega)]
    exact hw _ (Nat.mod_lt _ (by omega))
  have hpre : (rot w (w.length - p)).take p = u.take p := by
    unfold rot
    rw [List.take_append_of_le_length (by simp; omega), hs, List.take_take, Nat.min_self]
  have hend : w = (rot w (w.length - p)).drop p ++ u.take p := by
    conv => lhs; rw [← hrot]
    unfold rot at hpre ⊢
    rw [hpre]
  generalize rot w (w.length - p) = v at hvl hrot hall hpre hend
  obtain ⟨d, c, s, h1, h2, h3⟩ := (bt_iff hvl.symm).mpr (by have := hall 0 (by omega); rwa [rot_zero] at this)
  have hpd : p ≤ d := by
    by_cases h : d < p
    · have a := Bt.at h1 h3
      rw [← getD_take (u := v) h, hpre, getD_take h] at a
      omega
    · omega
  refine ⟨p, v, d, c, s, hpd, h1, h2, h3, fun i hi => ?_, hvl, hrot, by omega⟩
  by_cases hid : i ≤ d
  · rw [h3, List.drop_append_of_le_length (by simp; omega), List.drop_take]
    exact nk_at hN hid h1 h2 s
  · have hG := (bt_iff (u := u) (v := rot v i) (by rw [rot_len, hvl])).mpr (hall i (by omega))
    have hG2 : Bt u (v.drop i ++ v.take i) := hG
    rcases hG2.cut with h | ⟨h4, e, c', s', he, h5, h6, h7⟩
    · exact h
    · exfalso
      have hdl : (v.drop i).length = u.length - i := by simp [hvl]
      rw [hdl] at h4 he
      -- the end ahead of place p of the turned word
      have hw2 : w.drop (w.length - (u.length - i + p)) = u.take (u.length - i) ++ u.take p := by
        rw [hl]
        conv => lhs; rw [hend]
        rw [List.drop_append_of_le_length (by simp; omega), List.drop_drop, show p + (u.length - (u.length - i + p)) = i by omega, h4.symm]
      by_cases hep : e < u.length - i + p
      · have h8 : (u.drop (u.length - i)).take (e - (u.length - i)) = u.take (e - (u.length - i)) := by
          have : ((v.drop i ++ v.take i).drop (u.length - i)).take (e - (u.length - i)) = ((u.take e ++ c' :: s').drop (u.length - i)).take (e - (u.length - i)) := by rw [h7]
          rw [List.drop_append, hdl, Nat.sub_self, List.drop_zero, List.drop_of_length_le (by omega), List.nil_append, List.take_take, Nat.min_eq_left (by omega)] at this
          rw [List.drop_append_of_le_length (by simp; omega), List.drop_take, List.take_append_of_le_length (by simp; omega), List.take_take, Nat.min_self] at this
          rw [← this]
          have := congrArg (List.take (e - (u.length - i))) hpre
          rw [List.take_take, List.take_take, Nat.min_eq_left (by omega)] at this
          exact this
        have h9 : c' = u.getD (e - (u.length - i)) 0 := by
          have a := Bt.at h5 h7
          rw [List.getD_eq_getElem?_getD, List.getElem?_append_right (by omega), hdl, List.getElem?_take, if_pos (by omega), ← List.getD_eq_getElem?_getD] at a
          rw [← a, ← getD_take (u := v) (l := p) (by omega), hpre, getD_take (by omega)]
        have hk := nk_pieces hN (k := u.length - i) (l := e - (u.length - i) + 1) (by omega)
        rw [take_one (by simp; omega : e - (u.length - i) < (u.drop (u.length - i)).length), take_one (by omega : e - (u.length - i) < u.length), h8, lex_pre, List.cons_lt_cons_iff] at hk
        apply hk
        left
        rw [List.getD_eq_getElem?_getD, List.getElem?_drop, ← List.getD_eq_getElem?_getD, show u.length - i + (e - (u.length - i)) = e by omega, ← h9]
        exact h6
      · have h8 : u.take (u.length - i + p) = u.take (u.length - i) ++ u.take p := by
          have := congrArg (List.take (u.length - i + p)) h7
          have r : (u.take e ++ c' :: s').take (u.length - i + p) = u.take (u.length - i + p) := by
            rw [List.take_append_of_le_length (by simp; omega), List.take_take, Nat.min_eq_left (by omega)]
          rw [r] at this
          rw [← this, List.take_append, hdl, List.take_of_length_le (by omega), show u.length - i + p - (u.length - i) = p by omega, List.take_take, Nat.min_eq_left (by omega), hpre, ← h4]
        rw [← h8] at hw2
        have := hmax (u.length - i + p) (by omega) hw2
        omega
end
end Z
namespace Z
noncomputable section
open PySem PySem.Spec PySem.P PyProof.Rows L2
def dcd (p : Prop) : Bool := @decide p (Classical.propDecidable p)
theorem dcd_iff {p : Prop} : dcd p = true ↔ p := @decide_eq_true_iff p (Classical.propDecidable p)
theorem dcd_bool {p : Prop} {b : Bool} (h : p ↔ b = true) : dcd p = b := by
  cases b with
  | true => exact dcd_iff.mpr (h.mpr rfl)
  | false =>
    cases q : dcd p with
    | false => rfl
    | true => exact absurd (h.mp (dcd_iff.mp q)) (by simp)
def selW (k t : Nat) (p : List Nat → Prop) : List (List Nat) := (allW k t).filter fun v => dcd (p v)
theorem mem_selW {k t : Nat} (h1 : 1 ≤ k) (h2 : k ≤ 6) {p : List Nat → Prop} {v : List Nat} : v ∈ selW k t p ↔ v.length = t ∧ (∀ x ∈ v, 97 ≤ x ∧ x ≤ 96 + k) ∧ p v := by
  unfold selW
  rw [List.mem_filter, mem_allW h1 h2, dcd_iff, and_assoc]
theorem nodup_lt {l : List (List Nat)} (h : l.Pairwise (· < ·)) : l.Nodup := h.imp fun {a b} hl e => by
  subst e; exact List.lt_irrefl _ hl
theorem nodup_selW {k t : Nat} (h1 : 1 ≤ k) (h2 : k ≤ 6) {p : List Nat → Prop} : (selW k t p).Nodup := nodup_lt ((allW_sorted h1 h2 t).filter _)
def cnt (k t : Nat) (p : List Nat → Prop) : Nat := (selW k t p).length
theorem cnt_eq {k t : Nat} (h1 : 1 ≤ k) (h2 : k ≤ 6) {p : List Nat → Prop} {l : List (List Nat)} (hn : l.Nodup) (hm : ∀ v, v ∈ l ↔ v.length = t ∧ (∀ x ∈ v, 97 ≤ x ∧ x ≤ 96 + k) ∧ p v) : cnt k t p = l.length :=
  ((List.perm_ext_iff_of_nodup (nodup_selW h1 h2) hn).mpr fun v => by rw [mem_selW h1 h2, hm]).length_eq
theorem cnt_congr {k t : Nat} (h1 : 1 ≤ k) (h2 : k ≤ 6) {p q : List Nat → Prop} (h : ∀ v, v.length = t → (∀ x ∈ v, 97 ≤ x ∧ x ≤ 96 + k) → (p v ↔ q v)) : cnt k t p = cnt k t q :=
  cnt_eq h1 h2 (nodup_selW h1 h2) fun v => by
    rw [mem_selW h1 h2]
    constructor
    · rintro ⟨a, b, c⟩; exact ⟨a, b, (h v a b).mpr c⟩
    · rintro ⟨a, b, c⟩; exact ⟨a, b, (h v a b).mp c⟩
theorem filter_split {α : Type} (p q : α → Bool) : ∀ l : List α, (l.filter p).length = (l.filter fun x => p x && q x).length + (l.filter fun x => p x && !q x).length
  | [] => rfl
  | a :: l => by
    have ih := filter_split p q l
    cases hp : p a <;> cases hq : q a <;> simp [hp, hq] <;> omega
theorem cnt_split {k t : Nat} (p q : List Nat → Prop) : cnt k t p = cnt k t (fun v => p v ∧ q v) + cnt k t (fun v => p v ∧ ¬ q v) := by
  unfold cnt selW
  rw [filter_split _ (fun v => dcd (q v))]
  have e1 : (fun v => dcd (p v) && dcd (q v)) = fun v => dcd (p v ∧ q v) := by
    funext v
    exact (dcd_bool (by rw [Bool.and_eq_true, dcd_iff, dcd_iff])).symm
  have e2 : (fun v => dcd (p v) && !dcd (q v)) = fun v => dcd (p v ∧ ¬ q v) := by
    funext v
    refine (dcd_bool ?_).symm
    rw [Bool.and_eq_true, dcd_iff, Bool.not_eq_true', ← Bool.not_eq_true, dcd_iff]
  rw [e1, e2]
theorem cnt_all {k : Nat} (h2 : k ≤ 6) (t : Nat) : cnt k t (fun _ => True) = k ^ t := by
  unfold cnt selW
  rw [← allW_len h2 t]
  congr 1
  exact List.filter_eq_self.mpr fun v _ => dcd_iff.mpr trivial
def ups (k x : Nat) : List Nat := (abc k).filter fun c => decide (x < c)
theorem mem_ups {k x c : Nat} (h1 : 1 ≤ k) (h2 : k ≤ 6) : c ∈ ups k x ↔ (97 ≤ c ∧ c ≤ 96 + k) ∧ x < c := by
  unfold ups
  rw [List.mem_filter, mem_abc (by omega) (by omega), decide_eq_true_iff]
  constructor <;> (rintro ⟨a, b⟩; exact ⟨by omega, b⟩)
theorem nodup_ups {k x : Nat} : (ups k x).Nodup := ((abc_sorted k).filter _).imp fun {a b} h e => by omega
def dn (k : Nat) (u : List Nat) (j : Nat) : Nat := (ups k (u.getD j 0)).length
theorem sum_const {α : Type} (x : Nat) : ∀ l : List α, (l.map fun _ => x).sum = l.length * x
  | [] => by simp
  | a :: l => by
    rw [List.map_cons, List.sum_cons, sum_const x l, List.length_cons, Nat.add_mul, Nat.one_mul, Nat.add_comm]
theorem bT_zero {k : Nat} {u : List Nat} : cnt k 0 (BB u) = 1 := by
  unfold cnt selW allW
  rw [List.filter_eq_self.mpr]
  · rfl
  · intro v hv
    rw [List.mem_singleton.mp hv]
    exact dcd_iff.mpr BB.nil
theorem bT_succ {k : Nat} {u : List Nat} (h1 : 1 ≤ k) (h2 : k ≤ 6) (hN : Nk u) (hu : ∀ x ∈ u, 97 ≤ x ∧ x ≤ 96 + k) {t : Nat} (h0 : 0 < t) (ht : t ≤ u.length) :
    cnt k t (BB u) = ((List.range t).map fun d => dn k u d * cnt k (t - 1 - d) (BB u)).sum := by
  have hl : cnt k t (BB u) = ((List.range t).flatMap fun d => (ups k (u.getD d 0)).flatMap fun c => (selW k (t - 1 - d) (BB u)).map fun s => u.take d ++ c :: s).length := by
    refine cnt_eq h1 h2 ?_ fun v => ?_
    · refine List.pairwise_flatMap.mpr ⟨fun d hd => ?_, ?_⟩
      · have hd := List.mem_range.mp hd
        refine List.pairwise_flatMap.mpr ⟨fun c hc => ?_, ?_⟩
        · refine List.pairwise_map.mpr ((nodup_selW h1 h2).imp fun {a b} h e => h ?_)
          have := List.append_cancel_left e
          injection this
        · refine nodup_ups.imp fun {a b} h x hx y hy e => h ?_
          obtain ⟨s, -, rfl⟩ := List.mem_map.mp hx
          obtain ⟨s', -, rfl⟩ := List.mem_map.mp hy
          have := List.append_cancel_left e
          injection this
      · refine (List.nodup_range (n := t)).imp_of_mem fun {a b} ha hb h x hx y hy e => h ?_
        have ha := List.mem_range.mp ha
        have hb := List.mem_range.mp hb
        obtain ⟨c, hc, hx⟩ := List.mem_flatMap.mp hx
        obtain ⟨s, -, rfl⟩ := List.mem_map.mp hx
        obtain ⟨c', hc', hy⟩ := List.mem_flatMap.mp hy
        obtain ⟨s', -, rfl⟩ := List.mem_map.mp hy
        exact (bt_uniq (by omega) ((mem_ups h1 h2).mp hc).2 (by omega) ((mem_ups h1 h2).mp hc').2 e).1
    · simp only [List.mem_flatMap, List.mem_map, List.mem_range, mem_ups h1 h2, mem_selW h1 h2]
      constructor
      · rintro ⟨d, hd, c, ⟨hc, hc2⟩, s, ⟨hs1, hs2, hs3⟩, rfl⟩
        refine ⟨by simp; omega, fun x hx => ?_, BB.cons hN (by omega) hc2 hs3⟩
        rcases List.mem_append.mp hx with h | h
        · exact hu x (List.mem_of_mem_take h)
        · rcases List.mem_cons.mp h with rfl | h
          · exact hc
          · exact hs2 x h
      · rintro ⟨hv1, hv2, hv3⟩
        have := hv3 0 (by omega)
        rw [List.drop_zero] at this
        obtain ⟨d, c, s, hd, hc, rfl⟩ := this
        have hl : (u.take d).length = d := by simp; omega
        rw [List.length_append, hl, List.length_cons] at hv1
        exact ⟨d, by omega, c, ⟨hv2 c (by simp), hc⟩, s, ⟨by omega, fun x hx => hv2 x (by simp [hx]), hv3.tail (by omega)⟩, rfl⟩
  rw [hl, List.length_flatMap]
  congr 1
  refine List.map_congr_left fun d _ => ?_
  rw [List.length_flatMap]
  have : (fun c => ((selW k (t - 1 - d) (BB u)).map fun s => u.take d ++ c :: s).length) = fun _ => cnt k (t - 1 - d) (BB u) := by
    funext c; simp [cnt]
  rw [this, sum_const]
  rfl
theorem above_count {k : Nat} {u : List Nat} (h1 : 1 ≤ k) (h2 : k ≤ 6) (hN : Nk u) (hu : ∀ x ∈ u, 97 ≤ x ∧ x ≤ 96 + k) (h0 : 0 < u.length) :
    cnt k u.length (fun w => ∀ i, i < w.length → u < rot w i) = ((List.range u.length).map fun d => (d + 1) * dn k u d * cnt k (u.length - 1 - d) (BB u)).sum := by
  have hl : cnt k u.length (fun w => ∀ i, i < w.length → u < rot w i) = ((List.range u.length).flatMap fun d => (List.range (d + 1)).flatMap fun p => (ups k (u.getD d 0)).flatMap fun c => (selW k (u.length - 1 - d) (BB u)).map fun s => rot (u.take d ++ c :: s) p).length := by
    have tk : ∀ {d c : Nat} {s : List Nat} {p : Nat}, p ≤ d → d < u.length → (u.take d ++ c :: s).take p = u.take p := fun hp hd => by
      rw [List.take_append_of_le_length (by simp; omega), List.take_take, Nat.min_eq_left hp]
    have ln : ∀ {d c : Nat} {s : List Nat}, d < u.length → s.length = u.length - 1 - d → (u.take d ++ c :: s).length = u.length := fun hd hs => by
      simp; omega
    refine cnt_eq h1 h2 ?_ fun v => ?_
    · refine List.pairwise_flatMap.mpr ⟨fun d hd => ?_, ?_⟩
      · have hd := List.mem_range.mp hd
        refine List.pairwise_flatMap.mpr ⟨fun p hp => ?_, ?_⟩
        · refine List.pairwise_flatMap.mpr ⟨fun c hc => ?_, ?_⟩
          · refine List.pairwise_map.mpr ((nodup_selW h1 h2).imp_of_mem fun {a b} ha hb h e => h ?_)
            have ha := ((mem_selW h1 h2).mp ha).1
            have hb := ((mem_selW h1 h2).mp hb).1
            have := List.append_cancel_left (rot_inj (by simp; omega) e)
            injection this
          · refine nodup_ups.imp fun {a b} h x hx y hy e => h ?_
            obtain ⟨s, hs, rfl⟩ := List.mem_map.mp hx
            obtain ⟨s', hs', rfl⟩ := List.mem_map.mp hy
            have hs := ((mem_selW h1 h2).mp hs).1
            have hs' := ((mem_selW h1 h2).mp hs').1
            have := List.append_cancel_left (rot_inj (by simp; omega) e)
            injection this
        · refine (List.nodup_range (n := d + 1)).imp_of_mem fun {a b} ha hb h x hx y hy e => h ?_
          have ha := List.mem_range.mp ha
          have hb := List.mem_range.mp hb
          obtain ⟨c, hc, hx⟩ := List.mem_flatMap.mp hx
          obtain ⟨s, hs, rfl⟩ := List.mem_map.mp hx
          obtain ⟨c', hc', hy⟩ := List.mem_flatMap.mp hy
          obtain ⟨s', hs', rfl⟩ := List.mem_map.mp hy
          have hs := (mem_selW h1 h2).mp hs
          have hs' := (mem_selW h1 h2).mp hs'
          have hc := ((mem_ups h1 h2).mp hc).2
          have hc' := ((mem_ups h1 h2).mp hc').2
          have l1 := ln (c := c) hd hs.1
          have l2 := ln (c := c') hd hs'.1
          by_cases hab : a ≤ b
          · exact cut_uniq (l1.trans l2.symm) (BB.cons hN hd hc hs.2.2) (tk (by omega) hd) hab (by omega) (by omega) e
          · exact (cut_uniq (l2.trans l1.symm) (BB.cons hN hd hc' hs'.2.2) (tk (by omega) hd) (by omega) (by omega) (by omega) e.symm).symm
      · refine (List.nodup_range (n := u.length)).imp_of_mem fun {a b} ha hb h x hx y hy e => h ?_
        have ha := List.mem_range.mp ha
        have hb := List.mem_range.mp hb
        obtain ⟨p, hp, hx⟩ := List.mem_flatMap.mp hx
        obtain ⟨c, hc, hx⟩ := List.mem_flatMap.mp hx
        obtain ⟨s, hs, rfl⟩ := List.mem_map.mp hx
        obtain ⟨p', hp', hy⟩ := List.mem_flatMap.mp hy
        obtain ⟨c', hc', hy⟩ := List.mem_flatMap.mp hy
        obtain ⟨s', hs', rfl⟩ := List.mem_map.mp hy
        have hp := List.mem_range.mp hp
        have hp' := List.mem_range.mp hp'
        have hs := (mem_selW h1 h2).mp hs
        have hs' := (mem_selW h1 h2).mp hs'
        have hc := ((mem_ups h1 h2).mp hc).2
        have hc' := ((mem_ups h1 h2).mp hc').2
        have l1 := ln (c := c) ha hs.1
        have l2 := ln (c := c') hb hs'.1
        have hpp : p = p' := by
          by_cases hab : p ≤ p'
          · exact cut_uniq (l1.trans l2.symm) (BB.cons hN ha hc hs.2.2) (tk (by omega) hb) hab (by omega) (by omega) e
          · exact (cut_uniq (l2.trans l1.symm) (BB.cons hN hb hc' hs'.2.2) (tk (by omega) ha) (by omega) (by omega) (by omega) e.symm).symm
        subst hpp
        exact (bt_uniq ha hc hb hc' (rot_inj (l1.trans l2.symm) e)).1
    · simp only [List.mem_flatMap, List.mem_map, List.mem_range, mem_ups h1 h2, mem_selW h1 h2]
      constructor
      · rintro ⟨d, hd, p, hp, c, ⟨hc, hc2⟩, s, ⟨hs1, hs2, hs3⟩, rfl⟩
        have l1 := ln (c := c) hd hs1
        refine ⟨by rw [rot_len]; exact l1, fun x hx => ?_, fun i hi => ?_⟩
        · have hx' : x ∈ u.take d ++ c :: s := by
            unfold rot at hx
            rcases List.mem_append.mp hx with h | h
            · exact List.mem_of_mem_drop h
            · exact List.mem_of_mem_take h
          rcases List.mem_append.mp hx' with h | h
          · exact hu x (List.mem_of_mem_take h)
          · rcases List.mem_cons.mp h with rfl | h
            · exact hc
            · exact hs2 x h
        · rw [rot_len] at hi
          rw [rot_rot _ _ _ (by omega) (by omega) (by omega)]
          exact (BB.cons hN hd hc2 hs3).rots l1 _ (Nat.mod_lt _ (by omega))
      · rintro ⟨hv1, hv2, hv3⟩
        obtain ⟨p, w, d, c, s, hp, hd, hc, rfl, hB, hwl, rfl, hpl⟩ := cut_ex hN hv1 h0 hv3
        have hl : (u.take d).length = d := by simp; omega
        have hmem : ∀ x ∈ c :: s, x ∈ rot (u.take d ++ c :: s) p := fun x hx => by
          unfold rot
          rw [List.drop_append_of_le_length (by omega)]
          exact List.mem_append_left _ (List.mem_append_right _ hx)
        rw [List.length_append, hl, List.length_cons] at hwl
        exact ⟨d, hd, p, by omega, c, ⟨hv2 c (hmem c (by simp)), hc⟩, s, ⟨by omega, fun x hx => hv2 x (hmem x (by simp [hx])), hB.tail (by omega)⟩, rfl⟩
  rw [hl, List.length_flatMap]
  congr 1
  refine List.map_congr_left fun d _ => ?_
  rw [List.length_flatMap]
  have h3 : (fun p => ((ups k (u.getD d 0)).flatMap fun c => (selW k (u.length - 1 - d) (BB u)).map fun s => rot (u.take d ++ c :: s) p).length) = fun _ => dn k u d * cnt k (u.length - 1 - d) (BB u) := by
    funext p
    rw [List.length_flatMap]
    have : (fun c => ((selW k (u.length - 1 - d) (BB u)).map fun s => rot (u.take d ++ c :: s) p).length) = fun _ => cnt k (u.length - 1 - d) (BB u) := by
      funext c; simp [cnt]
    rw [this, sum_const]
    rfl
  rw [h3, sum_const, List.length_range, Nat.mul_assoc]
end
end Z
namespace Z
noncomputable section
open PySem PySem.Spec PySem.P PyProof.Rows L2
theorem downD_get {i j : Int} {k : Nat} {d : D} (h : (downD i j)[k]? = some d) : d = .int (i - k) ∧ (k : Int) < i - j := by
  unfold downD at h
  rw [List.getElem?_map] at h
  by_cases hk : k < (i - j).toNat
  · rw [List.getElem?_range hk] at h
    simp at h
    exact ⟨h.symm, by omega⟩
  · rw [List.getElem?_eq_none (by simpa using hk)] at h
    cases h
@[simp] theorem downD_len (i j : Int) : (downD i j).length = (i - j).toNat := by simp [downD]
theorem abc_range {k : Nat} (h : k ≤ 6) : abc k = (List.range k).map (97 + ·) := by
  have : k = 0 ∨ k = 1 ∨ k = 2 ∨ k = 3 ∨ k = 4 ∨ k = 5 ∨ k = 6 := by omega
  rcases this with rfl | rfl | rfl | rfl | rfl | rfl | rfl <;> rfl
theorem abc_get {k i c : Nat} (h : k ≤ 6) (e : (abc k)[i]? = some c) : c = 97 + i ∧ i < k := by
  rw [abc_range h, List.getElem?_map] at e
  by_cases hi : i < k
  · rw [List.getElem?_range hi] at e
    simp at e
    exact ⟨e.symm, hi⟩
  · rw [List.getElem?_eq_none (by simpa using hi)] at e
    cases e
theorem abc_drop_get {k m i : Nat} {d : D} (h : k ≤ 6) (e : (((abc k).drop m).map fun c => D.str [c])[i]? = some d) : d = .str [97 + (m + i)] ∧ m + i < k := by
  rw [List.getElem?_map, List.getElem?_drop] at e
  cases q : (abc k)[m + i]? with
  | none => rw [q] at e; cases e
  | some c =>
    rw [q] at e
    obtain ⟨rfl, h2⟩ := abc_get h q
    cases e
    exact ⟨rfl, h2⟩
theorem abc_take_get {k m i : Nat} {d : D} (h : k ≤ 6) (e : (((abc k).take m).map fun c => D.str [c])[i]? = some d) : d = .str [97 + i] ∧ i < m ∧ i < k := by
  rw [List.getElem?_map, List.getElem?_take] at e
  by_cases hi : i < m
  · rw [if_pos hi] at e
    cases q : (abc k)[i]? with
    | none => rw [q] at e; cases e
    | some c =>
      rw [q] at e
      obtain ⟨rfl, h2⟩ := abc_get h q
      cases e
      exact ⟨rfl, hi, h2⟩
  · rw [if_neg hi] at e
    cases e
theorem getD_mem {w : List Nat} {j : Nat} (h : j < w.length) : w.getD j 0 ∈ w := by
  rw [List.getD_eq_getElem?_getD, List.getElem?_eq_getElem h]
  simp
theorem ixD_getD {w : List Nat} {j : Nat} {i : Int} (hi : i = j) (h : j < w.length) (hl : w.length ≤ SZ) : ixD (.str w) (.int i) = .ok (.str [w.getD j 0]) := by
  subst hi
  refine ixD_s w j (by omega) _ hl ?_
  rw [Int.toNat_natCast, List.getD_eq_getElem?_getD, List.getElem?_eq_getElem h]
  rfl
def post (P : SS → Prop) (Q : RS → Prop) : RS → Prop
  | .nx s => P s
  | .ct s => P s
  | .bk s => Q (.nx s)
  | .rt b d => Q (.rt b d)
  | .ex c vs s => Q (.ex c vs s)
  | .rm d s => Q (.rm d s)
  | .rn j s => Q (.rn j s)
  | .bad => False
section
variable {P : SS → Prop} {Q : RS → Prop} {s : SS}
@[simp] theorem post_nx : post P Q (.nx s) = P s := rfl
@[simp] theorem post_ct : post P Q (.ct s) = P s := rfl
@[simp] theorem post_bk : post P Q (.bk s) = Q (.nx s) := rfl
@[simp] theorem post_rt (b : Bool) (d : D) : post P Q (.rt b d) = Q (.rt b d) := rfl
@[simp] theorem post_rn (j : Nat) : post P Q (.rn j s) = Q (.rn j s) := rfl
@[simp] theorem post_rm (d : D) : post P Q (.rm d s) = Q (.rm d s) := rfl
@[simp] theorem post_ex (c : Nat) (vs : List D) : post P Q (.ex c vs s) = Q (.ex c vs s) := rfl
end
theorem forL_post {step : D → SS → RS} (P : Nat → SS → Prop) (Q : RS → Prop) (ds : List D) (s : SS) (h0 : P 0 s)
    (hs : ∀ i d s, ds[i]? = some d → P i s → post (P (i + 1)) Q (step d s)) (he : ∀ s, P ds.length s → Q (.nx s)) : Q (forL step ds s) :=
  forL_ind P Q ds s h0 (fun i d s h p => by
    have := hs i d s h p
    revert this
    cases step d s <;> exact fun h => h) he
def nextV (o : Option (List Nat)) : D := match o with
  | some r => .str r
  | none => .non
def NextP (lo top n : Nat) (w : List Nat) : Option (List Nat) → Prop
  | some r => Good lo top n r ∧ w < r ∧ ∀ g, Good lo top n g → w < g → ¬ g < r
  | none => ∀ g, Good lo top n g → ¬ w < g
theorem lt_of_le {a b c : List Nat} (h : ¬ b < a) (h2 : b < c) : a < c := by
  rcases lex_tri a b with h3 | h3 | h3
  · exact List.lt_trans h3 h2
  · subst h3; exact h2
  · exact absurd h3 h
theorem lt_of_lt {a b c : List Nat} (h : a < b) (h2 : ¬ c < b) : a < c := by
  rcases lex_tri b c with h3 | h3 | h3
  · exact List.lt_trans h h3
  · subst h3; exact h
  · exact absurd h3 h2
end
end Z
namespace Z
noncomputable section
open PySem PySem.Spec PySem.P PyProof.Rows L2
theorem repS_succ (p : List Nat) (m : Nat) : repS p (m + 1) = p ++ repS p m := by
  simp [repS, List.replicate_succ]
theorem rot_repS {p : List Nat} {m k : Nat} (hp : p ≠ []) (hk : k ≤ m * p.length) (hm : 0 < m) : rot (repS p m) k = repS (rot p (k % p.length)) m := by
  have h0 := List.length_pos_iff.mpr hp
  have hkl : k % p.length < p.length := Nat.mod_lt _ h0
  apply List.ext_getElem?
  intro i
  by_cases hi : i < m * p.length
  · have hpos : 0 < m * p.length := Nat.mul_pos hm h0
    rw [rot_get _ _ _ (by rw [repS_len]; exact hk) (by rw [repS_len]; exact hi), repS_len, repS_get _ _ _ (Nat.mod_lt _ hpos)]
    rw [repS_get _ _ _ (by rw [rot_len]; exact hi), rot_len, rot_get _ _ _ (by omega) (Nat.mod_lt _ h0)]
    congr 1
    rw [Nat.mod_mod_of_dvd _ (Nat.dvd_mul_left _ _), ← Nat.add_mod]
  · rw [List.getElem?_eq_none (by rw [rot_len, repS_len]; omega), List.getElem?_eq_none (by rw [repS_len, rot_len]; omega)]
theorem lrot_nk {w : List Nat} (hw : w ≠ []) : Nk (lrot w) := by
  rw [nk_iff (lrot_nil hw)]
  obtain ⟨i, hi, e⟩ := mem_rots.mp (lrot_spec hw).1
  conv => lhs; rw [e]
  exact lrot_rot hi
theorem lrot_mem {w : List Nat} {x : Nat} (hw : w ≠ []) (hx : x ∈ lrot w) : x ∈ w := by
  obtain ⟨i, hi, e⟩ := mem_rots.mp (lrot_spec hw).1
  rw [e] at hx
  unfold rot at hx
  rcases List.mem_append.mp hx with h | h
  · exact List.mem_of_mem_drop h
  · exact List.mem_of_mem_take h
end
end Z
namespace Z
noncomputable section
open PySem PySem.Spec PySem.P PyProof.Rows L2
theorem ups_len {k c : Nat} (h2 : k ≤ 6) (hc : 97 ≤ c) (hk : c ≤ 96 + k) : (ups k c).length = 96 + k - c := by
  have : k = 1 ∨ k = 2 ∨ k = 3 ∨ k = 4 ∨ k = 5 ∨ k = 6 := by omega
  have : c = 97 ∨ c = 98 ∨ c = 99 ∨ c = 100 ∨ c = 101 ∨ c = 102 := by omega
  rcases this with rfl | rfl | rfl | rfl | rfl | rfl <;> (rcases ‹k = 1 ∨ _› with rfl | rfl | rfl | rfl | rfl | rfl <;> first | omega | rfl)
theorem sum_cast {α : Type} (f : α → Nat) : ∀ l : List α, (l.map fun j => ((f j : Nat) : Int)).sum = (((l.map f).sum : Nat) : Int)
  | [] => rfl
  | a :: l => by
    rw [List.map_cons, List.sum_cons, sum_cast f l, List.map_cons, List.sum_cons]
    omega
theorem sumD_nat {α : Type} (f : α → Nat) (l : List α) : sumD [.lst (l.map fun j => .int ((f j : Nat) : Int))] = .ok (.int ((l.map f).sum : Nat)) := by
  have e : (l.map fun j => D.int ((f j : Nat) : Int)) = (l.map fun j => ((f j : Nat) : Int)).map .int := by simp
  rw [e, sumD_m, sum_cast]
theorem ixD_rng (f : Nat → D) {m j : Nat} {i : Int} (hi : i = j) (h : j < m) : ixD (.lst ((List.range m).map f)) (.int i) = .ok (f j) := by
  subst hi
  exact ixD_l _ _ (by omega) _ (by simp [h])
def upW (k : Nat) (w : List Nat) : Nat := cnt k w.length fun v => ¬ w < lrot v
theorem good_lrot {k : Nat} {v : List Nat} (h0 : v ≠ []) (hv : ∀ x ∈ v, 97 ≤ x ∧ x ≤ 96 + k) : Good 97 (96 + k) v.length (lrot v) :=
  ⟨lrot_len h0, lrot_nk h0, fun x hx => hv x (lrot_mem h0 hx)⟩
theorem upTo_last {k : Nat} {w f : List Nat} (h1 : 1 ≤ k) (h2 : k ≤ 6) (h0 : w ≠ []) (hf : LastP 97 (96 + k) w.length w f) :
    upW k w + cnt k f.length (fun v => ∀ i, i < v.length → f < rot v i) = k ^ w.length := by
  have hl := List.length_pos_iff.mpr h0
  rw [← cnt_all h2, cnt_split (fun _ => True) (fun v => ¬ w < lrot v), hf.1.1]
  unfold upW
  have e1 : cnt k w.length (fun v => ¬ w < lrot v) = cnt k w.length (fun v => True ∧ ¬ w < lrot v) := cnt_congr h1 h2 fun v _ _ => by rw [true_and]
  have e2 : cnt k w.length (fun v => ∀ i, i < v.length → f < rot v i) = cnt k w.length (fun v => True ∧ ¬ ¬ w < lrot v) := cnt_congr h1 h2 fun v hv hr => by
    have hv0 : v ≠ [] := List.length_pos_iff.mp (by omega)
    have hg := good_lrot hv0 hr
    rw [hv] at hg
    rw [true_and, Classical.not_not]
    constructor
    · intro h
      obtain ⟨i, hi, e⟩ := mem_rots.mp (lrot_spec hv0).1
      have h3 := h i hi
      rw [← e] at h3
      exact Classical.byContradiction fun z => hf.2.2 _ hg z h3
    · intro h i hi
      exact lt_of_lt (lt_of_le hf.2.1 h) ((lrot_spec hv0).2 _ (mem_rots.mpr ⟨i, hi, rfl⟩))
  rw [e1, e2]
theorem filter_true {α : Type} (l : List α) : (l.filter fun _ => true) = l := List.filter_eq_self.mpr fun _ _ => rfl
theorem upTo_full {k n : Nat} (h1 : 1 ≤ k) (h2 : k ≤ 6) (hn : 1 ≤ n) : upW k (List.replicate n (96 + k)) = k ^ n := by
  unfold upW
  rw [List.length_replicate, ← cnt_all h2 n]
  refine cnt_congr h1 h2 fun v hv hr => ⟨fun _ => trivial, fun _ => ?_⟩
  have hg := good_lrot (List.length_pos_iff.mp (by omega)) hr
  have := top_max (top := 96 + k) (lrot v) fun x hx => (hg.2.2 x hx).2
  rwa [hg.1, hv] at this
end
end Z
namespace Z
noncomputable section
open PySem PySem.Spec PySem.P PyProof.Rows L2
theorem rots_ne {r : List Nat} {i j : Nat} (hij : i < j) (hj : j < rlen r) (hr : r ≠ []) : rot r i ≠ rot r j := fun e => by
  have hs := rlen_spec hr
  have e2 : rot r j = rot (rot r (j - i)) i := by
    rw [rot_rot _ _ _ (by omega) (by omega) (by omega), Nat.mod_eq_of_lt (by omega)]
    congr 1; omega
  rw [e2] at e
  have e3 : r = rot r (j - i) := rot_inj (by rw [rot_len]) e
  have := rt_of_rot e3.symm (by omega) (by omega)
  omega
theorem rot_mod {r : List Nat} {m : Nat} (hr : r ≠ []) (hm : m < r.length) : rot r m = rot r (m % rlen r) := by
  have hs := rlen_spec hr
  have hp := rlen_pos hr
  have h0 := List.length_pos_iff.mpr hr
  have hq : r.length / rlen r * rlen r = r.length := Nat.div_mul_cancel (Nat.dvd_of_mod_eq_zero (rlen_dvd hr))
  have hq0 : 0 < r.length / rlen r := Nat.div_pos hs.1 hp
  have hlt : m % rlen r < rlen r := Nat.mod_lt _ hp
  have hroot := root_ne hr
  have hrl := root_len hr
  have e := root_rep hr
  rw [← e]
  rw [rot_repS hroot (by rw [hrl, hq]; omega) hq0]
  have e2 : rlen (repS (rootW r) (r.length / rlen r)) = rlen r := by rw [e]
  rw [e2, rot_repS hroot (by rw [hrl, hq]; omega) hq0, hrl, Nat.mod_mod]
theorem lrot_back {v : List Nat} (hv : v ≠ []) : ∃ m, m < v.length ∧ v = rot (lrot v) m := by
  have h0 := List.length_pos_iff.mpr hv
  obtain ⟨i, hi, e⟩ := mem_rots.mp (lrot_spec hv).1
  refine ⟨(v.length - i) % v.length, Nat.mod_lt _ h0, ?_⟩
  have : rot (lrot v) (v.length - i) = v := by
    rw [e, rot_rot _ _ _ (by omega) (by omega) h0, show i + (v.length - i) = v.length by omega, Nat.mod_self, rot_zero]
  by_cases hi0 : i = 0
  · subst hi0
    rw [Nat.sub_zero, Nat.mod_self, rot_zero, e, rot_zero]
  · rw [Nat.mod_eq_of_lt (by omega), this]
theorem rot_mem {v : List Nat} {i x : Nat} (h : x ∈ rot v i) : x ∈ v := by
  unfold rot at h
  rcases List.mem_append.mp h with h | h
  · exact List.mem_of_mem_drop h
  · exact List.mem_of_mem_take h
theorem cnt_lrot {k : Nat} {r : List Nat} (h1 : 1 ≤ k) (h2 : k ≤ 6) (hr : r ≠ []) (hN : Nk r) (hl : ∀ x ∈ r, 97 ≤ x ∧ x ≤ 96 + k) : cnt k r.length (fun v => lrot v = r) = rlen r := by
  have hs := rlen_spec hr
  have hp := rlen_pos hr
  have h0 := List.length_pos_iff.mpr hr
  have := cnt_eq (k := k) (t := r.length) (p := fun v => lrot v = r) h1 h2 (l := (List.range (rlen r)).map (rot r)) ?_ ?_
  · rw [this]; simp
  · refine List.pairwise_map.mpr ((List.nodup_range (n := rlen r)).imp_of_mem fun {a b} ha hb h e => ?_)
    have ha := List.mem_range.mp ha
    have hb := List.mem_range.mp hb
    by_cases hab : a < b
    · exact rots_ne hab hb hr e
    · exact rots_ne (by omega : b < a) ha hr e.symm
  · intro v
    constructor
    · intro hv
      obtain ⟨i, hi, rfl⟩ := List.mem_map.mp hv
      have hi := List.mem_range.mp hi
      exact ⟨rot_len _ _, fun x hx => hl x (rot_mem hx), by rw [lrot_rot (by omega)]; exact (nk_iff hr).mp hN⟩
    · rintro ⟨hv, hx, e⟩
      have hv0 : v ≠ [] := List.length_pos_iff.mp (by omega)
      obtain ⟨m, hm, e2⟩ := lrot_back hv0
      rw [e] at e2
      rw [e2, rot_mod hr (by omega)]
      exact List.mem_map.mpr ⟨_, List.mem_range.mpr (Nat.mod_lt _ hp), rfl⟩
theorem upW_next {k : Nat} {w r : List Nat} (h1 : 1 ≤ k) (h2 : k ≤ 6) (h0 : w ≠ []) (hr : Good 97 (96 + k) w.length r) (hlt : w < r) (hmin : ∀ g, Good 97 (96 + k) w.length g → w < g → ¬ g < r) : upW k r = upW k w + rlen r := by
  have hl := List.length_pos_iff.mpr h0
  have hr0 : r ≠ [] := List.length_pos_iff.mp (by have := hr.1; omega)
  unfold upW
  rw [cnt_split _ (fun v => ¬ w < lrot v), ← cnt_lrot h1 h2 hr0 hr.2.1 hr.2.2, hr.1]
  congr 1
  · refine cnt_congr h1 h2 fun v hv hx => ⟨fun h => h.2, fun h => ⟨fun z => h (List.lt_trans hlt z), h⟩⟩
  · refine cnt_congr h1 h2 fun v hv hx => ?_
    have hv0 : v ≠ [] := List.length_pos_iff.mp (by omega)
    have hg := good_lrot hv0 hx
    rw [hv] at hg
    rw [Classical.not_not]
    constructor
    · rintro ⟨a, b⟩
      rcases lex_tri (lrot v) r with h | h | h
      · exact absurd h (hmin _ hg b)
      · exact h
      · exact absurd h a
    · intro e
      rw [e]
      exact ⟨List.lt_irrefl _, hlt⟩
end
end Z
namespace Z
noncomputable section
open PySem PySem.Spec PySem.P PyProof.Rows L2
theorem repS_add (x : List Nat) (a b : Nat) : repS x (a + b) = repS x a ++ repS x b := by
  unfold repS
  rw [← List.replicate_append_replicate, List.flatten_append]
theorem rlen_rot {x : List Nat} {i : Nat} (hx : x ≠ []) (hi : i < x.length) : rlen (rot x i) = rlen x := by
  have h0 := List.length_pos_iff.mpr hx
  have key : ∀ {x : List Nat} {i : Nat}, x ≠ [] → i < x.length → rlen x ≤ rlen (rot x i) := by
    intro x i hx hi
    have h0 := List.length_pos_iff.mpr hx
    have hne : rot x i ≠ [] := List.length_pos_iff.mp (by rw [rot_len]; exact h0)
    have hs := rlen_spec hne
    rw [rot_len] at hs
    by_cases e : rlen (rot x i) = x.length
    · rw [e]; exact (rlen_spec hx).1
    · have hr := rot_of_rt hs.2.1 (by rw [rot_len]; omega)
      have e2 : rot (rot x i) (rlen (rot x i)) = rot (rot x (rlen (rot x i))) i := by
        rw [rot_rot _ _ _ (by omega) (by omega) h0, rot_rot _ _ _ (by omega) (by omega) h0, Nat.add_comm]
      rw [e2] at hr
      exact rt_of_rot (rot_inj (by rw [rot_len]) hr) (rlen_pos hne) (by omega)
  have h1 := key hx hi
  have hne : rot x i ≠ [] := List.length_pos_iff.mp (by rw [rot_len]; exact h0)
  have h2 : rlen (rot x i) ≤ rlen x := by
    by_cases e : i = 0
    · subst e; rw [rot_zero]; exact Nat.le_refl _
    · have := key (x := rot x i) (i := x.length - i) hne (by rw [rot_len]; omega)
      rw [rot_rot _ _ _ (by omega) (by omega) h0, show i + (x.length - i) = x.length by omega, Nat.mod_self, rot_zero] at this
      exact this
  omega
theorem rlen_lrot {x : List Nat} (hx : x ≠ []) : rlen (lrot x) = rlen x := by
  obtain ⟨i, hi, e⟩ := mem_rots.mp (lrot_spec hx).1
  rw [e, rlen_rot hx hi]
end
end Z
namespace Z
noncomputable section
open PySem PySem.Spec PySem.P PyProof.Rows L2
theorem selW_sorted {k n : Nat} {P : List Nat → Prop} (h1 : 1 ≤ k) (h2 : k ≤ 6) : (selW k n P).Pairwise (· < ·) := (allW_sorted h1 h2 n).filter _
theorem toward {k n : Nat} {t g : List Nat} (hg : Good 97 (96 + k) n g) (hp : t <+: g) (hl : t.length < n) {c : Nat} (hc : c ≤ 96 + k) :
    (c = g.getD t.length 0 → Nk (t ++ c :: List.replicate (n - t.length - 1) (96 + k)) ∧ ¬ (t ++ c :: List.replicate (n - t.length - 1) (96 + k)) < g) ∧ (c < g.getD t.length 0 → t ++ c :: List.replicate (n - t.length - 1) (96 + k) < g) := by
  obtain ⟨s, rfl⟩ := hp
  have hlen := hg.1
  rw [List.length_append] at hlen
  cases s with
  | nil => simp at hlen; omega
  | cons d s =>
    have hd : (t ++ d :: s).getD t.length 0 = d := by simp
    rw [hd]
    have hsl : s.length = n - t.length - 1 := by rw [List.length_cons] at hlen; omega
    constructor
    · rintro rfl
      constructor
      · have : Nk ((t ++ [c]) ++ s) := by simpa using hg.2.1
        have := nk_fill (top := 96 + k) (t := t ++ [c]) (s := s) (by intro x hx; exact (hg.2.2 x (by simpa using hx)).2) this
        rw [hsl] at this
        simpa using this
      · rw [lex_pre, List.cons_lt_cons_iff, ← hsl]
        rintro (h | ⟨-, h⟩)
        · omega
        · exact top_max s (fun x hx => (hg.2.2 x (by simp [hx])).2) h
    · intro h
      rw [lex_pre, List.cons_lt_cons_iff]
      exact .inl h
theorem toward_app {t g : List Nat} (hp : t <+: g) (hl : t.length < g.length) : t ++ [g.getD t.length 0] <+: g := by
  obtain ⟨s, rfl⟩ := hp
  cases s with
  | nil => simp at hl
  | cons d s => exact ⟨s, by simp⟩
theorem pre_full {t g : List Nat} (hp : t <+: g) (hl : g.length ≤ t.length) : t = g := by
  obtain ⟨s, rfl⟩ := hp
  rw [List.length_append] at hl
  have : s = [] := List.eq_nil_of_length_eq_zero (by omega)
  subst this
  simp
end
end Z
namespace Z
noncomputable section
open PySem PySem.Spec PySem.P PyProof.Rows L2
theorem whL_nx {fc : SS → R D} {f : SS → RS} (P : SS → Prop) (mu : SS → Nat) (Q : RS → Prop)
    (hs : ∀ s, P s → ∃ b, fc s = .ok (.bl b) ∧ (b = true → ∃ s', f s = .nx s' ∧ P s' ∧ mu s' < mu s) ∧ (b = false → Q (.nx s))) (n : Nat) (s : SS) (h0 : P s) (hm : mu s < n) : Q (whL fc f n s) :=
  whL_ind P mu Q (fun s hp => by
    obtain ⟨b, e, h1, h2⟩ := hs s hp
    rw [e]
    cases b with
    | true =>
      obtain ⟨s', e2, h3, h4⟩ := h1 rfl
      dsimp only
      rw [e2]
      exact ⟨h3, h4⟩
    | false => exact h2 rfl) n s h0 hm
end
end Z
namespace Z
noncomputable section
open PySem PySem.Spec PySem.P PyProof.Rows L2
section
variable {X : Cx} {C : CT} {W : WX} {a e : Expr} {fa : SS → R D} {fs : SS → R (List D)} {pos apos : Pos}
end
end
end Z
namespace Z
noncomputable section
open PySem PySem.Spec PySem.P PyProof.Rows L2
section
variable {X : Cx} {C : CT} {W : WX} {x : Str} {p apos pos pos' : Pos}
end
end
end Z
namespace Z
noncomputable section
open PySem PySem.Spec PySem.P PyProof.Rows L2
theorem pick_mod (xs : List D) (n i : Int) (hl : (xs.length : Int) = n) (h : 0 < n) : ∃ x, x ∈ xs ∧ ixD (.lst xs) (.int (i % n)) = .ok x := by
  have h1 := Int.emod_nonneg i (show n ≠ 0 by omega)
  have h2 := Int.emod_lt_of_pos i h
  have h3 : (i % n).toNat < xs.length := by omega
  exact ⟨xs[(i % n).toNat], List.getElem_mem h3, ixD_l _ _ h1 _ (List.getElem?_eq_getElem h3)⟩
end
end Z
namespace Z
noncomputable section
open PySem PySem.Spec PySem.P PyProof.Rows L2
theorem last_not' {lo : Nat} : ∀ (v : List Nat), (∃ x ∈ v, x ≠ lo) → ∃ j, j < v.length ∧ v.getD j 0 ≠ lo ∧ ∀ i, j < i → i < v.length → v.getD i 0 = lo
  | [], h => by obtain ⟨x, hx, _⟩ := h; cases hx
  | a :: v, h => by
    by_cases hv : ∃ x ∈ v, x ≠ lo
    · obtain ⟨j, h1, h2, h3⟩ := last_not' v hv
      refine ⟨j + 1, by simp; omega, by simpa using h2, fun i hi hl => ?_⟩
      obtain ⟨i, rfl⟩ : ∃ i', i = i' + 1 := ⟨i - 1, by omega⟩
      simpa using h3 i (by omega) (by simpa using hl)
    · obtain ⟨x, hx, hne⟩ := h
      rcases List.mem_cons.mp hx with rfl | hx
      · refine ⟨0, by simp, by simpa using hne, fun i hi hl => ?_⟩
        obtain ⟨i, rfl⟩ : ∃ i', i = i' + 1 := ⟨i - 1, by omega⟩
        have hl' : i < v.length := by simpa using hl
        have hm : v.getD i 0 ∈ v := by
          rw [List.getD_eq_getElem?_getD, List.getElem?_eq_getElem hl']; simp
        have : ¬ (v.getD i 0 ≠ lo) := fun z => hv ⟨_, hm, z⟩
        simpa using this
      · exact absurd ⟨x, hx, hne⟩ hv
theorem getD_in {w : List Nat} {j : Nat} (h : j < w.length) : w.getD j 0 ∈ w := by
  rw [List.getD_eq_getElem?_getD, List.getElem?_eq_getElem h]; simp
theorem split_at {w : List Nat} {j : Nat} (h : j < w.length) : w = w.take j ++ w.getD j 0 :: w.drop (j + 1) := by
  rw [List.getD_eq_getElem?_getD, List.getElem?_eq_getElem h]
  simp
def LastB (top : Nat) (y : List Nat) (j : Nat) : Prop := j < y.length ∧ y.getD j 0 < top ∧ ∀ i, j < i → i < y.length → y.getD i 0 = top
theorem step_next {lo top n : Nat} {y z : List Nat} (hlo : lo ≤ top) (hy : Good lo top n y) (hz : Good lo top n z) (hlt : y < z) (hmin : ∀ g, Good lo top n g → y < g → ¬ g < z) :
    ∃ j, LastB top y j ∧ z.take j = y.take j ∧ z.getD j 0 = y.getD j 0 + 1 := by
  have hne : ∃ x ∈ y, x ≠ top := Classical.byContradiction fun q => by
    have e : y = List.replicate y.length top := List.eq_replicate_iff.mpr ⟨rfl, fun x hx => Classical.byContradiction fun z2 => q ⟨x, hx, z2⟩⟩
    rw [e, hy.1, ← hz.1] at hlt
    exact top_max z hz.below hlt
  obtain ⟨j, h1, h2, h3⟩ := last_not' (lo := top) y hne
  have hjt := (hy.2.2 _ (getD_in h1)).2
  have hyn := hy.1
  have hsp := split_at h1
  have hG : Good lo top n (y.take j ++ y.getD j 0 :: y.drop (j + 1)) := by rw [← hsp]; exact hy
  have hfl := firstL_le hG
  have hB := (Good.beg (lo := lo) (t := y.take j) (s := y.getD j 0 :: y.drop (j + 1)) hG).up (lo := lo) (e := y.getD j 0 + 1) (by simp; omega) (by omega) (by omega)
  have hg := hB.good (lo := lo) (fun x hx => by
    rcases List.mem_append.mp hx with h | h
    · exact hy.2.2 x (List.mem_of_mem_take h)
    · rw [List.mem_singleton.mp h]
      have := (hy.2.2 _ (getD_in h1)).1
      omega) hlo
  have hgl : (y.take j ++ [y.getD j 0 + 1]).length = j + 1 := by simp; omega
  rw [hgl, List.append_assoc, List.singleton_append] at hg
  have hgy := split_gt (s := List.replicate (n - (j + 1)) top) h1 (show y.getD j 0 < y.getD j 0 + 1 by omega)
  have hgz := hmin _ hg hgy
  refine ⟨j, ⟨h1, by omega, h3⟩, ?_⟩
  obtain ⟨j', c', s, i1, i2, rfl⟩ := gt_split (by rw [hyn, hz.1]) hlt
  have hct := (hz.2.2 c' (by simp)).2
  have hjj : j' ≤ j := Classical.byContradiction fun q => by
    have := h3 j' (by omega) i1
    omega
  by_cases e : j' = j
  · subst e
    rw [lex_pre, List.cons_lt_cons_iff] at hgz
    have : c' = y.getD j' 0 + 1 := Classical.byContradiction fun q => hgz (.inl (by omega))
    have htl : (y.take j').length = j' := by simp; omega
    refine ⟨by rw [List.take_append_of_le_length (by omega), List.take_take, Nat.min_self], ?_⟩
    rw [List.getD_eq_getElem?_getD, List.getElem?_append_right (by omega), htl, Nat.sub_self]
    simpa using this
  · exfalso
    apply hgz
    rw [take_at (i := j') (j := j) (by omega) (by omega), List.append_assoc, lex_pre, List.cons_append, List.cons_lt_cons_iff]
    exact .inl i2
theorem lastB_uniq {top : Nat} {y : List Nat} {j j' : Nat} (a : LastB top y j) (b : LastB top y j') : j = j' := by
  by_cases h : j < j'
  · have := a.2.2 j' h b.1
    have := b.2.1
    omega
  · by_cases h2 : j' < j
    · have := b.2.2 j h2 a.1
      have := a.2.1
      omega
    · omega
theorem period {v : List Nat} (hv : v ≠ []) {i : Nat} (hi : i + rlen v < v.length) : v.getD i 0 = v.getD (i + rlen v) 0 := by
  have h := (rtOk_iff.mp (rlen_spec hv).2.1).2.2
  rw [List.getD_eq_getElem?_getD, List.getD_eq_getElem?_getD, h i (by omega), h (i + rlen v) hi, Nat.add_mod_right]
theorem lastB_ge {top : Nat} {v : List Nat} {j : Nat} (hv : v ≠ []) (h : LastB top v j) : v.length - rlen v ≤ j := Classical.byContradiction fun q => by
  have hp := rlen_pos hv
  have e := period hv (i := j) (by omega)
  have := h.2.2 (j + rlen v) (by omega) (by omega)
  have := h.2.1
  omega
theorem root_cycle {v : List Nat} (hv : v ≠ []) : v = rootW v ++ v.take (v.length - rlen v) ∧ v = v.take (v.length - rlen v) ++ rootW v := by
  have hs := rlen_spec hv
  have hp := rlen_pos hv
  have hl := root_len hv
  have hrep := root_rep hv
  obtain ⟨q, hq⟩ : ∃ q, v.length / rlen v = q + 1 := ⟨v.length / rlen v - 1, by have := Nat.div_pos hs.1 hp; omega⟩
  have hlen : v.length = (q + 1) * rlen v := by rw [← hq, Nat.div_mul_cancel (Nat.dvd_of_mod_eq_zero (rlen_dvd hv))]
  have hm : v.length - rlen v = q * rlen v := by rw [hlen, Nat.add_mul, Nat.one_mul]; omega
  rw [hq] at hrep
  have hql : (repS (rootW v) q).length = q * rlen v := by rw [repS_len, hl]
  have e2 : v = repS (rootW v) q ++ rootW v := by
    have : repS (rootW v) (q + 1) = repS (rootW v) q ++ repS (rootW v) 1 := repS_add _ _ _
    rw [show repS (rootW v) 1 = rootW v by simp [repS], hrep] at this
    exact this
  have e1 : v = rootW v ++ repS (rootW v) q := by
    rw [← repS_succ]; exact hrep.symm
  have ht : v.take (v.length - rlen v) = repS (rootW v) q := by
    have := congrArg (List.take (v.length - rlen v)) e2
    rw [hm, ← hql, List.take_left] at this
    rw [hm, ← hql]; exact this
  rw [ht]
  exact ⟨e1, e2⟩
theorem top_root {n top : Nat} (hn : 1 ≤ n) : rootW (List.replicate n top) = [top] := by
  have h0 : List.replicate n top ≠ [] := List.length_pos_iff.mp (by simp; omega)
  have hs := rlen_spec h0
  have hok : rtOk (List.replicate n top) 1 = true := by
    refine rtOk_iff.mpr ⟨by omega, Nat.mod_one _, fun i hi => ?_⟩
    rw [List.length_replicate] at hi
    rw [Nat.mod_one, List.getElem?_replicate, List.getElem?_replicate, if_pos hi, if_pos (by omega)]
  have h1 : rlen (List.replicate n top) = 1 := by
    have hp := rlen_pos h0
    exact Classical.byContradiction fun q => by
      have := hs.2.2 1 (by omega)
      rw [hok] at this
      cases this
  unfold rootW
  rw [h1, List.take_replicate, Nat.min_eq_left hn]
  rfl
theorem good_top {lo top n : Nat} {v : List Nat} (hv : Good lo top n v) (h0 : v.getD 0 0 = top) (hn : 1 ≤ n) : v = List.replicate n top := by
  cases v with
  | nil => have := hv.1; simp at this; omega
  | cons a v =>
    have ha : a = top := by simpa using h0
    have := nk_top hv.2.1 (fun x hx => (hv.2.2 x hx).2) ha
    rw [this]
    congr 1
    have := hv.1
    simpa using this
structure Rg (lo top n : Nat) (f : List Nat) (L : List (List Nat)) : Prop where
  lt : lo ≤ top
  n1 : 1 ≤ n
  good : ∀ v ∈ L, Good lo top n v
  first : L[0]? = some f
  next : ∀ i v, L[i]? = some v → NextP lo top n v L[i + 1]?
def XL (L : List (List Nat)) (i : Nat) : List Nat := ((L.drop i).map rootW).flatten
def YL (L : List (List Nat)) (i : Nat) : List Nat := ((L.take i).map rootW).flatten
theorem xl_cons {L : List (List Nat)} {i : Nat} {v : List Nat} (h : L[i]? = some v) : XL L i = rootW v ++ XL L (i + 1) := by
  obtain ⟨hi, rfl⟩ := List.getElem?_eq_some_iff.mp h
  unfold XL
  rw [List.drop_eq_getElem_cons hi, List.map_cons, List.flatten_cons]
theorem yl_succ {L : List (List Nat)} {i : Nat} {v : List Nat} (h : L[i]? = some v) : YL L (i + 1) = YL L i ++ rootW v := by
  unfold YL
  rw [List.take_succ, h]
  simp
theorem yx (L : List (List Nat)) (i : Nat) : YL L i ++ XL L i = XL L 0 := by
  unfold YL XL
  rw [List.drop_zero, ← List.flatten_append, ← List.map_append, List.take_append_drop]
section
variable {lo top n : Nat} {f : List Nat} {L : List (List Nat)}
theorem Rg.gd (h : Rg lo top n f L) {i : Nat} {v : List Nat} (e : L[i]? = some v) : Good lo top n v := h.good v (List.mem_of_getElem? e)
theorem Rg.nx (h : Rg lo top n f L) {i : Nat} {v : List Nat} (e : L[i]? = some v) (hne : v ≠ List.replicate n top) :
    ∃ z j, L[i + 1]? = some z ∧ v < z ∧ LastB top v j ∧ z.take j = v.take j ∧ z.getD j 0 = v.getD j 0 + 1 ∧ (z = List.replicate n top → j = 0) := by
  have hv := h.gd e
  have hn := h.next i v e
  cases q : L[i + 1]? with
  | none =>
    rw [q] at hn
    exfalso
    refine hn (List.replicate n top) ⟨by simp, nk_rep _ _, fun x hx => by rw [List.eq_of_mem_replicate hx]; exact ⟨h.lt, Nat.le_refl _⟩⟩ ?_
    rcases lex_tri v (List.replicate n top) with z | z | z
    · exact z
    · exact absurd z hne
    · rw [← hv.1] at z; exact absurd z (top_max v hv.below)
  | some z =>
    rw [q] at hn
    obtain ⟨j, h1, h2, h3⟩ := step_next h.lt hv hn.1 hn.2.1 hn.2.2
    refine ⟨z, j, rfl, hn.2.1, h1, h2, h3, fun hz => Classical.byContradiction fun hj => hne (good_top hv ?_ h.n1)⟩
    have h4 : (v.take j).getD 0 0 = (z.take j).getD 0 0 := by rw [h2]
    have g0 : ∀ u : List Nat, (u.take j).getD 0 0 = u.getD 0 0 := fun u => by
      rw [List.getD_eq_getElem?_getD, List.getD_eq_getElem?_getD, List.getElem?_take, if_pos (by omega)]
    rw [g0, g0, hz] at h4
    rw [h4, List.getD_eq_getElem?_getD, List.getElem?_replicate, if_pos (by have := h.n1; omega)]
    rfl
theorem Rg.ne (h : Rg lo top n f L) {i : Nat} {v : List Nat} (e : L[i]? = some v) : v ≠ [] := List.length_pos_iff.mp (by have := (h.gd e).1; have := h.n1; omega)
theorem Rg.pre (h : Rg lo top n f L) : ∀ (m i : Nat) (v : List Nat), L.length - i = m → L[i]? = some v → v ≠ List.replicate n top → v <+: XL L i
  | 0, i, v, hm, e, _ => by
    obtain ⟨hi, _⟩ := List.getElem?_eq_some_iff.mp e
    omega
  | m + 1, i, v, hm, e, hne => by
    have hv := h.gd e
    have hv0 := h.ne e
    obtain ⟨z, j, ez, hlt, hj, hz1, hz2, hz3⟩ := h.nx e hne
    rw [xl_cons e]
    have hc := root_cycle hv0
    have hs := rlen_spec hv0
    have hge := lastB_ge hv0 hj
    by_cases hp : rlen v = n
    · rw [hv.1, hp, Nat.sub_self, List.take_zero, List.append_nil] at hc
      rw [← hc.1]
      exact List.prefix_append _ _
    · have hzn : z ≠ List.replicate n top := fun q => by
        have := hz3 q
        have := hv.1
        omega
      have ih := h.pre m (i + 1) z (by omega) ez hzn
      conv => lhs; rw [hc.1]
      refine (List.prefix_append_right_inj _).mpr ((?_ : v.take (v.length - rlen v) <+: z).trans ih)
      have e2 : v.take (v.length - rlen v) = z.take (v.length - rlen v) := by
        have := congrArg (List.take (v.length - rlen v)) hz1
        rw [List.take_take, List.take_take, Nat.min_eq_left hge] at this
        exact this.symm
      rw [e2]
      exact List.take_prefix _ _
theorem Rg.preA (h : Rg lo top n f L) {i : Nat} {v : List Nat} (e : L[i]? = some v) (hne : v ≠ List.replicate n top) : v <+: XL L i := h.pre _ i v rfl e hne
theorem Rg.mid (h : Rg lo top n f L) {i a j : Nat} {v : List Nat} (e : L[i]? = some v) (hne : v ≠ List.replicate n top) (hj : LastB top v j) (ha : a < rlen v) (haj : n - rlen v + a ≤ j) : rot v a <+: (XL L i).drop a := by
  have hv := h.gd e
  have hv0 := h.ne e
  by_cases h0 : a = 0
  · subst h0; rw [rot_zero, List.drop_zero]; exact h.preA e hne
  · obtain ⟨z, j', ez, hlt, hj', hz1, hz2, hz3⟩ := h.nx e hne
    have := lastB_uniq hj hj'
    subst this
    have hzn : z ≠ List.replicate n top := fun q => by have := hz3 q; omega
    have hpz := h.preA ez hzn
    have hrl := root_len hv0
    have hs := rlen_spec hv0
    have hc := root_cycle hv0
    rw [hv.1] at hc hs
    rw [xl_cons e, List.drop_append_of_le_length (by omega)]
    have e1 : v.take (n - rlen v + a) = v.take (n - rlen v) ++ v.take a := by
      rw [List.take_add]
      congr 1
      have h5 : v.drop (n - rlen v) = rootW v := by
        have := congrArg (List.drop (n - rlen v)) hc.2
        rw [List.drop_append_of_le_length (by rw [List.length_take, hv.1]; omega), List.drop_take, Nat.sub_self, List.take_zero, List.nil_append] at this
        exact this
      rw [h5]
      unfold rootW
      rw [List.take_take, Nat.min_eq_left (by omega)]
    have e2 : rot v a = (rootW v).drop a ++ v.take (n - rlen v + a) := by
      unfold rot
      rw [e1, ← List.append_assoc]
      congr 1
      have := congrArg (List.drop a) hc.1
      rw [List.drop_append_of_le_length (by omega)] at this
      exact this
    rw [e2]
    refine (List.prefix_append_right_inj _).mpr ((?_ : v.take (n - rlen v + a) <+: z).trans hpz)
    have e3 : v.take (n - rlen v + a) = z.take (n - rlen v + a) := by
      have := congrArg (List.take (n - rlen v + a)) hz1
      rw [List.take_take, List.take_take, Nat.min_eq_left haj] at this
      exact this.symm
    rw [e3]
    exact List.take_prefix _ _
theorem Rg.tops (h : Rg lo top n f L) {i s : Nat} {y z : List Nat} (e : L[i]? = some y) (ez : L[i + 1]? = some z) (hn : ¬ z.take (n - s) <+: y) (hs : s < n) : List.replicate s top <:+ rootW y := by
  have hy := h.gd e
  have hy0 := h.ne e
  have hne : y ≠ List.replicate n top := fun q => by
    have hN := h.next i y e
    rw [ez] at hN
    have h2 := hN.2.1
    rw [q, ← hN.1.1] at h2
    exact top_max z hN.1.below h2
  obtain ⟨z', j, ez', hlt, hj, hz1, hz2, hz3⟩ := h.nx e hne
  rw [ez] at ez'
  cases ez'
  have hj2 : j < n - s := Classical.byContradiction fun q => hn (by
    have := congrArg (List.take (n - s)) hz1
    rw [List.take_take, List.take_take, Nat.min_eq_left (by omega)] at this
    rw [this]
    exact List.take_prefix _ _)
  have hge := lastB_ge hy0 hj
  have hrl := root_len hy0
  have hc := (root_cycle hy0).2
  have hpn := (rlen_spec hy0).1
  rw [hy.1] at hc hge hpn
  have hsuf : (rootW y).drop (rlen y - s) = List.replicate s top := by
    refine List.eq_replicate_iff.mpr ⟨by rw [List.length_drop, hrl]; omega, fun x hx => ?_⟩
    obtain ⟨q, hq, rfl⟩ := List.mem_iff_getElem.mp hx
    rw [List.length_drop, hrl] at hq
    rw [List.getElem_drop]
    have h6 : y.getD (n - rlen y + (rlen y - s + q)) 0 = top := hj.2.2 _ (by omega) (by rw [hy.1]; omega)
    have h7 : y[n - rlen y + (rlen y - s + q)]? = (y.take (n - rlen y) ++ rootW y)[n - rlen y + (rlen y - s + q)]? := by rw [← hc]
    rw [List.getElem?_append_right (by rw [List.length_take, hy.1]; omega), List.length_take, hy.1, Nat.min_eq_left (by omega), Nat.add_sub_cancel_left, List.getElem?_eq_getElem (l := rootW y) (by rw [hrl]; omega)] at h7
    rw [List.getD_eq_getElem?_getD, h7] at h6
    simpa using h6
  rw [← hsuf]
  exact List.drop_suffix _ _
theorem Rg.end_ (h : Rg lo top n f L) {v : List Nat} (e : L[L.length - 1]? = some v) : v = List.replicate n top := Classical.byContradiction fun hne => by
  obtain ⟨z, j, ez, _⟩ := h.nx e hne
  obtain ⟨hi, _⟩ := List.getElem?_eq_some_iff.mp ez
  obtain ⟨hi2, _⟩ := List.getElem?_eq_some_iff.mp e
  omega
theorem Rg.ends (h : Rg lo top n f L) (h2 : 2 ≤ L.length) : List.replicate n top <:+ XL L 0 := by
  obtain ⟨m, hm⟩ : ∃ m, L.length = m + 2 := ⟨L.length - 2, by omega⟩
  obtain ⟨y, ey⟩ : ∃ y, L[m]? = some y := ⟨_, List.getElem?_eq_getElem (by omega)⟩
  obtain ⟨t, et⟩ : ∃ t, L[m + 1]? = some t := ⟨_, List.getElem?_eq_getElem (by omega)⟩
  have htop := h.end_ (v := t) (by rw [hm]; exact et)
  have hN := h.next m _ ey
  rw [et] at hN
  have hne : y ≠ List.replicate n top := fun q => by
    have h3 := hN.2.1
    rw [q, htop] at h3
    exact List.lt_irrefl _ h3
  obtain ⟨z, j, ez, hlt, hj, hz1, hz2, hz3⟩ := h.nx ey hne
  rw [et] at ez
  cases ez
  have hj0 := hz3 htop
  subst hj0
  have hy := h.gd ey
  have hy0 := h.ne ey
  have hge := lastB_ge hy0 hj
  have hpn := (rlen_spec hy0).1
  have hp : rlen y = n := by rw [hy.1] at hge hpn; omega
  have hr : rootW y = y := by
    unfold rootW
    rw [hp, ← hy.1, List.take_length]
  have e0 := yx L (m + 2)
  have e1 := yl_succ ey
  have e2 := yl_succ et
  have e3 : XL L (m + 2) = [] := by
    unfold XL
    rw [List.drop_of_length_le (by omega)]
    rfl
  rw [e3, List.append_nil, e2, e1, htop, top_root h.n1, hr] at e0
  rw [← e0]
  have e4 : y = y.getD 0 0 :: List.replicate (n - 1) top := by
    have hsp := split_at hj.1
    rw [List.take_zero, List.nil_append, Nat.zero_add] at hsp
    conv => lhs; rw [hsp]
    congr 1
    refine List.eq_replicate_iff.mpr ⟨by rw [List.length_drop, hy.1], fun x hx => ?_⟩
    obtain ⟨q, hq, rfl⟩ := List.mem_iff_getElem.mp hx
    rw [List.length_drop] at hq
    have h6 := hj.2.2 (1 + q) (by omega) (by omega)
    rw [List.getD_eq_getElem?_getD, List.getElem?_eq_getElem (by omega)] at h6
    rw [List.getElem_drop]
    simpa using h6
  rw [e4]
  refine ⟨YL L m ++ [y.getD 0 0], ?_⟩
  have : List.replicate n top = List.replicate (n - 1) top ++ [top] := by
    have := h.n1
    rw [show n = (n - 1) + 1 by omega, List.replicate_succ', Nat.add_sub_cancel]
  rw [this]
  simp
end
end
end Z
namespace Z
noncomputable section
open PySem PySem.Spec PySem.P PyProof.Rows L2
def cyc (r : List Nat) (P m : Nat) : List Nat := (List.range m).map fun j => r.getD ((P + j) % r.length) 0
theorem cyc_len (r : List Nat) (P m : Nat) : (cyc r P m).length = m := by simp [cyc]
theorem cyc_get {r : List Nat} {P m j : Nat} (h : j < m) : (cyc r P m)[j]? = some (r.getD ((P + j) % r.length) 0) := by
  unfold cyc
  rw [List.getElem?_map, List.getElem?_range h]
  rfl
theorem getD_some {w : List Nat} {j : Nat} (h : j < w.length) : w[j]? = some (w.getD j 0) := by
  rw [List.getD_eq_getElem?_getD, List.getElem?_eq_getElem h]; rfl
theorem cyc_ext {r w : List Nat} {P : Nat} (h : ∀ j, j < w.length → r.getD ((P + j) % r.length) 0 = w.getD j 0) : cyc r P w.length = w := by
  apply List.ext_getElem?
  intro j
  by_cases hj : j < w.length
  · rw [cyc_get hj, getD_some hj, h j hj]
  · rw [List.getElem?_eq_none (by rw [cyc_len]; omega), List.getElem?_eq_none (by omega)]
theorem pre_get {w r : List Nat} (h : w <+: r) {j : Nat} (hj : j < w.length) : r.getD j 0 = w.getD j 0 := by
  obtain ⟨s, rfl⟩ := h
  rw [List.getD_eq_getElem?_getD, List.getD_eq_getElem?_getD, List.getElem?_append_left hj]
theorem suf_get {a r : List Nat} (h : a <:+ r) {j : Nat} (hj : j < a.length) : r.getD (r.length - a.length + j) 0 = a.getD j 0 := by
  obtain ⟨s, rfl⟩ := h
  rw [List.getD_eq_getElem?_getD, List.getD_eq_getElem?_getD, List.length_append, List.getElem?_append_right (by omega)]
  congr 2
  omega
theorem cyc_lin {r w : List Nat} {P : Nat} (h : w <+: r.drop P) (hP : P ≤ r.length) : cyc r P w.length = w := by
  refine cyc_ext fun j hj => ?_
  have hl := h.length_le
  rw [List.length_drop] at hl
  rw [Nat.mod_eq_of_lt (by omega), ← pre_get h hj, List.getD_eq_getElem?_getD, List.getD_eq_getElem?_getD, List.getElem?_drop]
theorem cyc_wrap {r a b : List Nat} (ha : a <:+ r) (hb : b <+: r) : cyc r (r.length - a.length) (a.length + b.length) = a ++ b := by
  rw [← List.length_append]
  have hal := ha.length_le
  have hbl := hb.length_le
  refine cyc_ext fun j hj => ?_
  rw [List.length_append] at hj
  by_cases h : j < a.length
  · rw [Nat.mod_eq_of_lt (by omega), suf_get ha h, List.getD_eq_getElem?_getD, List.getD_eq_getElem?_getD, List.getElem?_append_left h]
  · have e : (r.length - a.length + j) % r.length = j - a.length := by
      rw [show r.length - a.length + j = (j - a.length) + r.length by omega, Nat.add_mod_right, Nat.mod_eq_of_lt (by omega)]
    rw [e, pre_get hb (by omega), List.getD_eq_getElem?_getD, List.getD_eq_getElem?_getD, List.getElem?_append_right (by omega)]
section
variable {lo top n : Nat} {f : List Nat} {L : List (List Nat)}
theorem ring_len (L : List (List Nat)) (i : Nat) : (YL L i).length + (XL L i).length = (XL L 0).length := by
  rw [← yx L i, List.length_append]
theorem ring_drop (L : List (List Nat)) (i a : Nat) : (XL L 0).drop ((YL L i).length + a) = (XL L i).drop a := by
  rw [← yx L i, ← List.drop_drop, List.drop_left]
theorem Rg.placeB (h : Rg lo top n f L) {i a j : Nat} {v : List Nat} (e : L[i]? = some v) (hne : v ≠ List.replicate n top) (hj : LastB top v j) (ha : a < rlen v) (haj : n - rlen v + a ≤ j) :
    cyc (XL L 0) ((YL L i).length + a) n = rot v a ∧ (YL L i).length + a < (XL L 0).length := by
  have hm := h.mid e hne hj ha haj
  have hl := hm.length_le
  have hv := (h.gd e).1
  have h1 := h.n1
  rw [rot_len, hv, List.length_drop] at hl
  have hr := ring_len L i
  rw [← ring_drop] at hm
  have := cyc_lin hm (by omega)
  rw [rot_len, hv] at this
  exact ⟨this, by omega⟩
theorem Rg.placeT (h : Rg lo top n f L) (h2 : 2 ≤ L.length) : cyc (XL L 0) ((XL L 0).length - n) n = List.replicate n top ∧ n ≤ (XL L 0).length := by
  have he := h.ends h2
  have hl := he.length_le
  rw [List.length_replicate] at hl
  have := cyc_wrap he (b := []) List.nil_prefix
  rw [List.length_replicate, List.length_nil, Nat.add_zero, List.append_nil] at this
  exact ⟨this, hl⟩
theorem suf_rep {s n top : Nat} {r : List Nat} (h : List.replicate n top <:+ r) (hs : s ≤ n) : List.replicate s top <:+ r := by
  refine List.IsSuffix.trans ⟨List.replicate (n - s) top, ?_⟩ h
  rw [List.replicate_append_replicate]
  congr 1
  omega
theorem Rg.placeC0 (h : Rg lo top n f L) {s : Nat} {z : List Nat} (h2 : 2 ≤ L.length) (e : L[0]? = some z) (hne : z ≠ List.replicate n top) (hs : s ≤ n) : cyc (XL L 0) ((XL L 0).length - s) n = List.replicate s top ++ z.take (n - s) := by
  have hsuf := suf_rep (h.ends h2) hs
  have hp := (List.take_prefix (n - s) z).trans (h.preA e hne)
  have := cyc_wrap hsuf hp
  rw [List.length_replicate, List.length_take, (h.gd e).1, Nat.min_eq_left (by omega), show s + (n - s) = n by omega] at this
  exact this
theorem Rg.placeC (h : Rg lo top n f L) {s i : Nat} {y z : List Nat} (e : L[i]? = some y) (ez : L[i + 1]? = some z) (hne : z ≠ List.replicate n top) (hn : ¬ z.take (n - s) <+: y) (hs : s < n) :
    cyc (XL L 0) ((YL L (i + 1)).length - s) n = List.replicate s top ++ z.take (n - s) ∧ s ≤ (YL L (i + 1)).length ∧ (YL L (i + 1)).length < (XL L 0).length := by
  have ht := h.tops e ez hn hs
  have hp := h.preA ez hne
  have hz := (h.gd ez).1
  have h1 := h.n1
  obtain ⟨u, hu⟩ := ht
  have hy : YL L (i + 1) = YL L i ++ u ++ List.replicate s top := by rw [yl_succ e, ← hu, List.append_assoc]
  have hyl : (YL L (i + 1)).length = (YL L i ++ u).length + s := by rw [hy, List.length_append, List.length_replicate]
  have hr := ring_len L (i + 1)
  have hpl := hp.length_le
  have hd : (XL L 0).drop ((YL L (i + 1)).length - s) = List.replicate s top ++ XL L (i + 1) := by
    rw [hyl, Nat.add_sub_cancel, ← yx L (i + 1), hy, List.append_assoc, List.append_assoc, ← List.append_assoc, List.drop_left]
  have hq : List.replicate s top ++ z.take (n - s) <+: (XL L 0).drop ((YL L (i + 1)).length - s) := by
    rw [hd]
    exact (List.prefix_append_right_inj _).mpr ((List.take_prefix _ _).trans hp)
  have := cyc_lin hq (by omega)
  rw [List.length_append, List.length_replicate, List.length_take, hz, Nat.min_eq_left (by omega), show s + (n - s) = n by omega] at this
  exact ⟨this, by omega, by omega⟩
end
def lsL (k n : Nat) (f : List Nat) : List (List Nat) := (selW k n Nk).filter fun v => dcd (¬ v < f)
section
variable {k n : Nat} {f : List Nat}
theorem mem_lsL (h1 : 1 ≤ k) (h2 : k ≤ 6) {v : List Nat} : v ∈ lsL k n f ↔ Good 97 (96 + k) n v ∧ ¬ v < f := by
  unfold lsL
  rw [List.mem_filter, mem_selW h1 h2, dcd_iff]
  constructor
  · rintro ⟨⟨a, b, c⟩, d⟩; exact ⟨⟨a, c, b⟩, d⟩
  · rintro ⟨⟨a, c, b⟩, d⟩; exact ⟨⟨a, b, c⟩, d⟩
theorem lsL_sorted (h1 : 1 ≤ k) (h2 : k ≤ 6) : (lsL k n f).Pairwise (· < ·) := (selW_sorted h1 h2).filter _
theorem lsL_rg (h1 : 1 ≤ k) (h2 : k ≤ 6) (hn : 1 ≤ n) (hf : Good 97 (96 + k) n f) : Rg 97 (96 + k) n f (lsL k n f) where
  lt := by omega
  n1 := hn
  good := fun v hv => ((mem_lsL h1 h2).mp hv).1
  first := by
    have := filter_head (p := fun _ => true) (r := f) (lsL_sorted (n := n) (f := f) h1 h2) ((mem_lsL h1 h2).mpr ⟨hf, List.lt_irrefl _⟩) rfl fun w hw _ => ((mem_lsL h1 h2).mp hw).2
    rwa [filter_true] at this
  next := fun i v e => by
    have hs := lsL_sorted (n := n) (f := f) h1 h2
    obtain ⟨hi, hv⟩ := List.getElem?_eq_some_iff.mp e
    have hvm := (mem_lsL h1 h2).mp (List.mem_of_getElem? e)
    have ix : ∀ g, Good 97 (96 + k) n g → v < g → ∃ q, ∃ hq : q < (lsL k n f).length, i < q ∧ (lsL k n f)[q] = g := fun g hg hlt => by
      have hgm : g ∈ lsL k n f := (mem_lsL h1 h2).mpr ⟨hg, fun z => hvm.2 (List.lt_trans hlt z)⟩
      obtain ⟨q, hq, hqe⟩ := List.mem_iff_getElem.mp hgm
      refine ⟨q, hq, Classical.byContradiction fun z => ?_, hqe⟩
      by_cases e2 : q = i
      · subst e2
        rw [hv] at hqe
        rw [hqe] at hlt
        exact List.lt_irrefl _ hlt
      · have := List.pairwise_iff_getElem.mp hs q i hq hi (by omega)
        rw [hv, hqe] at this
        exact List.lt_irrefl _ (List.lt_trans this hlt)
    cases q : (lsL k n f)[i + 1]? with
    | none =>
      intro g hg hlt
      obtain ⟨m, hm, him, -⟩ := ix g hg hlt
      have := List.getElem?_eq_none_iff.mp q
      omega
    | some z =>
      obtain ⟨hi1, hz⟩ := List.getElem?_eq_some_iff.mp q
      have hzm := (mem_lsL h1 h2).mp (List.mem_of_getElem? q)
      refine ⟨hzm.1, ?_, fun g hg hlt hgz => ?_⟩
      · have := List.pairwise_iff_getElem.mp hs i (i + 1) hi hi1 (by omega)
        rwa [hv, hz] at this
      · obtain ⟨m, hm, him, hme⟩ := ix g hg hlt
        by_cases e2 : m = i + 1
        · subst e2
          rw [hz] at hme
          rw [hme] at hgz
          exact List.lt_irrefl _ hgz
        · have := List.pairwise_iff_getElem.mp hs (i + 1) m hi1 hm (by omega)
          rw [hz, hme] at this
          exact List.lt_irrefl _ (List.lt_trans this hgz)
def ringW (k n : Nat) (f : List Nat) : List Nat := XL (lsL k n f) 0
theorem pos_up (h1 : 1 ≤ k) (h2 : k ≤ 6) (hn : 1 ≤ n) (hf : Good 97 (96 + k) n f) : ∀ (i : Nat) (v : List Nat), (lsL k n f)[i]? = some v → upW k v + rlen f = upW k f + (YL (lsL k n f) i).length + rlen v
  | 0, v, e => by
    have := (lsL_rg h1 h2 hn hf).first
    rw [e] at this
    cases this
    simp [YL]
  | i + 1, v, e => by
    have R := lsL_rg h1 h2 hn hf
    obtain ⟨hi, _⟩ := List.getElem?_eq_some_iff.mp e
    have ey : (lsL k n f)[i]? = some (lsL k n f)[i] := List.getElem?_eq_getElem (by omega)
    have ih := pos_up h1 h2 hn hf i _ ey
    have hN := R.next i _ ey
    rw [e] at hN
    have hyl := (R.gd ey).1
    have hy0 := R.ne ey
    have hN2 : NextP 97 (96 + k) ((lsL k n f)[i]).length (lsL k n f)[i] (some v) := by rw [hyl]; exact hN
    have hu := upW_next h1 h2 hy0 hN2.1 hN2.2.1 hN2.2.2
    rw [yl_succ ey, List.length_append, root_len hy0]
    omega
theorem ring_total (h1 : 1 ≤ k) (h2 : k ≤ 6) (hn : 1 ≤ n) (hf : Good 97 (96 + k) n f) : k ^ n + rlen f = upW k f + (ringW k n f).length := by
  have R := lsL_rg h1 h2 hn hf
  have hL : 0 < (lsL k n f).length := by
    obtain ⟨h, _⟩ := List.getElem?_eq_some_iff.mp R.first
    omega
  have et : (lsL k n f)[(lsL k n f).length - 1]? = some (lsL k n f)[(lsL k n f).length - 1] := List.getElem?_eq_getElem (by omega)
  have htop := R.end_ et
  have hp := pos_up h1 h2 hn hf _ _ et
  rw [htop, upTo_full h1 h2 hn] at hp
  have hy := yl_succ et
  rw [htop, top_root hn] at hy
  have hr : rlen (List.replicate n (96 + k)) = 1 := by
    have := root_len (w := List.replicate n (96 + k)) (List.length_pos_iff.mp (by simp; omega))
    rw [top_root hn] at this
    simpa using this.symm
  have hx := yx (lsL k n f) ((lsL k n f).length - 1 + 1)
  have hx0 : XL (lsL k n f) ((lsL k n f).length - 1 + 1) = [] := by
    unfold XL
    rw [List.drop_of_length_le (by omega)]
    rfl
  rw [hx0, List.append_nil, hy] at hx
  unfold ringW
  rw [← hx, List.length_append]
  rw [hr] at hp
  simp
  omega
end
end
end Z
namespace Z
noncomputable section
open PySem PySem.Spec PySem.P PyProof.Rows L2
section
variable {lo top n : Nat} {f : List Nat} {L : List (List Nat)}
theorem Rg.two (h : Rg lo top n f L) {i : Nat} {v : List Nat} (e : L[i]? = some v) (hne : v ≠ List.replicate n top) : 2 ≤ L.length := by
  obtain ⟨z, j, ez, _⟩ := h.nx e hne
  obtain ⟨hi, _⟩ := List.getElem?_eq_some_iff.mp ez
  omega
theorem lastB_ex {lo top n : Nat} {v : List Nat} (hv : Good lo top n v) (hne : v ≠ List.replicate n top) : ∃ j, LastB top v j := by
  have : ∃ x ∈ v, x ≠ top := Classical.byContradiction fun q => hne (by
    rw [← hv.1]
    exact List.eq_replicate_iff.mpr ⟨rfl, fun x hx => Classical.byContradiction fun z2 => q ⟨x, hx, z2⟩⟩)
  obtain ⟨j, h1, h2, h3⟩ := last_not' (lo := top) v this
  have := (hv.2.2 _ (getD_in h1)).2
  exact ⟨j, h1, by omega, h3⟩
theorem turn_tops {lo top n : Nat} {v : List Nat} {a j : Nat} (hv : Good lo top n v) (hn : 1 ≤ n) (hj : LastB top v j) (ha : a < rlen v) (haj : ¬ n - rlen v + a ≤ j) :
    rot v a = List.replicate (rlen v - a) top ++ v.take (n - (rlen v - a)) ∧ rlen v - a < n ∧ j < n - (rlen v - a) := by
  have hv0 : v ≠ [] := List.length_pos_iff.mp (by have := hv.1; omega)
  have hrl := root_len hv0
  have hs := rlen_spec hv0
  have hc := root_cycle hv0
  rw [hv.1] at hc hs
  have hjn := hj.1
  rw [hv.1] at hjn
  refine ⟨?_, by omega, by omega⟩
  have e1 : v.take (n - rlen v + a) = v.take (n - rlen v) ++ v.take a := by
    rw [List.take_add]
    congr 1
    have h5 : v.drop (n - rlen v) = rootW v := by
      have := congrArg (List.drop (n - rlen v)) hc.2
      rw [List.drop_append_of_le_length (by rw [List.length_take, hv.1]; omega), List.drop_take, Nat.sub_self, List.take_zero, List.nil_append] at this
      exact this
    rw [h5]
    unfold rootW
    rw [List.take_take, Nat.min_eq_left (by omega)]
  have e2 : rot v a = (rootW v).drop a ++ v.take (n - rlen v + a) := by
    unfold rot
    rw [e1, ← List.append_assoc]
    congr 1
    have := congrArg (List.drop a) hc.1
    rw [List.drop_append_of_le_length (by omega)] at this
    exact this
  rw [e2, show n - (rlen v - a) = n - rlen v + a by omega]
  congr 1
  refine List.eq_replicate_iff.mpr ⟨by rw [List.length_drop, hrl], fun x hx => ?_⟩
  obtain ⟨q, hq, rfl⟩ := List.mem_iff_getElem.mp hx
  rw [List.length_drop, hrl] at hq
  rw [List.getElem_drop]
  have h6 : v.getD (n - rlen v + (a + q)) 0 = top := hj.2.2 _ (by omega) (by rw [hv.1]; omega)
  have h7 : v[n - rlen v + (a + q)]? = (v.take (n - rlen v) ++ rootW v)[n - rlen v + (a + q)]? := by rw [← hc.2]
  rw [List.getElem?_append_right (by rw [List.length_take, hv.1]; omega), List.length_take, hv.1, Nat.min_eq_left (by omega), Nat.add_sub_cancel_left, List.getElem?_eq_getElem (l := rootW v) (by rw [hrl]; omega)] at h7
  rw [List.getD_eq_getElem?_getD, h7] at h6
  simpa using h6
theorem Rg.placeD (h : Rg lo top n f L) {i i' a j : Nat} {v z : List Nat} (e : L[i]? = some v) (hne : v ≠ List.replicate n top) (hj : LastB top v j) (ha : a < rlen v) (haj : ¬ n - rlen v + a ≤ j)
    (ez : L[i']? = some z) (hp : v.take (n - (rlen v - a)) <+: z) (hno : ∀ i0 y, i0 < i' → L[i0]? = some y → ¬ v.take (n - (rlen v - a)) <+: y) :
    cyc (XL L 0) (((YL L i').length + (XL L 0).length - (rlen v - a)) % (XL L 0).length) n = rot v a ∧ ((YL L i').length + (XL L 0).length - (rlen v - a)) % (XL L 0).length < (XL L 0).length ∧ rlen v - a ≤ (XL L 0).length := by
  have hv := h.gd e
  obtain ⟨t1, t2, t3⟩ := turn_tops hv h.n1 hj ha haj
  have h2 := h.two e hne
  have hT := h.placeT h2
  have hn := h.n1
  have hzt : z.take (n - (rlen v - a)) = v.take (n - (rlen v - a)) := by
    have hl : (v.take (n - (rlen v - a))).length = n - (rlen v - a) := by rw [List.length_take, hv.1]; omega
    have := List.prefix_iff_eq_take.mp hp
    rw [hl] at this
    exact this.symm
  have hzne : z ≠ List.replicate n top := fun q => hne (good_top hv (by
    have g0 : ∀ u : List Nat, (u.take (n - (rlen v - a))).getD 0 0 = u.getD 0 0 := fun u => by
      rw [List.getD_eq_getElem?_getD, List.getD_eq_getElem?_getD, List.getElem?_take, if_pos (by omega)]
    rw [← g0 v, ← hzt, g0, q, List.getD_eq_getElem?_getD, List.getElem?_replicate, if_pos (by omega)]
    rfl) hn)
  have hlt : ((YL L i').length + (XL L 0).length - (rlen v - a)) % (XL L 0).length < (XL L 0).length := Nat.mod_lt _ (by omega)
  refine ⟨?_, hlt, by omega⟩
  cases i' with
  | zero =>
    have := h.placeC0 h2 ez hzne (show rlen v - a ≤ n by omega)
    rw [hzt, ← t1] at this
    rw [show (YL L 0).length = 0 by simp [YL], Nat.zero_add, Nat.mod_eq_of_lt (by omega)]
    exact this
  | succ i' =>
    obtain ⟨hi1, _⟩ := List.getElem?_eq_some_iff.mp ez
    have ey : L[i']? = some L[i'] := List.getElem?_eq_getElem (by omega)
    obtain ⟨c1, c2, c3⟩ := h.placeC ey ez hzne (by rw [hzt]; exact hno i' _ (by omega) ey) t2
    rw [hzt, ← t1] at c1
    have e4 : ((YL L (i' + 1)).length + (XL L 0).length - (rlen v - a)) % (XL L 0).length = (YL L (i' + 1)).length - (rlen v - a) := by
      rw [show (YL L (i' + 1)).length + (XL L 0).length - (rlen v - a) = ((YL L (i' + 1)).length - (rlen v - a)) + (XL L 0).length by omega, Nat.add_mod_right, Nat.mod_eq_of_lt (by omega)]
    rw [e4]
    exact c1
theorem first_idx {P : List Nat → Prop} : ∀ {L : List (List Nat)} {i : Nat} {v : List Nat}, L[i]? = some v → P v → ∃ i' z, i' ≤ i ∧ L[i']? = some z ∧ P z ∧ ∀ i0 y, i0 < i' → L[i0]? = some y → ¬ P y
  | a :: L, 0, v, e, hp => ⟨0, v, Nat.le_refl _, e, hp, fun i0 y h => by omega⟩
  | a :: L, i + 1, v, e, hp => by
    by_cases ha : P a
    · exact ⟨0, a, by omega, rfl, ha, fun i0 y h => by omega⟩
    · obtain ⟨i', z, h1, h2, h3, h4⟩ := first_idx (L := L) (i := i) (by simpa using e) hp
      refine ⟨i' + 1, z, by omega, by simpa using h2, h3, fun i0 y h hy => ?_⟩
      cases i0 with
      | zero => simp at hy; subst hy; exact ha
      | succ i0 => exact h4 i0 y (by omega) (by simpa using hy)
end
theorem rot_top {n top i : Nat} : rot (List.replicate n top) i = List.replicate n top := by
  unfold rot
  rw [List.drop_replicate, List.take_replicate, List.replicate_append_replicate]
  congr 1
  omega
section
variable {k n : Nat} {f : List Nat}
theorem word_stands (h1 : 1 ≤ k) (h2 : k ≤ 6) (hn : 1 ≤ n) (hf : Good 97 (96 + k) n f) {w : List Nat} (hl : w.length = n) (hr : ∀ x ∈ w, 97 ≤ x ∧ x ≤ 96 + k) (hw : ¬ lrot w < f) : ∃ P, P < (ringW k n f).length ∧ cyc (ringW k n f) P n = w := by
  have R := lsL_rg h1 h2 hn hf
  have hw0 : w ≠ [] := List.length_pos_iff.mp (by omega)
  have hg := good_lrot hw0 hr
  rw [hl] at hg
  obtain ⟨i, hi, hie⟩ := List.mem_iff_getElem.mp ((mem_lsL (k := k) (n := n) (f := f) h1 h2).mpr ⟨hg, hw⟩)
  have e : (lsL k n f)[i]? = some (lrot w) := by rw [List.getElem?_eq_getElem hi, hie]
  obtain ⟨m, hm, hwm⟩ := lrot_back hw0
  by_cases hne : lrot w = List.replicate n (96 + k)
  · rw [hne, rot_top] at hwm
    by_cases h3 : 2 ≤ (lsL k n f).length
    · obtain ⟨t1, t2⟩ := R.placeT h3
      exact ⟨(XL (lsL k n f) 0).length - n, by unfold ringW; omega, by unfold ringW; rw [t1, hwm]⟩
    · have hL1 : (lsL k n f).length = 1 := by omega
      have e0 := xl_cons e
      have hi0 : i = 0 := by omega
      subst hi0
      have hx : XL (lsL k n f) (0 + 1) = [] := by
        unfold XL
        rw [List.drop_of_length_le (by omega)]
        rfl
      rw [hx, List.append_nil, hne, top_root hn] at e0
      unfold ringW
      rw [e0]
      refine ⟨0, by simp, ?_⟩
      conv => lhs; rw [← hl]
      refine cyc_ext fun j hj => ?_
      rw [hwm, List.length_singleton, Nat.mod_one, List.getD_eq_getElem?_getD, List.getD_eq_getElem?_getD, List.getElem?_replicate, if_pos (by omega)]
      rfl
  · have hv0 := R.ne e
    obtain ⟨j, hj⟩ := lastB_ex hg hne
    have hp := rlen_pos hv0
    rw [rot_mod hv0 (by rw [hg.1]; omega)] at hwm
    have ha : m % rlen (lrot w) < rlen (lrot w) := Nat.mod_lt _ hp
    generalize m % rlen (lrot w) = a at hwm ha
    by_cases haj : n - rlen (lrot w) + a ≤ j
    · obtain ⟨t1, t2⟩ := R.placeB e hne hj ha haj
      exact ⟨_, t2, by rw [← hwm] at t1; exact t1⟩
    · obtain ⟨i', z, -, c2, c3, c4⟩ := first_idx (P := fun y => (lrot w).take (n - (rlen (lrot w) - a)) <+: y) e (List.take_prefix _ _)
      obtain ⟨t1, t2, -⟩ := R.placeD e hne hj ha haj c2 c3 c4
      exact ⟨_, t2, by rw [← hwm] at t1; exact t1⟩
end
end
end Z
namespace Z
noncomputable section
open PySem PySem.Spec PySem.P PyProof.Rows L2
theorem NextP.uniq {lo top n : Nat} {w : List Nat} {o o' : Option (List Nat)} (a : NextP lo top n w o) (b : NextP lo top n w o') : o = o' := by
  cases o with
  | none =>
    cases o' with
    | none => rfl
    | some r => exact absurd b.2.1 (a r b.1)
  | some x =>
    cases o' with
    | none => exact absurd a.2.1 (b x a.1)
    | some r =>
      rcases lex_tri x r with h | h | h
      · exact absurd h (b.2.2 x a.1 a.2.1)
      · rw [h]
      · exact absurd h (a.2.2 r b.1 b.2.1)
theorem upW_root {k : Nat} {v : List Nat} (h1 : 1 ≤ k) (h2 : k ≤ 6) (h0 : v ≠ []) (hN : Nk v) (hl : ∀ x ∈ v, 97 ≤ x ∧ x ≤ 96 + k) : rlen v ≤ upW k v := by
  rw [← cnt_lrot h1 h2 h0 hN hl]
  unfold upW
  rw [cnt_split (fun u => ¬ v < lrot u) (fun u => lrot u = v)]
  have : cnt k v.length (fun u => lrot u = v) = cnt k v.length (fun u => ¬ v < lrot u ∧ lrot u = v) := cnt_congr h1 h2 fun u _ _ => ⟨fun h => ⟨by rw [h]; exact List.lt_irrefl _, h⟩, fun h => h.2⟩
  omega
theorem good_iff_goodW {f : List Nat} {k : Nat} : (goodW f k = true ∧ Nk f) ↔ (1 ≤ f.length ∧ f.length ≤ 24 ∧ Good 97 (96 + k) f.length f) := by
  constructor
  · rintro ⟨a, b⟩
    obtain ⟨g1, g2, g3⟩ := goodW_iff.mp a
    exact ⟨g1, g2, rfl, b, fun x hx => by have := g3 x hx; omega⟩
  · rintro ⟨a, b, c⟩
    exact ⟨goodW_iff.mpr ⟨a, b, fun x hx => by have := c.2.2 x hx; omega⟩, c.2.1⟩
end
end Z
namespace Z
noncomputable section
open PySem PySem.Spec PySem.P PyProof.Rows L2
theorem cnt_mono {k t : Nat} (h1 : 1 ≤ k) (h2 : k ≤ 6) {p q : List Nat → Prop} (h : ∀ v, v.length = t → (∀ x ∈ v, 97 ≤ x ∧ x ≤ 96 + k) → p v → q v) : cnt k t p ≤ cnt k t q := by
  rw [cnt_split q p, cnt_congr h1 h2 (p := p) (q := fun v => q v ∧ p v) fun v a b => ⟨fun c => ⟨h v a b c, c⟩, fun c => c.2⟩]
  omega
theorem cyc_take {r : List Nat} {P c m : Nat} (h : m ≤ c) : (cyc r P c).take m = cyc r P m := by
  unfold cyc
  rw [← List.map_take, List.take_range, Nat.min_eq_left h]
theorem cyc_add {r : List Nat} {P a b : Nat} : cyc r P (a + b) = cyc r P a ++ cyc r ((P + a) % r.length) b := by
  apply List.ext_getElem?
  intro j
  by_cases hj : j < a
  · rw [cyc_get (by omega), List.getElem?_append_left (by rw [cyc_len]; exact hj), cyc_get hj]
  · rw [List.getElem?_append_right (by rw [cyc_len]; omega), cyc_len]
    by_cases hj2 : j < a + b
    · rw [cyc_get hj2, cyc_get (by omega), Nat.mod_add_mod, show P + a + (j - a) = P + j by omega]
    · rw [List.getElem?_eq_none (by rw [cyc_len]; omega), List.getElem?_eq_none (by rw [cyc_len]; omega)]
section
variable {lo top n : Nat} {f : List Nat} {L : List (List Nat)}
theorem pos_find (L : List (List Nat)) {Q : Nat} (hQ : Q < (XL L 0).length) : ∃ i v, L[i]? = some v ∧ (YL L i).length ≤ Q ∧ Q < (YL L (i + 1)).length := by
  obtain ⟨p, hp, h1, h2⟩ := max_nat (P := fun i => (YL L i).length ≤ Q) L.length (by simp [YL])
  have hend : (YL L L.length).length = (XL L 0).length := by
    have := yx L L.length
    have hx : XL L L.length = [] := by
      unfold XL
      rw [List.drop_of_length_le (Nat.le_refl _)]
      rfl
    rw [hx, List.append_nil] at this
    rw [this]
  have hpl : p < L.length := Classical.byContradiction fun q => by
    have : p = L.length := by omega
    subst this
    omega
  refine ⟨p, L[p], List.getElem?_eq_getElem hpl, h1, Classical.byContradiction fun q => ?_⟩
  have := h2 (p + 1) (by omega) (by omega)
  omega
theorem root_there {i : Nat} {v : List Nat} (e : L[i]? = some v) : cyc (XL L 0) (YL L i).length (rootW v).length = rootW v := by
  refine cyc_lin ?_ ?_
  · have := ring_drop L i 0
    rw [Nat.add_zero, List.drop_zero] at this
    rw [this, xl_cons e]
    exact List.prefix_append _ _
  · have := ring_len L i
    omega
theorem root_part {i : Nat} {v : List Nat} (e : L[i]? = some v) {a : Nat} (ha : a ≤ (rootW v).length) : cyc (XL L 0) ((YL L i).length + a) ((rootW v).length - a) = (rootW v).drop a := by
  have h := cyc_lin (r := XL L 0) (w := (rootW v).drop a) (P := (YL L i).length + a) ?_ ?_
  · rw [List.length_drop] at h; exact h
  · rw [ring_drop, xl_cons e, List.drop_append_of_le_length ha]
    exact List.prefix_append _ _
  · have := ring_len L i
    rw [xl_cons e, List.length_append] at this
    omega
end
section
variable {k n : Nat} {f : List Nat}
theorem up_place (h1 : 1 ≤ k) (h2 : k ≤ 6) (hn : 1 ≤ n) (hf : Good 97 (96 + k) n f) {i Q : Nat} {g : List Nat} (e : (lsL k n f)[i]? = some g) (hQ1 : (YL (lsL k n f) i).length ≤ Q) (hQ2 : Q < (YL (lsL k n f) (i + 1)).length) {w : List Nat} (hw : w.length = n) :
    upW k f + Q < upW k w + rlen f ↔ ¬ w < g := by
  have R := lsL_rg h1 h2 hn hf
  have hg := R.gd e
  have hg0 := R.ne e
  have hp := pos_up h1 h2 hn hf i g e
  have hy := congrArg List.length (yl_succ e)
  rw [List.length_append, root_len hg0] at hy
  constructor
  · intro h hlt
    have : upW k w + rlen g ≤ upW k g := by
      have hc := cnt_lrot h1 h2 hg0 hg.2.1 hg.2.2
      rw [hg.1] at hc
      unfold upW
      rw [← hc, hw, hg.1, cnt_split (fun v => ¬ g < lrot v) (fun v => lrot v < g)]
      refine Nat.add_le_add (cnt_mono h1 h2 fun v _ _ hv => ?_) (cnt_mono h1 h2 fun v _ _ hv => ?_)
      · have h5 : lrot v < g := lt_of_le hv hlt
        exact ⟨fun z => List.lt_irrefl _ (List.lt_trans z h5), h5⟩
      · rw [hv]
        exact ⟨List.lt_irrefl _, List.lt_irrefl _⟩
    omega
  · intro h
    have : upW k g ≤ upW k w := by
      unfold upW
      rw [hw, hg.1]
      exact cnt_mono h1 h2 fun v _ _ hv z => hv (lt_of_le h z)
    omega
end
theorem turn_facts {w : List Nat} (hw : w ≠ []) (tb : Nat) (htb : tb = (rots w).findIdx (· == lrot w)) : tb < rlen (lrot w) ∧ w = rot (lrot w) ((rlen (lrot w) - tb) % rlen (lrot w)) := by
  have h0 := List.length_pos_iff.mpr hw
  have hr := rlen_lrot hw
  have hs := rlen_spec hw
  have hp := rlen_pos hw
  have hmem : ∃ x ∈ rots w, (x == lrot w) = true := ⟨_, (lrot_spec hw).1, by simp⟩
  have hlt := List.findIdx_lt_length_of_exists hmem
  rw [← htb] at hlt
  have hl := hlt
  rw [rots_len] at hlt
  have get : ∀ i, i < w.length → ∃ h : i < (rots w).length, (rots w)[i] = rot w i := fun i hi => ⟨by rw [rots_len]; exact hi, by unfold rots; simp⟩
  have heq : rot w tb = lrot w := by
    have := List.findIdx_getElem (w := by rw [← htb]; exact hl) (xs := rots w) (p := (· == lrot w))
    obtain ⟨h, e⟩ := get tb hlt
    simp only [← htb] at this
    rw [e] at this
    simpa using this
  have hmin : ∀ i, i < tb → rot w i ≠ lrot w := fun i hi e => by
    have h3 : i < (rots w).findIdx (· == lrot w) := by rw [← htb]; exact hi
    have := List.not_of_lt_findIdx h3
    obtain ⟨h, e2⟩ := get i (by omega)
    rw [e2, e] at this
    simp at this
  have htp : tb < rlen w := Classical.byContradiction fun q => by
    have := rot_mod hw hlt
    rw [heq] at this
    exact hmin (tb % rlen w) (by have := Nat.mod_lt tb hp; omega) this.symm
  rw [hr]
  refine ⟨htp, ?_⟩
  have hv0 := lrot_nil hw
  have hvl := lrot_len hw
  by_cases e : tb = 0
  · subst e
    rw [Nat.sub_zero, Nat.mod_self, rot_zero]
    rw [rot_zero] at heq
    exact heq
  · have h5 : rot (lrot w) (w.length - tb) = w := by
      rw [← heq, rot_rot _ _ _ (by omega) (by omega) h0, show tb + (w.length - tb) = w.length by omega, Nat.mod_self, rot_zero]
    have h6 := rot_mod hv0 (m := w.length - tb) (by omega)
    rw [hr, h5] at h6
    obtain ⟨c, hc⟩ := Nat.dvd_of_mod_eq_zero (rlen_dvd hw)
    have h7 : (w.length - tb) % rlen w = (rlen w - tb) % rlen w := by
      cases c with
      | zero => rw [Nat.mul_zero] at hc; omega
      | succ c =>
        rw [Nat.mul_succ] at hc
        rw [show w.length - tb = (rlen w - tb) + rlen w * c by omega, Nat.add_mul_mod_self_left]
    rw [h7] at h6
    exact h6
theorem root_top_iff {lo top n : Nat} {v : List Nat} (hv : Good lo top n v) (hn : 1 ≤ n) : rootW v = [top] ↔ v = List.replicate n top := by
  have hv0 : v ≠ [] := List.length_pos_iff.mp (by have := hv.1; omega)
  constructor
  · intro h
    have hr := root_rep hv0
    have hl := root_len hv0
    rw [h] at hr hl
    rw [← hl] at hr
    simp at hr
    rw [← hr, repS_one, hv.1]
  · intro h
    rw [h, top_root hn]
theorem root_lastB {lo top n j : Nat} {v : List Nat} (hv : Good lo top n v) (hn : 1 ≤ n) (hj : LastB top v j) : LastB top (rootW v) (j - (n - rlen v)) ∧ n - rlen v ≤ j := by
  have hv0 : v ≠ [] := List.length_pos_iff.mp (by have := hv.1; omega)
  have hge := lastB_ge hv0 hj
  have hs := rlen_spec hv0
  have hrl := root_len hv0
  have hc := (root_cycle hv0).2
  rw [hv.1] at hc hge hs
  have hjn := hj.1
  rw [hv.1] at hjn
  have gt : ∀ q, q < rlen v → (rootW v).getD q 0 = v.getD (n - rlen v + q) 0 := fun q hq => by
    have h7 : v[n - rlen v + q]? = (v.take (n - rlen v) ++ rootW v)[n - rlen v + q]? := by rw [← hc]
    rw [List.getElem?_append_right (by rw [List.length_take, hv.1]; omega), List.length_take, hv.1, Nat.min_eq_left (by omega), Nat.add_sub_cancel_left] at h7
    rw [List.getD_eq_getElem?_getD, List.getD_eq_getElem?_getD, h7]
  refine ⟨⟨by omega, ?_, fun i hi hl => ?_⟩, hge⟩
  · rw [gt _ (by omega), show n - rlen v + (j - (n - rlen v)) = j by omega]
    exact hj.2.1
  · rw [hrl] at hl
    rw [gt _ hl]
    exact hj.2.2 _ (by omega) (by rw [hv.1]; omega)
theorem after_facts {f v t r : List Nat} (hl : t.length < f.length) (hvf : ¬ v < f) (htv : t <+: v) (htf : ¬ t <+: f) (htr : t <+: r) : ¬ t < f ∧ ¬ r < f := by
  obtain ⟨s, rfl⟩ := htv
  obtain ⟨s', rfl⟩ := htr
  have a : ¬ t < f := fun h => by
    rcases lex_iff.mp h with ⟨z, hz, e⟩ | ⟨p, c, d, x, y, e1, e2, hcd⟩
    · exact htf ⟨z, e.symm⟩
    · apply hvf
      rw [e1, e2, List.append_assoc, lex_pre, List.cons_append, List.cons_lt_cons_iff]
      exact .inl hcd
  refine ⟨a, fun h => ?_⟩
  have hft : f < t := by
    rcases lex_tri t f with h3 | h3 | h3
    · exact absurd h3 a
    · rw [h3] at hl; omega
    · exact h3
  rcases lex_iff.mp hft with ⟨z, hz, e⟩ | ⟨p, c, d, x, y, e1, e2, hcd⟩
  · have := congrArg List.length e
    rw [List.length_append] at this
    omega
  · have : f < t ++ s' := by
      rw [e1, e2, List.append_assoc, lex_pre, List.cons_append, List.cons_lt_cons_iff]
      exact .inl hcd
    exact List.lt_irrefl _ (List.lt_trans this h)
end
end Z
namespace Z
open PySem PySem.Spec PySem.Calls PyProof.Rows L2

section
variable {k n : Nat} {f : List Nat}
end
end Z
namespace Z
open PySem PySem.Spec PySem.Calls PyProof.Rows L2
theorem nodup_len : ∀ {l m : List (List Nat)}, l.Nodup → (∀ x ∈ l, x ∈ m) → l.length ≤ m.length
  | [], m, _, _ => Nat.zero_le _
  | a :: l, m, hn, hs => by
    obtain ⟨m1, m2, rfl⟩ := List.append_of_mem (hs a (by simp))
    have hn' := List.nodup_cons.mp hn
    have ih := nodup_len (l := l) (m := m1 ++ m2) hn'.2 (fun x hx => by
      have := hs x (by simp [hx])
      simp at this ⊢
      rcases this with h | h | h
      · exact .inl h
      · subst h; exact absurd hx hn'.1
      · exact .inr h)
    simp at ih ⊢
    omega
end Z
namespace ZV
open PySem PySem.Spec PyProof.Rows L2 RT
open Builtin Builtin.Str Builtin.Int
theorem norev_str : typeLookup (.type "str") "__reversed__" = pure none := by rw [typeLookup_type, builtinLookup_eq_fast]; kernel_rfl
theorem get_str : typeLookup (.type "str") "__getitem__" = pure (some (.builtin "str.__getitem__")) := by rw [typeLookup_type, builtinLookup_eq_fast]; kernel_rfl
theorem sub_str_dict : isSubtype (.type "str") (.type "dict") = pure false := by rw [isSubtype_type]; kernel_rfl
theorem nolen_rt : typeLookup (.type "reversed") "__len__" = pure none := by rw [typeLookup_type, builtinLookup_eq_fast]; kernel_rfl
theorem hint_rt : typeLookup (.type "reversed") "__length_hint__" = pure (some (.builtin "reversed.__length_hint__")) := by rw [typeLookup_type, builtinLookup_eq_fast]; kernel_rfl
theorem slot_rt_hint : Slot "reversed" "__length_hint__" "reversed.__length_hint__" :=
  .of (owner := "reversed") (n := "__length_hint__") (by rw [typeLookup_type, builtinLookup_eq_fast]; kernel_rfl) (by decide +kernel) (by decide +kernel) (by decide +kernel)
    (by first | exact .inl (by decide +kernel) | exact .inr (by decide +kernel)) (by rw [isSubtype_type]; kernel_rfl)
theorem entry_rt_hint : entryFor table "reversed.__length_hint__" = some Builtin.«reversed.__length_hint__» := entryFor_of_tree (by kernel_rfl)
theorem args_rt_hint (a : Value) : argsOk "reversed.__length_hint__" ⟨[a], []⟩ := by
  unfold argsOk; rw [signature?_of (id := "reversed.__length_hint__") (n := ['_', '_', 't', 'n', 'i', 'h', '_', 'h', 't', 'g', 'n', 'e', 'l', '_', '_']) (o := ['d', 'e', 's', 'r', 'e', 'v', 'e', 'r']) (by kernel_rfl) owner_rt]; kernel_rfl
def rtS (x : Str) (t : Tok) (i : Int) : Obj := { cls := .type "reversed", data := .fields #[.str x t, rawInt i] }
def IsRtS (h : Heap) (a : Addr) (x : Str) (t : Tok) (i : Int) : Prop := ∃ o, h.get? a = some o ∧ o.cls = .type "reversed" ∧ o.data = .fields #[.str x t, rawInt i]
theorem IsRtS.at {h h' : Heap} {a : Addr} {x : Str} {t : Tok} {i : Int} (y : IsRtS h a x t i) (e : ∀ o, h.get? a = some o → h'.get? a = some o) : IsRtS h' a x t i := let ⟨o, ho, r⟩ := y; ⟨o, e _ ho, r⟩
section
variable {prog : Program} {w : World} {A : Around} {E : Value → Shared → Prop} {s : Shared} {x : Str} {t : Tok}
theorem IsRtS.typeIs {a : Addr} {i : Int} (y : IsRtS s.heap a x t i) : s.TypeIs (.ref a) "reversed" := let ⟨o, ho, hc, _⟩ := y; ⟨o, ho, hc⟩
theorem code_reversed_str {Q₁ : Value → Shared → Prop} (hz : x.length ≤ sizeLine)
    (h : Q₁ (.ref s.heap.objs.size) { s with heap := s.heap.push (rtS x t ((x.length : Int) - 1)), toks := s.toks + 1 + 1 }) :
    codeAny (model prog w) A (.call (.builtin "reversed.__new__") ⟨[.type "reversed", .str x t], []⟩) (wants Q₁ E) s := by
  have hT : s.TypeIs (.str x t) "str" := typeIs_str s x t
  refine codeAny_of_tree ?_
  show wpAny _ A.in1 (do checkBuiltinCall "reversed.__new__" ⟨[.type "reversed", .str x t], []⟩; again (.builtin "reversed.__new__" ⟨[.type "reversed", .str x t], []⟩)) _ _ s
  refine wpAny_bind (wpAny_of_eq (F.newCall_reversed_1 _) (wpAny_pure ⟨plainId_quiet F.plain_reversed_new _, codeAny_builtin F.entry_reversed_new ?_⟩))
  rw [Around.under_plainId F.plain_reversed_new _]
  unfold Builtin.«reversed.__new__»
  refine wpAny_bind (wpAny_of_eq (newClass_reversed _) ?_)
  try dsimp only
  refine wpAny_bind (wpAny_of_eq (a := ()) (by first | rfl | kernel_rfl) ?_)
  try dsimp only
  refine wpAny_bind (wpAny_of_eq (a := ()) (by first | rfl | kernel_rfl) ?_)
  try dsimp only
  refine wpAny_bind (wpAny_specialOf hT norev_str ?_)
  try dsimp only
  refine wpAny_bind ?_
  wp_delta
  refine wpAny_bind (wpAny_isInstance (T := "str") (U := "dict") (b := false) hT sub_str_dict ?_)
  try dsimp only
  try rw [if_neg Bool.false_ne_true]
  try dsimp only
  refine wpAny_bind (wpAny_specialOf hT get_str ?_)
  try dsimp only
  try rw [if_pos (by decide +kernel)]
  refine wpAny_pure ?_
  try dsimp only
  try rw [if_neg (by decide)]
  try dsimp only
  rw [sizeLine_eq] at hz
  refine wpAny_bind (len_str (by omega) ?_)
  refine wpAny_bind (wpAny_of_eq (a := some ((x.length : Nat) : Int)) rfl ?_)
  try dsimp only
  refine wpAny_bind ?_
  show wpAny _ _ (newObj (.type "reversed") (.fields #[.str x t, rawInt ((x.length : Int) - 1)])) _ _ _
  refine wpAny_newObj_type ?_
  exact wpAny_pure h
theorem call_reversed_str {Q : Value → Shared → Prop} (hz : x.length ≤ sizeLine)
    (h : Q (.ref s.heap.objs.size) { s with heap := s.heap.push (rtS x t ((x.length : Int) - 1)), toks := s.toks + 1 + 1 }) : wpAny (model prog w) A (call (.type "reversed") [.str x t]) Q E s := by
  refine callType_codes (Q₁ := fun obj s₁ => s₁.TypeIs obj "reversed" ∧ Q obj s₁) called_rt (F.typeCall_reversed_1 _) F.entry_object_init
    (code_reversed_str (A := A.in1) hz ⟨⟨_, Heap.get?_push_size _ rfl, rfl⟩, h⟩) fun obj s₁ h₁ => ?_
  exact ⟨h₁.1, F.args_object_init_2 obj _, object_init_meets called_rt.init.lookup called_rt.made (by decide) prog w A.in1 _ s₁ ⟨h₁.1, rfl, h₁.2⟩⟩
theorem next_rs_item {it : Addr} {i c : Nat} {Q : Option Value → Shared → Prop} (hit : IsRtS s.heap it x t (i : Int)) (hx : x.cps[i]? = some c) (hsz : x.length ≤ sizeLine)
    (hQ : ∀ h' tk, IsRtS h' it x t ((i : Int) - 1) → Heap.SameBut it s.heap h' → s.toks ≤ tk → Q (some (.str ⟨#[c]⟩ (s.toks + 1))) { s with heap := h', toks := tk }) : wpAny (model prog w) A (pyNext (.ref it)) Q E s := by
  obtain ⟨o, ho, hc, hd⟩ := id hit
  have hi : i < x.cps.size := (Array.getElem?_eq_some_iff.mp hx).1
  have hi2 : i < x.length := hi
  have hT : s.TypeIs (.str x t) "str" := typeIs_str s x t
  rw [sizeLine_eq] at hsz
  unfold pyNext
  refine wpAny_bind (wpAny_attempt (wpAny_callSpecial?_slot (name := Str.ofString "__next__") hit.typeIs slot_rt_next
    (wpAny_call_entry slot_rt_next hit.typeIs entry_rt_next ?_ (args_rt_next _))))
  unfold Builtin.«reversed.__next__»
  refine wpAny_bind (wpAny_of_eq (a := (Value.ref it, [])) rfl ?_)
  try dsimp only
  refine wpAny_bind (wpAny_field ho hd (x := .str x t) rfl ?_)
  try dsimp only
  refine wpAny_bind (wpAny_field ho hd (x := rawInt (i : Int)) rfl ?_)
  show wpAny _ _ (if (i : Int) < 0 then _ else _) _ _ s
  rw [if_neg (by omega)]
  try dsimp only
  refine wpAny_bind (wpAny_specialOf hT get_str ?_)
  try dsimp only
  try rw [if_neg (by decide)]
  try dsimp only
  refine wpAny_bind (wpAny_mkInt ?_)
  refine wpAny_bind (wpAny_attempt ?_)
  have fin : seqIndex? (i : Int) x.length = some i := seqIndex_of (by omega) (by omega)
  refine PyProof.Rows.getItem_str (s := { s with toks := s.toks + 1 }) (i := (i : Int)) (c := c) (by rw [Bool.or_eq_false_iff]; exact ⟨decide_eq_false (by omega), decide_eq_false (by omega)⟩) (by rw [fin]; exact hx) ?_
  try dsimp only
  refine wpAny_bind (wpAny_field (s := { s with toks := s.toks + 1 + 1 }) ho hd (x := rawInt (i : Int)) rfl ?_)
  try dsimp only
  refine wpAny_bind (wpAny_setField (s := { s with toks := s.toks + 1 + 1 }) ho hd (by simp) ?_)
  first
  | refine wpAny_pure ⟨_, rfl, wpAny_pure (hQ _ _ ?_ (Heap.SameBut.update ..) (by show s.toks ≤ s.toks + 1 + 1; omega))⟩
  | refine wpAny_bind (wpAny_pure (wpAny_pure ⟨_, rfl, wpAny_pure (hQ _ _ ?_ (Heap.SameBut.update ..) (by show s.toks ≤ s.toks + 1 + 1; omega))⟩))
  exact ⟨_, Heap.get?_update_self _ ho (Obj.isFreed_of_fields (Obj.data_mapFields hd _)), (Obj.cls_mapFields ..).trans hc, by
    rw [Obj.data_mapFields hd]; simp⟩
theorem next_rs_end {it : Addr} {Q : Option Value → Shared → Prop} (hh : A.handled = none) (hit : IsRtS s.heap it x t (-1))
    (hQ : ∀ h', Heap.ExtBut it s.heap h' → Q none { s with heap := h' }) : wpAny (model prog w) A (pyNext (.ref it)) Q E s := by
  obtain ⟨o, ho, hc, hd⟩ := id hit
  unfold pyNext
  refine wpAny_bind (wpAny_attempt (wpAny_callSpecial?_slot (name := Str.ofString "__next__") hit.typeIs slot_rt_next
    (wpAny_call_entry slot_rt_next hit.typeIs entry_rt_next ?_ (args_rt_next _))))
  unfold Builtin.«reversed.__next__»
  refine wpAny_bind (wpAny_of_eq (a := (Value.ref it, [])) rfl ?_)
  try dsimp only
  refine wpAny_bind (wpAny_field ho hd (x := .str x t) rfl ?_)
  try dsimp only
  refine wpAny_bind (wpAny_field ho hd (x := rawInt (-1)) rfl ?_)
  show wpAny _ _ (if (-1 : Int) < 0 then _ else _) _ _ s
  rw [if_pos (by decide)]
  try dsimp only
  refine wpAny_bind (wpAny_rule ?_)
  refine wpAny_bind ?_
  wp_delta
  refine wpAny_bind (wpAny_setField ho hd (by simp) ?_)
  have ho2 := Heap.get?_update_self (Obj.mapFields (·.setIfInBounds 1 (rawInt (-1)))) ho (Obj.isFreed_of_fields (Obj.data_mapFields hd _))
  refine wpAny_setField (s := { s with heap := s.heap.update it (Obj.mapFields (·.setIfInBounds 1 (rawInt (-1)))) }) ho2 (Obj.data_mapFields hd _) (by simp) ?_
  try dsimp only
  first
  | show wpAny _ _ (newExc (.type "StopIteration") [] >>= _) _ _ _
  | (refine wpAny_bind ?_; show wpAny _ _ (newExc (.type "StopIteration") [] >>= _) _ _ _)
  | (refine wpAny_bind ?_; wp_delta; show wpAny _ _ (newExc (.type "StopIteration") [] >>= _) _ _ _)
  refine wpAny_bind ?_
  simp only [newExc, newTuple]
  refine wpAny_bind (wpAny_newObj_type ?_ (by size_fits))
  refine wpAny_bind (m := firstArgMember _ _) (wpAny_of_eq (a := Value.none) (by first | rfl | (simp only [firstArgMember]; rfl)) ?_)
  refine wpAny_newObj_type ?_ (by size_fits)
  simp only [raiseNew]
  refine wpAny_bind (wpAny_handled ?_)
  first | rw [show A.in1.handled = none from hh] | rw [hh]
  refine wpAny_bind (wpAny_pure (wpAny_throw ?_))
  refine wpAny_bind (wpAny_isInstance (T := "StopIteration") (b := true) ⟨_, Heap.get?_push_size _ rfl, rfl⟩ isSubtype_stop ?_)
  refine wpAny_pure (hQ _ ?_)
  refine ((?_ : Heap.ExtBut it s.heap _).push _).push _
  exact fun b ob hb e => (Heap.get?_update_other _ _ (Ne.symm hb)).trans ((Heap.get?_update_other _ _ (Ne.symm hb)).trans e)
theorem iter_rs {it : Addr} {i : Int} {Q : Value → Shared → Prop} (hit : IsRtS s.heap it x t i) (h : Q (.ref it) s) : wpAny (model prog w) A (pyIter (.ref it)) Q E s := by
  refine wpAny_pyIter_slot hit.typeIs slot_rt_iter (wpAny_call_entry slot_rt_iter hit.typeIs entry_rt_iter ?_ (args_rt_iter _))
  show wpAny _ _ (ret (.ref it)) _ _ s
  exact wpAny_pure ⟨_, rfl, "reversed", _, hit.typeIs, slot_rt_next.lookup, h⟩
def RevItem (x : Str) (i : Nat) (v : Value) : Prop := ∃ c tk, x.cps[x.length - 1 - i]? = some c ∧ v = .str ⟨#[c]⟩ tk
theorem walks_rs (hh : A.handled = none) (I : Addr) (hsz : x.length ≤ sizeLine) :
    Walks prog w A I [I] [I] x.length (RevItem x) (fun i h => i ≤ x.length ∧ IsRtS h I x t ((x.length : Int) - 1 - (i : Int))) where
  sub := fun b hb => hb
  frame := fun _ _ _ y hk => ⟨y.1, y.2.at fun o e => hk I (by simp) o e⟩
  item := fun i s Q E hi y hQ => by
    have e : (x.length : Int) - 1 - (i : Int) = ((x.length - 1 - i : Nat) : Int) := by omega
    have hit := y.2
    rw [e] at hit
    have hlt : x.length - 1 - i < x.cps.size := by show x.length - 1 - i < x.length; omega
    have hx : x.cps[x.length - 1 - i]? = some (x.cps[x.length - 1 - i]'hlt) := Array.getElem?_eq_getElem hlt
    refine next_rs_item hit hx hsz fun h' tk hit' hs' _ => ?_
    have e2 : ((x.length - 1 - i : Nat) : Int) - 1 = (x.length : Int) - 1 - ((i + 1 : Nat) : Int) := by omega
    rw [e2] at hit'
    exact hQ _ h' tk ⟨_, _, hx, rfl⟩ ⟨hi, hit'⟩ fun b o hb eo => hs'.extBut b o (fun h => hb (by simp [h])) eo
  done := fun s Q E y hQ => by
    have e : (x.length : Int) - 1 - (x.length : Int) = -1 := by omega
    have hit := y.2
    rw [e] at hit
    exact next_rs_end hh hit fun h' he' => hQ h' s.toks fun b o hb eo => he' b o (fun h => hb (by simp [h])) eo
  self := fun _ _ _ _ y hQ => iter_rs y.2 hQ
theorem hint_rs {it : Addr} {i : Int} {Q : Value → Shared → Prop} (hit : IsRtS s.heap it x t i) (hz : x.length ≤ sizeLine) (hi : i + 1 ≤ x.length)
    (hQ : ∀ tk, Q (.int (i + 1) (s.toks + 1 + 1)) { s with toks := tk }) : wpAny (model prog w) A (call (.builtin "reversed.__length_hint__") [.ref it]) Q E s := by
  obtain ⟨o, ho, hc, hd⟩ := id hit
  refine wpAny_call_entry slot_rt_hint hit.typeIs entry_rt_hint ?_ (args_rt_hint _)
  unfold Builtin.«reversed.__length_hint__»
  refine wpAny_bind (wpAny_of_eq (a := Value.ref it) rfl ?_)
  try dsimp only
  refine wpAny_bind (wpAny_field ho hd (x := .str x t) rfl ?_)
  try dsimp only
  rw [if_neg (show ¬ (Value.str x t == Value.none) = true from Bool.false_ne_true)]
  try dsimp only
  rw [sizeLine_eq] at hz
  refine wpAny_bind (len_str (by omega) ?_)
  refine wpAny_bind (wpAny_of_eq (a := some ((x.length : Nat) : Int)) rfl ?_)
  try dsimp only
  refine wpAny_bind (wpAny_field (s := { s with toks := s.toks + 1 + 1 }) ho hd (x := rawInt i) rfl ?_)
  show wpAny _ _ (if ((x.length : Nat) : Int) < i + 1 then _ else _) _ _ _
  rw [if_neg (by omega)]
  unfold retInt
  refine wpAny_bind (wpAny_mkInt ?_)
  exact wpAny_pure ⟨_, rfl, hQ _⟩
theorem collect_rs {it : Addr} {Q : List Value → Shared → Prop} (hh : A.handled = none) (hit : IsRtS s.heap it x t ((x.length : Int) - 1)) (hn : x.length ≤ sizeLine)
    (hQ : ∀ (h' : Heap) (tk : Nat) (acc : Array Value), (∀ b o, b ≠ it → s.heap.get? b = some o → h'.get? b = some o) → ItemsOf (RevItem x) acc x.length → Q acc.toList { s with heap := h', toks := tk }) :
    wpAny (model prog w) A (collect (.ref it)) Q E s := by
  have W := (walks_rs (prog := prog) (w := w) (A := A.in1) (x := x) (t := t) hh it hn).toS
  obtain ⟨oi, hoi, _⟩ := id hit
  have hSi : s.heap.objs.size ≠ it := Nat.ne_of_gt (Heap.lt_size hoi)
  have hSf : s.heap.objs.size ∉ [it] := by simp only [List.mem_cons, List.not_mem_nil, or_false]; exact hSi
  unfold collect
  refine wpAny_bind (wpAny_runValue (codeAny_builtin F.entry_proto_collect ?_))
  rw [Around.under_plainId F.plain_proto_collect _]
  show wpAny _ A.in1 (newList [] >>= fun l' => again (.builtin "list.__iadd__" ⟨[l', .ref it], []⟩)) _ _ s
  refine wpAny_bind (wpAny_newObj_type ?_)
  refine wpAny_pure ⟨plainId_quiet F.plain_list_iadd _, codeAny_builtin F.entry_list_iadd ?_⟩
  rw [Around.under_plainId F.plain_list_iadd _]
  have hS₁ : (s.heap.push { cls := .type "list", data := .seq ([] : List Value).toArray }).get? s.heap.objs.size = some { cls := .type "list", data := .seq ([] : List Value).toArray } := Heap.get?_push_size _ rfl
  have hit1 : IsRtS (s.heap.push { cls := .type "list", data := .seq ([] : List Value).toArray }) it x t ((x.length : Int) - 1) := hit.at fun o e => Heap.get?_push_of_some _ e
  have hT : ({ s with heap := s.heap.push { cls := .type "list", data := .seq ([] : List Value).toArray } } : Shared).TypeIs (.ref it) "reversed" := IsRtS.typeIs (s := { s with heap := s.heap.push { cls := .type "list", data := .seq ([] : List Value).toArray } }) hit1
  have h1 : Builtin.List.listSameRef (.ref s.heap.objs.size) (.ref it) = false := by simp [Builtin.List.listSameRef, hSi]
  show wpAny _ A.in1 (Builtin.List.listExtendWith (.ref s.heap.objs.size) (.ref it) (.ref s.heap.objs.size)) _ _ _
  unfold Builtin.List.listExtendWith
  refine wpAny_bind (wpAny_typeOf hT ?_)
  rw [if_neg (by rw [h1]; decide)]
  refine wpAny_bind (iter_rs (s := { s with heap := s.heap.push { cls := .type "list", data := .seq ([] : List Value).toArray } }) hit1 ?_)
  refine wpAny_bind (wpAny_holding ?_)
  unfold Builtin.List.listLengthHint
  refine wpAny_bind (wpAny_specialOf hT nolen_rt ?_)
  show wpAny _ A.in1 (specialOf (Value.ref it) (Str.ofString "__length_hint__") >>= _) _ _ _
  refine wpAny_bind (wpAny_specialOf hT hint_rt ?_)
  generalize hid : ("reversed.__length_hint__" : String) = id0
  wp_delta
  rw [show splitId id0 = some ("reversed", "__length_hint__") from by subst hid; decide +kernel]
  subst hid
  refine wpAny_bind (wpAny_isInstance (b := true) hT (by rw [isSubtype_type]; kernel_rfl) ?_)
  rw [if_neg (by decide)]
  try dsimp only
  rw [if_neg (by decide +kernel)]
  refine wpAny_bind (wpAny_rule ?_)
  refine wpAny_bind (wpAny_of_eq (slot_rt_hint.bind _) ?_)
  try dsimp only
  refine wpAny_bind (wpAny_attempt (hint_rs (s := { s with heap := s.heap.push { cls := .type "list", data := .seq ([] : List Value).toArray } }) hit1 hn (by omega) fun tk0 => ?_))
  try dsimp only
  refine wpAny_bind (wpAny_of_eq (a := some ((x.length : Int) - 1 + 1)) rfl ?_)
  try dsimp only
  have hn2 := hn
  rw [sizeLine_eq] at hn2
  rw [if_neg (by
    have : Builtin.List.listFitsIndex ((x.length : Int) - 1 + 1) = true := by
      unfold Builtin.List.listFitsIndex
      rw [Bool.and_eq_true, decide_eq_true_eq, decide_eq_true_eq]
      omega
    rw [this]; decide), if_neg (by omega), if_neg (by rw [notLongL (by rw [sizeLine_eq]; omega)]; decide)]
  refine wpAny_pure ?_
  have e0 : ((x.length : Nat) : Int) - 1 - ((0 : Nat) : Int) = (x.length : Int) - 1 := by omega
  by_cases hx0 : x.length = 0
  · rw [show ((x.length : Int) - 1 + 1 != 0) = false by rw [hx0]; rfl]
    rw [if_neg (by decide)]
    refine wpAny_pure ⟨plainId_quiet F.plain_extend_loop _, codeAny_extend_loopS W hn _ hSf _ x.length 0 _ _ _ rfl (Nat.zero_le _) ⟨Nat.zero_le _, by rw [e0]; exact hit1⟩ hS₁ (ItemsOf.nil _) fun s' acc' c' hm hS' hacc => ?_⟩
    show wpAny _ A (load s.heap.objs.size >>= _) _ _ s'
    refine wpAny_bind (wpAny_load hS' ?_)
    refine wpAny_pure ?_
    rw [Moved.eq_with hm]
    refine hQ s'.heap s'.toks acc' (fun b o hb e => hm.heap b o (fun hmem => ?_) (Heap.get?_push_of_some _ e)) hacc
    rcases List.mem_cons.mp hmem with e' | hmem
    · exact absurd (Heap.lt_size e) (by rw [e']; exact Nat.lt_irrefl _)
    · exact hb (List.mem_singleton.mp hmem)
  · rw [show ((x.length : Int) - 1 + 1 != 0) = true by
      rw [bne_iff_ne]
      omega]
    show wpAny _ A.in1 (rule "list.extend.makes-room" >>= fun _ => Builtin.List.listTouch (.ref s.heap.objs.size) >>= fun _ =>
      again (.builtin "list.extend.loop" ⟨[.ref s.heap.objs.size, .ref it, .ref s.heap.objs.size], []⟩)) _ _ _
    refine wpAny_bind (wpAny_rule ?_)
    refine wpAny_bind ?_
    show wpAny _ A.in1 (updateSeq s.heap.objs.size (·.push .none) >>= fun _ => updateSeq s.heap.objs.size (·.pop)) _ _ _
    refine wpAny_bind (wpAny_updateSeq hS₁ rfl ?_)
    have hS₂ := Heap.get?_update_self (Obj.mapSeq (·.push Value.none)) hS₁ rfl
    refine wpAny_updateSeq hS₂ rfl ?_
    have hS₃ := Heap.get?_update_self (Obj.mapSeq (·.pop)) hS₂ rfl
    have oth : ∀ b o, b ≠ s.heap.objs.size → (s.heap.push { cls := .type "list", data := .seq ([] : List Value).toArray }).get? b = some o →
        (((s.heap.push { cls := .type "list", data := .seq ([] : List Value).toArray }).update s.heap.objs.size (Obj.mapSeq (·.push Value.none))).update s.heap.objs.size (Obj.mapSeq (·.pop))).get? b = some o :=
      fun b o hb e => (Heap.get?_update_other _ _ (Ne.symm hb)).trans ((Heap.get?_update_other _ _ (Ne.symm hb)).trans e)
    refine wpAny_pure ⟨plainId_quiet F.plain_extend_loop _, codeAny_extend_loopS W hn _ hSf _ x.length 0 _ _ _ rfl (Nat.zero_le _) ⟨Nat.zero_le _, by rw [e0]; exact hit1.at fun o e => oth it o (Ne.symm hSi) e⟩ hS₃ (ItemsOf.nil _) fun s' acc' c' hm hS' hacc => ?_⟩
    show wpAny _ A (load s.heap.objs.size >>= _) _ _ s'
    refine wpAny_bind (wpAny_load hS' ?_)
    refine wpAny_pure ?_
    rw [Moved.eq_with hm]
    refine hQ s'.heap s'.toks acc' (fun b o hb e => hm.heap b o (fun hmem => ?_) (oth b o (fun h => ?_) (Heap.get?_push_of_some _ e))) hacc
    · rcases List.mem_cons.mp hmem with e' | hmem
      · exact absurd (Heap.lt_size e) (by rw [e']; exact Nat.lt_irrefl _)
      · exact hb (List.mem_singleton.mp hmem)
    · exact absurd (Heap.lt_size e) (by rw [h]; exact Nat.lt_irrefl _)
theorem strsAre_at : ∀ {vs : List Value} {ys : List Str}, vs.length = ys.length → (∀ (j : Nat) (v : Value), vs[j]? = some v → ∃ y t, ys[j]? = some y ∧ v = .str y t) → StrsAre vs ys
  | [], [], _, _ => .nil
  | [], _ :: _, h, _ => by simp at h
  | _ :: _, [], h, _ => by simp at h
  | v :: vs, y :: ys, h, hp => by
    obtain ⟨y', t, e1, e2⟩ := hp 0 v rfl
    have e3 : y = y' := by simpa using e1
    subst e3
    subst e2
    exact .cons y t (strsAre_at (by simpa using h) fun j v hj => hp (j + 1) v hj)
theorem strs_rs {y : List Nat} {acc : Array Value} (h : ItemsOf (RevItem ⟨y.toArray⟩) acc (⟨y.toArray⟩ : Str).length) : StrsAre acc.toList ((y.reverse.map fun c => [c]).map Z.toS) := by
  have hl : (⟨y.toArray⟩ : Str).length = y.length := List.size_toArray
  rw [hl] at h
  refine strsAre_at (by rw [Array.length_toList, h.1]; simp) fun j v hj => ?_
  have hj2 : acc[j]? = some v := by rw [← Array.getElem?_toList]; exact hj
  have hjl : j < y.length := by
    have := (Array.getElem?_eq_some_iff.mp hj2).1
    rw [h.1] at this
    exact this
  obtain ⟨c, tk, e1, e2⟩ := h.2 j v hj2
  rw [hl] at e1
  refine ⟨_, tk, ?_, e2⟩
  rw [List.getElem?_map, List.getElem?_map, List.getElem?_reverse hjl]
  have e3 : y[y.length - 1 - j]? = some c := by simpa using e1
  rw [e3]
  rfl
theorem join_rs {it : Addr} {y : Str} {u : Tok} {Q : Value → Shared → Prop} {ys : List Str} (hh : A.handled = none) (hit : IsRtS s.heap it y u ((y.length : Int) - 1)) (hn : y.length ≤ sizeLine)
    (hP : ∀ acc : Array Value, ItemsOf (RevItem y) acc y.length → StrsAre acc.toList ys) (hok : (ys.map (·.length)).sum + ys.length * x.length ≤ 16777216)
    (hq : ∀ h' t' k, (∀ b o, b ≠ it → s.heap.get? b = some o → h'.get? b = some o) → Q (.str (Txt.join x ys) t') { s with heap := h', toks := k }) :
    wpAny (model prog w) A (call (.builtin "str.join") [.str x t, .ref it]) Q E s := by
  refine wpAny_call (codeAny_call_builtin F.slot_str_join.plain F.entry_str_join (F.slot_str_join.check _ _ _ _ _ _ _ _ (typeIs_str _ _ _) (F.args_str_join_2 _ _) ?_))
  rw [join_tree_other]
  refine wpAny_bind (wpAny_typeOf hit.typeIs ?_)
  show wpAny _ A.in1 ((pyIter (.ref it)).tryCatch _ >>= fun it => collect it >>= fun items => joinTail x items) _ _ s
  refine wpAny_bind (wpAny_tryCatch (iter_rs hit ?_))
  refine wpAny_bind (collect_rs (A := A.in1) hh hit hn fun h' tk acc hk hacc => ?_)
  obtain ⟨l2, hl2, ht⟩ := strsAre_values (hP acc hacc)
  subst ht
  rw [hl2]
  have hok' := joinOk_of hok
  unfold JoinOk at hok'
  rw [Bool.not_eq_true'] at hok'
  have g : Gives (joinTail x (strValues l2)) (joinMade x l2) := by
    have g0 := gives_joinTail x l2 hok'
    cases l2 with
    | nil => exact g0
    | cons p r => cases r with
      | nil => exact g0
      | cons q r' => exact g0
  exact g prog w A (wants Q E) _ (post_join l2 ⟨joinFit_length hok', fun t' k => hq h' t' k hk⟩)
end
end ZV
namespace Z
noncomputable section
open PySem PySem.Spec PySem.P PyProof.Rows L2
def joinRevM2 (x : D) : List D → R D
  | [.lst xs] => joinRevM x [.lst xs]
  | [.str y] => match x with
    | .str a => if y.length + y.length * a.length ≤ SZ then .ok (.str (TL.joinL a (y.reverse.map fun c => [c]))) else .bad
    | _ => .bad
  | _ => .bad
@[simp] theorem joinRevM2_l (x : D) (xs : List D) : joinRevM2 x [.lst xs] = joinRevM x [.lst xs] := rfl
section
variable {X : Cx} {C : CT} {W : WX} {o e : Expr} {fa fb : SS → R D} {pos pos2 p2 apos p : Pos}
theorem s_joinRev2 (v : Pl X C W) (hg : Gl X "reversed") (hm : X.mg "reversed" = none) (ho : PE X o (tB C W fa)) (he : PE X e (tB C W fb))
    (hs1 : starEach [.Call (.Name "reversed" p2) [e] [] pos2] X.env = [(false, eval (.Call (.Name "reversed" p2) [e] [] pos2) X.env)] := by rfl)
    (hs : starEach [e] X.env = (false, eval e X.env) :: starEach [] X.env := by rfl)
    (hbase : attributeBase o "join" X.env (eval o X.env) = eval o X.env := by rfl) (hline : (apos.endLine == pos.line) = true := by rfl) :
    PE X (.Call (.Attribute o "join" apos) [.Call (.Name "reversed" p2) [e] [] pos2] [] pos) (tD C W (eM "str" joinRevM2 fa (aCons fb aNil))) := by
  refine ⟨fun pins s σ H Q I h => ?_⟩
  obtain ⟨F, sd, S, h⟩ := h
  refine PySem.Call_method1 hbase hs1 hline (thn (ho.run pins s σ H (fun u H1 => ∃ F1 d, Ext F H F1 H1 ∧ Bor C.G F1 H1 d u ∧ PostE C W F1 H1 σ (pD C) Q (if tyN d = some "str" then (aCons fb aNil sd).bind (joinRevM2 d) else .bad)) I ⟨F, sd, S, PostE.bind h fun d u F1 H1 e1 b1 h1 => ⟨F1, d, e1, b1, h1⟩⟩) fun v' s1 ⟨x, H1, I1, r1, q1⟩ => ?_)
  obtain ⟨F1, d, e1, b1, h1⟩ := q1
  by_cases ht : tyN d = some "str"
  · rw [if_pos ht] at h1
    cases d with
    | str a =>
      obtain ⟨rfl, oka⟩ := bor_str b1
      obtain ⟨t, rfl⟩ := _root_.id r1
      refine ⟨"str", _, PySem.F.plainAttrs_str, PySem.F.slot_str_join, PySem.F.type_str_join, typeIs_str _ _ _, (fun _ e => nomatch e), Calls.callWith_builtin rfl (Calls.evalArgs_plain (Calls.spliced_cons ?_))⟩
      have h1 : PostE C W F1 H1 σ (pD C) Q ((fb sd).bind fun y => joinRevM2 (.str a) [y]) := by
        unfold aCons aNil at h1
        cases q : fb sd with
        | ok y => rw [q] at h1; exact h1
        | ex c vs => rw [q] at h1; exact h1
        | bad => rw [q] at h1; exact h1
      refine Call_ (ld_blt I1 hg hm PyProof.Rows.boot_reversed (PyProof.Rows.callWith_type1 (args_cons (thn (he.run pins s1 σ H1 (fun u H2 => ∃ F2 d2, Ext F1 H1 F2 H2 ∧ Bor C.G F2 H2 d2 u ∧ PostE C W F2 H2 σ (pD C) Q (joinRevM2 (.str a) [d2])) I1 ⟨F1, sd, S.mono e1, PostE.bind h1 fun d2 u F2 H2 e2 b2 h2 => ⟨F2, d2, e2, b2, h2⟩⟩) fun u s2 ⟨v2, H2, I2, r2, q2⟩ => args_nil ?_) hs) hs rfl))
      obtain ⟨F2, d2, e2, b2, h2⟩ := q2
      cases d2 with
      | str y =>
        unfold joinRevM2 at h2
        dsimp only at h2
        split at h2
        · rename_i hz
          obtain ⟨rfl, oky⟩ := bor_str b2
          obtain ⟨t2, rfl⟩ := _root_.id r2
          have hyl : (⟨y.toArray⟩ : Str).length = y.length := List.size_toArray
          have hsz : (⟨y.toArray⟩ : Str).length ≤ sizeLine := by
            rw [hyl, sizeLine_eq]
            have := sz_is ▸ hz
            omega
          refine ZV.call_reversed_str hsz (Calls.spliced_nil ?_)
          have k0 : ∀ b o, s2.heap.get? b = some o → (s2.heap.push (ZV.rtS ⟨y.toArray⟩ t2 (((⟨y.toArray⟩ : Str).length : Int) - 1))).get? b = some o := fun b o e => Heap.get?_push_of_some _ e
          have I3 : Inv X pins σ H2 { s2 with heap := s2.heap.push (ZV.rtS ⟨y.toArray⟩ t2 (((⟨y.toArray⟩ : Str).length : Int) - 1)), toks := s2.toks + 1 + 1 } := I2.kept (t' := s2.toks + 1 + 1) k0
          obtain ⟨f0, f1, f2, f3, f4, f5⟩ := I2.fpOk (H' := H2) (b := s2.heap.objs.size) (Nat.le_refl _) (I2.hok.fresh (Nat.le_refl _))
          refine ZV.join_rs (s := { s2 with heap := s2.heap.push (ZV.rtS ⟨y.toArray⟩ t2 (((⟨y.toArray⟩ : Str).length : Int) - 1)), toks := s2.toks + 1 + 1 }) (ys := (y.reverse.map fun c => [c]).map toS) (I1.ok.hd v.calm) ⟨_, Heap.get?_push_size _ rfl, rfl, rfl⟩ hsz (fun acc hacc => ZV.strs_rs hacc) ?_ fun h' t' k hk => ?_
          · have e4 : ((y.reverse.map fun c => [c]).map toS).map (·.length) = (y.reverse.map fun c => [c]).map (·.length) := SX.lens _
            rw [e4, List.map_map, List.length_map, List.length_map, List.length_reverse]
            have e5 : (y.reverse.map ((fun x : List Nat => x.length) ∘ fun c => [c])).sum = y.length := by
              rw [← List.length_reverse (as := y)]
              induction y.reverse with
              | nil => rfl
              | cons c r ih => simp only [List.map_cons, List.sum_cons, ih, List.length_cons]; simp; omega
            rw [e5]
            exact sz_is ▸ hz
          · have I4 : Inv X pins σ H2 { s2 with heap := h', toks := k } := I3.turned (t' := k) (fun b o hb e => hk b o hb e) f0 f1 f3 f4 f5
            refine ⟨V.str (Txt.join (⟨a.toArray⟩ : Str) ((y.reverse.map fun c => [c]).map toS)), H2, I4, ⟨t', rfl⟩, ?_⟩
            have : Txt.join (⟨a.toArray⟩ : Str) ((y.reverse.map fun c => [c]).map toS) = ⟨(TL.joinL a (y.reverse.map fun c => [c])).toArray⟩ := SX.join_S a (y.reverse.map fun c => [c])
            rw [this]
            exact h2 _ F2 H2 (Ext.refl e2.fh) (rep_str.mpr ⟨rfl, okS_join oka fun z hz2 => by
              obtain ⟨c, hc, rfl⟩ := List.mem_map.mp hz2
              exact okS_mem oky (List.mem_reverse.mp hc)⟩)
        · exact h2.elim
      | lst xs =>
        have h2 : PostE C W F2 H2 σ (pD C) Q (joinRevM (.str a) [.lst xs]) := h2
        unfold joinRevM at h2
        dsimp only at h2
        split at h2
        · rename_i ys hys
          split at h2
          · rename_i hz
            obtain ⟨l, us, rfl, q, rr⟩ := bor_lst e2.fh b2
            obtain rfl : u = Value.ref l := r2
            obtain ⟨eu, hok⟩ := strs_rep hys rr
            rw [← v.K] at q
            obtain ⟨its, rv, p', hz2⟩ := I2.list q
            refine call_reversed_list p'.isList (Calls.spliced_nil ?_)
            have k0 : ∀ b o, s2.heap.get? b = some o → (s2.heap.push (revObj l ((its.toArray.size : Int) - 1))).get? b = some o := fun b o e => Heap.get?_push_of_some _ e
            have I3 : Inv X pins σ H2 { s2 with heap := s2.heap.push (revObj l ((its.toArray.size : Int) - 1)) } := I2.kept (t' := s2.toks) k0
            obtain ⟨f0, f1, f2, f3, f4, f5⟩ := I2.fpOk (H' := H2) (b := s2.heap.objs.size) (Nat.le_refl _) (I2.hok.fresh (Nat.le_refl _))
            have hl := p'.isList
            obtain ⟨ol, hol, _⟩ := id hl
            have hne : l ≠ s2.heap.objs.size := Nat.ne_of_lt (Heap.lt_size hol)
            have hn : its.toArray.size ≤ sizeLine := by rw [List.size_toArray, ← rv.length]; exact hz2
            have e3 : us.reverse = ((ys.reverse).map toS).map V.str := by rw [eu, ← List.map_reverse, ← List.map_reverse]
            refine ZR.join_rev (s := { s2 with heap := s2.heap.push (revObj l ((its.toArray.size : Int) - 1)) }) (ys := (ys.reverse).map toS) (I1.ok.hd v.calm) ⟨_, Heap.get?_push_size _ rfl, rfl, rfl⟩ (hl.push _) hne hn (fun acc hacc => ?_) ?_ fun h' t' k hk => ?_
            · have := RT.vals_rev rv hacc
              rw [e3] at this
              exact this.strs
            · have e4 : ((ys.reverse).map toS).map (·.length) = (ys.reverse).map (·.length) := SX.lens _
              rw [e4, List.map_reverse, List.sum_reverse, List.length_map, List.length_reverse]
              exact sz_is ▸ hz
            · have I4 : Inv X pins σ H2 { s2 with heap := h', toks := k } := I3.turned (t' := k) (fun b o hb e => hk b o hb e) f0 f1 f3 f4 f5
              refine ⟨V.str (Txt.join (⟨a.toArray⟩ : Str) (ys.reverse.map toS)), H2, I4, ⟨t', rfl⟩, ?_⟩
              have : Txt.join (⟨a.toArray⟩ : Str) (ys.reverse.map toS) = ⟨(TL.joinL a ys.reverse).toArray⟩ := SX.join_S a ys.reverse
              rw [this]
              exact h2 _ F2 H2 (Ext.refl e2.fh) (rep_str.mpr ⟨rfl, okS_join oka fun y hy => hok y (List.mem_reverse.mp hy)⟩)
          · exact h2.elim
        · exact h2.elim
      | _ => exact h2.elim
    | _ => simp [tyN] at ht
  · rw [if_neg ht] at h1
    exact h1.elim
end
end
end Z
namespace Z
open PySem PySem.Spec PySem.Calls PyProof.Rows L2
end Z
namespace Z
noncomputable section
open PySem PySem.Spec PySem.P PyProof.Rows L2
section
variable {X : Cx} {C : CT} {W : WX} {a : Expr} {fa : SS → R D} {pos : Pos} {f : Str} {c i : Nat}
end
end
end Z
namespace Z
noncomputable section
open PySem PySem.Spec PySem.P PyProof.Rows L2
structure SetC (G : GE) (c c' : Nat) (f : Str) : Prop where
  ex : ∃ A ns, G.cls c = some (A, ns) ∧ G.cls c' = some (A, ns ++ [f]) ∧ f ∉ ns ∧ ns.length < 1000 ∧ L2.Cls G.K A ∧ L2.NoAttr G.K A f
theorem putF_new {f : Str} {y : V} : ∀ {fs : List (Str × V)}, f ∉ fs.map (·.1) → putF f y fs = fs ++ [(f, y)]
  | [], _ => rfl
  | (g, u) :: fs, h => by
    rw [List.map_cons, List.mem_cons, not_or] at h
    unfold putF
    simp only [List.cons_append]
    first
      | rw [if_neg (by simpa using Ne.symm h.1), putF_new h.2]
      | rw [if_neg (by simpa using h.1), putF_new h.2]
section
variable {X : Cx} {C : CT} {W : WX} {e : Expr} {fe : SS → R D} {pos pos' p : Pos} {x f : Str} {c c' : Nat}
end
end
end Z
namespace Z
noncomputable section
open PySem PySem.Spec PySem.P PyProof.Rows L2
def lkO (c : Nat) (s : SS) (i : Nat) : Option (List D) := match s[i]? with
  | some (.lk (.obj k vs)) => if k = c then some vs else none
  | _ => none
theorem lkO_some {c : Nat} {s : SS} {i : Nat} {vs : List D} (h : lkO c s i = some vs) : s[i]? = some (.lk (.obj c vs)) := by
  unfold lkO at h
  split at h
  · rename_i k vs' e
    split at h
    · rename_i hk
      cases h
      rw [e, hk]
    · cases h
  · cases h
theorem StR.upLk {C : CT} {F H : Hp} {s : SS} {σ : L2.St} {i : Nat} {d d' : D} {a : Addr} {o : HO} (S : StR C F H s σ) (hs : s[i]? = some (.lk d)) (hσ : σ[i]? = some (some (.ref a))) (r : OwR C.G F (upd H a o) a d') : StR C F (upd H a o) (s.set i (.lk d')) σ := by
  have hi : i < s.length := (List.getElem?_eq_some_iff.mp hs).1
  obtain ⟨b, h1, h2, h3, h4⟩ := S.ow i d (.inr hs)
  rw [hσ] at h1
  cases h1
  have other : ∀ (j : Nat) (e : D) (b : Addr), j ≠ i → s[j]? = some (.ow e) ∨ s[j]? = some (.lk e) → σ[j]? = some (some (.ref b)) → b ≠ a := fun j e b hj q2 q3 z => by
    subst z
    exact hj (S.dis j i e d b q2 (.inr hs) q3 hσ)
  refine ⟨⟨S.ext.ff, fun b u e => ?_, fun b u e => ?_, S.ext.ow⟩, by rw [List.length_set]; exact S.len, fun j e q => ?_, fun j e q => ?_, fun j k e e' b q1 q2 q3 q4 => ?_, (S.nt.step (fun j k e q => ?_) (fun j k l q => ?_) (fun j e b q z => ?_) (Same.refl F) fun b o z1 z2 z3 => ?_).up⟩
  · rw [upd_ne (ne_of_none e h2)]
    exact S.ext.hh _ _ e
  · rw [upd_ne (ne_of_none e h3)]
    exact S.ext.fh _ _ e
  · by_cases hij : i = j
    · subst hij
      rw [List.getElem?_set_self hi] at q
      cases q
    · rw [List.getElem?_set_ne hij] at q
      exact S.sh j e q
  · by_cases hij : i = j
    · subst hij
      rw [List.getElem?_set_self hi] at q
      rcases q with q | q
      · cases q
      · cases q
        exact ⟨a, hσ, h2, h3, r⟩
    · rw [List.getElem?_set_ne hij] at q
      obtain ⟨b, e1, e2, e3, e4⟩ := S.ow j e q
      have hb := other j e b (Ne.symm hij) q e1
      exact ⟨b, e1, e2, e3, e4.mono (Same.refl F) fun u z => by rw [upd_ne hb]; exact z⟩
  · by_cases hij : i = j
    · by_cases hik : i = k
      · exact hij.symm.trans hik
      · subst hij
        rw [List.getElem?_set_ne hik] at q2
        rw [hσ] at q3
        cases q3
        exact (other k e' _ (Ne.symm hik) q2 q4 rfl).elim
    · rw [List.getElem?_set_ne hij] at q1
      by_cases hik : i = k
      · subst hik
        rw [hσ] at q4
        cases q4
        exact (other j e _ (Ne.symm hij) q1 q3 rfl).elim
      · rw [List.getElem?_set_ne hik] at q2
        exact S.dis j k e e' b q1 q2 q3 q4
  · by_cases hij : i = j
    · subst hij
      rw [List.getElem?_set_self hi] at q
      cases q
    · rw [List.getElem?_set_ne hij] at q
      exact ⟨q, rfl⟩
  · by_cases hij : i = j
    · subst hij
      rw [List.getElem?_set_self hi] at q
      cases q
    · rw [List.getElem?_set_ne hij] at q
      exact ⟨q, rfl⟩
  · by_cases hij : i = j
    · subst hij
      exact .inl ⟨i, d, .inr hs, z⟩
    · rw [List.getElem?_set_ne hij] at q
      exact .inl ⟨j, e, q, z⟩
  · have hb : b ≠ a := fun y => by subst y; exact z3 i d (.inr hs) hσ
    rw [upd_ne hb]
    exact ⟨z1, z2⟩
theorem lk_lk {s : SS} {σ : L2.St} {i c c' : Nat} {vs ws : List D} (hs : s[i]? = some (.lk (.obj c vs))) : Lk s σ (s.set i (.lk (.obj c' ws))) σ := fun j x q k => by
  have hi : i < s.length := (List.getElem?_eq_some_iff.mp hs).1
  by_cases hij : i = j
  · subst hij
    rw [hs] at q
    cases q
    exact ⟨⟨_, List.getElem?_set_self hi, .inr ⟨_, _, _, _, rfl, rfl⟩⟩, rfl⟩
  · rw [List.getElem?_set_ne hij]
    exact ⟨⟨_, q, LkR.refl k⟩, rfl⟩
def sFldK (i c c' : Nat) (fe : SS → R D) : SS → RS := fun s => match lkO c s i with
  | some vs => sE fe (fun d s => .nx (s.set i (.lk (.obj c' (vs ++ [d]))))) s
  | none => .bad
section
variable {X : Cx} {C : CT} {W : WX} {e : Expr} {fe : SS → R D} {pos pos' p : Pos} {x f : Str} {c c' : Nat}
theorem s_fldK (i : Nat) (hK : X.K = C.G.K) (hc : SetC C.G c c' f) (he : PE X e (tD C W fe)) (hN : X.N[i]? = some x := by rfl) (hv : Vis X.env.scope x := by first | exact Or.inl rfl | exact Or.inr (Or.inl rfl) | exact Or.inr (Or.inr rfl)) (hd : (x == ("__debug__" : Str)) = false := by decide)
    (hcd : (x == ("__classdict__" : Str)) = false := by decide)
    (hs : swapsWith e (some (.Attribute (.Name x p) f pos')) pos.line X.env = pure false := by rfl) :
    PS X (.Assign [.Attribute (.Name x p) f pos'] e pos) (tS C W (sFldK i c c' fe)) := by
  refine ps_imp (ps_fld (pe_var (i := i) hN hv hd hcd) he hs) fun En σ H ⟨F, sd, S, h⟩ => ?_
  obtain ⟨A, ns, g1, g2, g3, g4, g5, g6⟩ := hc.ex
  unfold sFldK at h
  cases hx : lkO c sd i with
  | none => rw [hx] at h; exact h.elim
  | some vs =>
    rw [hx] at h
    refine ⟨F, sd, S, postS_E S h fun d v F1 H1 e1 p1 h1 => ?_⟩
    have S1 := S.mono e1
    have ho := lkO_some hx
    obtain ⟨a, e2, e3, e4, A', dx, fs, ns', k1, k2, k3, k4⟩ := S1.ow i _ (.inr ho)
    rw [g1] at k1
    obtain ⟨rfl, rfl⟩ : A = A' ∧ ns = ns' := by cases k1; exact ⟨rfl, rfl⟩
    refine ⟨_, e2, a, A, dx, fs, rfl, k2, by rw [hK]; exact g5, by rw [hK]; exact g6, by rw [← List.length_map (f := (·.1)), k3]; exact g4, ?_⟩
    rw [putF_new (by rw [k3]; exact g3)]
    refine h1 F1 _ σ (S1.upLk (d' := .obj c' (vs ++ [d])) ho e2 ⟨A, dx, fs ++ [(f, v)], ns ++ [f], g2, upd_same, by rw [List.map_append, k3]; rfl, ?_⟩) e1.ff (lk_lk ho)
    rw [List.map_append]
    exact k4.append (RepL.cons p1 RepL.nil)
end
theorem start_lk {G : GE} {F H H0 : Hp} {ds : List D} {vs : List V} {N : List Str} {x : Addr} {d0 : D} (s0 : Same H0 H) (hx0 : H0 x = none) (s : Same F H) (hxF : F x = none) (r : RepL G F ds vs) (r0 : OwR G F H x d0) (hn : ds.length + 1 ≤ N.length) :
    StR ⟨G, F, H0⟩ F H (.lk d0 :: (ds.map Sl.sh ++ List.replicate (N.length - 1 - ds.length) .no)) (L2.start N (.ref x :: vs)) := by
  have hl := r.length
  have hst : L2.start N (.ref x :: vs) = some (.ref x) :: (vs.map some ++ List.replicate (N.length - (vs.length + 1)) none) := by
    unfold L2.start
    simp
  rw [hst]
  have no : ∀ {i : Nat} {z : Sl}, z ≠ .no → (∀ d, z ≠ .sh d) → (ds.map Sl.sh ++ List.replicate (N.length - 1 - ds.length) Sl.no)[i]? ≠ some z := fun {i z} h1 h2 e => by
    by_cases hi : i < ds.length
    · rw [List.getElem?_append_left (by simpa using hi), List.getElem?_map, List.getElem?_eq_getElem hi] at e
      cases e
      exact h2 _ rfl
    · rw [List.getElem?_append_right (by simpa using hi), List.getElem?_replicate] at e
      split at e <;> cases e
      exact h1 rfl
  have own : ∀ {i : Nat} {d : D}, (Sl.lk d0 :: (ds.map Sl.sh ++ List.replicate (N.length - 1 - ds.length) Sl.no))[i]? = some (.ow d) ∨ (Sl.lk d0 :: (ds.map Sl.sh ++ List.replicate (N.length - 1 - ds.length) Sl.no))[i]? = some (.lk d) → i = 0 ∧ d = d0 := fun {i d} h => by
    cases i with
    | zero =>
      rcases h with h | h
      · cases h
      · cases h; exact ⟨rfl, rfl⟩
    | succ i =>
      rw [List.getElem?_cons_succ] at h
      rcases h with h | h
      · exact (no (by intro z; cases z) (fun d z => by cases z) h).elim
      · exact (no (by intro z; cases z) (fun d z => by cases z) h).elim
  refine ⟨⟨Same.refl F, s0, s, fun _ _ _ h => h⟩, ?_, fun i d h => ?_, fun i d h => ?_, fun i j d e a h h' _ _ => ?_, NtOk.zero fun i k d h => ?_⟩
  · simp only [List.length_cons, List.length_append, List.length_map, List.length_replicate]
    omega
  · cases i with
    | zero => cases h
    | succ i =>
      rw [List.getElem?_cons_succ] at h
      by_cases hi : i < ds.length
      · rw [List.getElem?_append_left (by simpa using hi), List.getElem?_map, List.getElem?_eq_getElem hi] at h
        cases h
        obtain ⟨v, h1, h2⟩ := r.get (List.getElem?_eq_getElem hi)
        refine ⟨v, ?_, h2⟩
        rw [List.getElem?_cons_succ, List.getElem?_append_left (by simpa [hl] using hi), List.getElem?_map, h1]
        rfl
      · rw [List.getElem?_append_right (by simpa using hi), List.getElem?_replicate] at h
        split at h <;> cases h
  · obtain ⟨rfl, rfl⟩ := own h
    exact ⟨x, rfl, hx0, hxF, r0⟩
  · exact (own h).1.trans (own h').1.symm
  · cases i with
    | zero => cases h
    | succ i =>
      rw [List.getElem?_cons_succ] at h
      exact (no (by intro z; cases z) (fun d z => by cases z) h).elim
end
end Z
namespace Z
noncomputable section
open PySem PySem.Spec PySem.P PyProof.Rows L2
def runK (c0 cN m : Nat) (f : SS → RS) (ds : List D) : R (List D) := match f (.lk (.obj c0 []) :: (ds.map Sl.sh ++ List.replicate (m - 1 - ds.length) .no)) with
  | .nx s' => (match lkO cN s' 0 with
    | some vs => .ok vs
    | none => .bad)
  | .ex c vs _ => .ex c vs
  | _ => .bad
def spI (G : GE) (c0 cN n : Nat) (g : List D → R (List D)) : Sp := fun vs H Q E => ∃ F H0 ds x ws, vs = .ref x :: ws ∧ Same H0 H ∧ H0 x = none ∧ Same F H ∧ F x = none ∧ OwR G F H x (.obj c0 []) ∧ ds.length = n ∧ RepL G F ds ws ∧ (match g ds with
  | .ok fields => ∀ F' H', Ext F H0 F' H' → F' x = none → OwR G F' H' x (.obj cN fields) → Q .non H'
  | .ex c us => ∀ cls dx F' H', Ext F H0 F' H' → XR G F' c us cls dx → E cls dx H'
  | .bad => False)
theorem init_ok {P : Program} {w : World} {K : PySem.W.Frag} {mg : Str → Option Value} {base : Heap} {G : GE} {x qual : Str} {st : Stmt} {f : Addr} {fd : FuncData} {N ps : List Str} {k n c0 cN : Nat} {g : List D → R (List D)} {body : SS → RS}
    (Fu : Fun K x qual st f fd) (S : FnScope N ps (defScope st)) (hK : K = G.K) (hps : ps.length = n + 1) (hN : ps.length ≤ N.length)
    (hb : ∀ (cdv : Value) (A : Around) (outer : List PySem.Env) (s : Shared) (H F H0 : Hp) (E : XK), Room k (A.deeper (envOfC qual (defScope st) s.heap.objs.size f cdv)) →
      Pl (cxOf (L2.CX P w) P w K mg base N qual (defScope st) f cdv A outer s H E) ⟨G, F, H0⟩ (fun cls d _ H => E cls d H) →
      PSs (cxOf (L2.CX P w) P w K mg base N qual (defScope st) f cdv A outer s H E) (defBody st) (tS ⟨G, F, H0⟩ (fun cls d _ H => E cls d H) body))
    (hg : ∀ ds, ds.length = n → g ds ≠ .bad → runK c0 cN N.length body ds = g ds) : FnOk P w K mg base (L2.CX P w) (k + 1) f fd ps (spI G c0 cN n g) := by
  refine Fu.okX S (fun vs H Q E h => ?_) (fun cdv A outer s H vs Q E hr h => ?_)
  · obtain ⟨F, H0, ds, x, ws, rfl, _, _, _, _, _, hl, r, _⟩ := h
    rw [List.length_cons, r.length, hl, hps]
  · obtain ⟨F, H0, ds, x, ws, rfl, s0, hx0, sm, hxF, r0, hl, r, h⟩ := h
    have tk : Takes (cxOf (L2.CX P w) P w K mg base N qual (defScope st) f cdv A outer s H E) (fun cls d _ H => E cls d H) := takes_of rfl rfl rfl rfl
    have v : Pl (cxOf (L2.CX P w) P w K mg base N qual (defScope st) f cdv A outer s H E) ⟨G, F, H0⟩ (fun cls d _ H => E cls d H) := by
      refine ⟨⟨hK, ?_, tk, ?_⟩, rfl⟩
      · have := hr.un
        show Around.units (A.deeper _) + 65 < _
        omega
      · exact passes_of rfl
    refine ⟨_, hb cdv A outer s H F H0 E hr v, ?_⟩
    refine ⟨F, .lk (.obj c0 []) :: (ds.map Sl.sh ++ List.replicate (N.length - 1 - ds.length) .no), start_lk s0 hx0 sm hxF r r0 (by omega), ?_⟩
    have hne : g ds ≠ .bad := fun z => by rw [z] at h; exact h
    have hrun := hg ds hl hne
    unfold runK at hrun
    cases q : body (.lk (.obj c0 []) :: (ds.map Sl.sh ++ List.replicate (N.length - 1 - ds.length) .no)) with
    | nx s' =>
      rw [q] at hrun
      dsimp only at hrun
      cases q2 : lkO cN s' 0 with
      | none => rw [q2] at hrun; exact (hne hrun.symm).elim
      | some fields =>
        rw [q2] at hrun
        have hrun : R.ok fields = g ds := hrun
        rw [← hrun] at h
        intro F' H' σ' S' f' l'
        have ho := lkO_some q2
        obtain ⟨a, e1, e2, e3, e4⟩ := S'.ow 0 _ (.inr ho)
        have g2 := (l'.get (i := 0) (d := .obj c0 []) rfl).2
        rw [e1] at g2
        have hax : a = x := by
          have : some (some (V.ref a)) = some (some (V.ref x)) := g2
          cases this
          rfl
        subst hax
        exact h F' H' S'.ext e3 e4
    | rt b d => rw [q] at hrun; exact (hne hrun.symm).elim
    | ex c vs s' =>
      rw [q] at hrun
      have hrun : R.ex c vs = g ds := hrun
      rw [← hrun] at h
      exact fun cls dx F' H' σ' S' f' l' x => h cls dx F' H' S'.ext x
    | rm d s' => rw [q] at hrun; exact (hne hrun.symm).elim
    | rn j s' => rw [q] at hrun; exact (hne hrun.symm).elim
    | bk s' => rw [q] at hrun; exact (hne hrun.symm).elim
    | ct s' => rw [q] at hrun; exact (hne hrun.symm).elim
    | bad => rw [q] at hrun; exact (hne hrun.symm).elim
end
end Z
namespace Z
noncomputable section
open PySem PySem.Spec PySem.P PyProof.Rows L2
structure KnC (P : Program) (w : World) (K : PySem.W.Frag) (mg : Str → Option Value) (base : Heap) (G : GE) (x : Str) (c0 cN n : Nat) (g : List D → R (List D)) (k : Nat) : Prop where
  ex : ∃ A f fd ps, FnOk P w K mg base (L2.CX P w) k f fd ps (spI G c0 cN n g) ∧ mg x = some (.ref A) ∧ L2.Mk K A f ∧ Binds K fd ps [] ∧ G.cls c0 = some (A, [])
def eMk (cN : Nat) (g : List D → R (List D)) (fs : SS → R (List D)) : SS → R D := fun s => (fs s).bind fun ds => (g ds).bind fun vs => .ok (.obj cN vs)
section
variable {X : Cx} {pins : List (Addr × Obj)} {σ : L2.St} {H : Hp} {s : Shared} {Q : VK} {us : List Value} {vs : List V} {CX : CXT} {k : Nat} {f A : Addr} {fd : FuncData} {ps : List Str} {sp : Sp} {E : XK}
theorem run_makeS (M : L2.Mk X.K A f) (F : FnOk X.prog X.w X.K X.mg X.base CX k f fd ps sp) (hr : Room (k + 1) X.A) (hb : Binds X.K fd ps []) (hx : PassesAt CX X σ E) (I : Inv X pins σ H s) (r : Vals vs us)
    (h : ∀ x dx, H x = none → H dx = none → dx ≠ x → sp (.ref x :: vs) (upd (upd H dx (.own x)) x (.ins A dx [])) (fun v H2 => v = .non ∧ Q (.ref x) H2) E) :
    wpAny (model X.prog X.w) X.A (call (.ref A) us) (EP X pins σ Q) X.xe s := by
  have hq := h (s.heap.objs.size + 1) s.heap.objs.size (I.hok.fresh (Nat.le_succ _)) (I.hok.fresh (Nat.le_refl _)) (Nat.ne_of_lt (Nat.lt_succ_self _))
  have I2 := Inv.made (C := A) I
  have r2 : Vals (V.ref (s.heap.objs.size + 1) :: vs) (Value.ref (s.heap.objs.size + 1) :: us) := .cons rfl r
  have hl : (Value.ref (s.heap.objs.size + 1) :: us ++ []).length = ps.length := by
    have e := r2.length
    rw [F.len _ _ _ _ hq] at e
    rw [List.append_nil]
    exact e.symm
  refine wpAny_call (make_map (f := f) I.kIn M.makes M.init (beq_iff_eq.mp M.fn) (codeAny_mono (F.run _ X.stack _ _ ⟨Value.ref (s.heap.objs.size + 1) :: us, []⟩ (Value.ref (s.heap.objs.size + 1) :: us) _ _ E (hr.make A us [])
    (I2.env0.make A us []) (by have := hb _ (Value.ref (s.heap.objs.size + 1) :: us) I2.kIn hl; rwa [List.append_nil] at this) r2 hq) fun r s' hq' => ?_))
  cases r with
  | error e => exact hx pins _ _ e s' I2 hq'
  | ok fl =>
    cases fl with
    | ret u =>
      obtain ⟨v, H', I3, rv, ev, q3⟩ := I2.after hq'
      subst ev
      exact ⟨rv, ⟨V.ref (s.heap.objs.size + 1), H', I3, rfl, q3⟩⟩
    | next => exact False.elim hq'
    | brk => exact False.elim hq'
    | cont => exact False.elim hq'
end
section
variable {X : Cx} {C : CT} {W : WX} {a : Expr} {es : List Expr} {fs : SS → R (List D)} {pos p : Pos} {x : Str} {n k c0 cN : Nat} {g : List D → R (List D)}
theorem s_make (v : Pq X C W) (F : KnC X.prog X.w X.K X.mg X.base C.G x c0 cN n g k) (hr : Room (k + 1) X.A) (hg : Gl X x) (hn : ∀ s ds, fs s = .ok ds → ds.length = n) (ha : PA X (a :: es) (tA C W fs)) (hdb : (x == ("__debug__" : Str)) = false := by decide)
    (he : starEach (a :: es) X.env = (false, eval a X.env) :: starEach es X.env := by rfl) (hpl : (backTo pos (starEach es X.env)).any (·.1) = false := by rfl) : PE X (.Call (.Name x p) (a :: es) [] pos) (tF C W (eMk cN g fs)) := by
  obtain ⟨A, f, fd, ps, F1, F2, M, F4, F5⟩ := F.ex
  refine ⟨fun pins s σ H Q I ⟨F, sd, S, h⟩ => ?_⟩
  refine wpAny_Call_Name_kw (ld_glob I hg F2 ?_ hdb)
  refine PySem.W.callWith_K (h₀ := X.base) I.ok.mod.kin M.kp (thn (ha.run pos pins s σ H (fun vs H1 => ∃ F' ds, Ext F H F' H1 ∧ fs sd = .ok ds ∧ RepL C.G F' ds vs) I ⟨F, sd, S, ?_⟩) fun us s1 ⟨vs, H1, I1, r, F', ds, e1, hds, rr⟩ => ⟨I1.kIn, ?_⟩) he hpl
  · unfold eMk at h
    cases q : fs sd with
    | ok ds => exact fun vs F' H' e r => ⟨F', ds, e, rfl, pairL r⟩
    | ex c vs => rw [q] at h; exact h
    | bad => rw [q] at h; exact h
  · refine run_makeS M F1 hr F4 (passAt v.tk σ) I1 r fun y dx hy hdx hne => ?_
    have hl := hn sd ds hds
    unfold eMk at h
    rw [hds] at h
    have hH0y : (upd H1 dx (.own y)) y = none := by rw [upd_ne (Ne.symm hne)]; exact hy
    refine ⟨F', upd H1 dx (.own y), ds, y, vs, rfl, same_new hH0y, hH0y, (e1.fh.trans (same_new hdx)).trans (same_new hH0y), e1.fh.free hy, ⟨A, dx, [], [], F5, upd_same, rfl, RepL.nil⟩, hl, rr, ?_⟩
    have ext : ∀ {F2 H2 : Hp}, Ext F' (upd H1 dx (.own y)) F2 H2 → Ext F H F2 H2 := fun {F2 H2} e => e1.trans ⟨e.ff, (same_new hdx).trans e.hh, e.fh, fun b o h1 h2 => e.ow b o (same_new hdx _ _ h1) h2⟩
    cases q : g ds with
    | ok fields =>
      have h : PostE C W F H σ (pF C H) Q (.ok (.obj cN fields)) := by simpa [R.bind, q] using h
      exact fun F2 H2 e h1 h2 => ⟨rfl, h (.ref y) F2 H2 (ext e) ⟨y, rfl, e1.hh.free hy, h1, h2⟩⟩
    | ex c ws =>
      have h : PostE C W F H σ (pF C H) Q (.ex c ws) := by simpa [R.bind, q] using h
      exact fun cls d F2 H2 e x => h cls d F2 H2 (ext e) x
    | bad =>
      have h : PostE C W F H σ (pF C H) Q .bad := by simpa [R.bind, q] using h
      exact h
end
end
end Z
namespace Z
noncomputable section
open PySem PySem.Spec PySem.P PyProof.Rows L2
section
variable {G : GE} {F : Hp} {a : Addr} {us : List V} (ha : F a = some (.lst us))
include ha
end
section
variable {X : Cx} {C : CT} {W : WX} {e : Expr} {fe : SS → R D}
end
end
end Z
namespace Z
noncomputable section
open PySem PySem.Spec PySem.P PyProof.Rows L2
section
variable {X : Cx} {C : CT} {W : WX} {a : Expr} {fa : SS → R D} {pos p1 p2 p3 : Pos} {k : Nat}
end
section
variable {X : Cx} {C : CT} {W : WX} {a b : Expr} {fa fb fd fk fx : SS → R D} {pos cpos apos : Pos} {o e f : Expr}
end
end
end Z
namespace Z
noncomputable section
open PySem PySem.Spec PySem.P PyProof.Rows L2
section
variable {X : Cx} {C : CT} {W : WX}
end
end
end Z
namespace ZT
open PySem PySem.Spec PyProof.Rows L2
section
variable {P : Program} {w : World} {A : Around} {E : Value → Shared → Prop} {s : Shared}
theorem call_set_tupT {l : Addr} {items : Array Value} (ns : List Str) {Q : Value → Shared → Prop} (hh : A.handled = none) (hl : s.heap.IsTuple l items) (hit : StrsAre items.toList ns) (hb : ns.length ≤ scanBound)
    (h : ∀ (h' : Heap) (tk c : Nat), SetRT w h' s.heap.objs.size (fun j => decide (j ∈ ns)) c → c ≤ ns.length → (∀ b o, s.heap.get? b = some o → h'.get? b = some o) → Q (.ref s.heap.objs.size) { s with heap := h', toks := tk }) :
    wpAny (model P w) A (call (.type "set") [.ref l]) Q E s := by
  have hisz : items.size = ns.length := by
    have q := StrsAre.len_eq hit
    rw [Array.length_toList] at q
    exact q
  obtain ⟨c, tl, hmro⟩ := F.called_set.mro
  have hmade := F.called_set.made
  have hsub := F.called_set.sub
  refine wpAny_call (codeAny_of_tree ?_)
  show wpAny _ _ (callAny (.type "set") _) _ _ _
  refine wpAny_pure ⟨Code.quiet_builtin _ (by decide +kernel), codeAny_builtin F.entry_type_call ?_⟩
  rw [Around.under_plain (weight_type_call_type "set" [.ref l] []) rfl]
  have h1 := F.called_set.notType
  have h2 := F.called_set.canCreate
  have hct := F.typeCall_set_1 (.ref l)
  repeat (any_goals (first | assumption | wp_step))

  refine codeAny_mono (code_set_led1 (.ref l) (E := E) (Q₁ := fun obj s₁ => obj = .ref s.heap.objs.size ∧ s₁ = { s with heap := s.heap.push { cls := .type "set", dict := none, data := .set #[] 0 (.fresh 0 0 (!w.params.followText "set-order")) } }) ⟨rfl, rfl⟩) fun r s₁ hr => ?_
  cases r with
  | error e => exact hr
  | ok fl =>
    cases fl with
    | ret obj =>
      obtain ⟨rfl, rfl⟩ := hr
      have hS : (s.heap.push { cls := .type "set", dict := none, data := .set #[] 0 (.fresh 0 0 (!w.params.followText "set-order")) }).get? s.heap.objs.size = some { cls := .type "set", dict := none, data := .set #[] 0 (.fresh 0 0 (!w.params.followText "set-order")) } := Heap.get?_push_size _ rfl
      have hT : Shared.TypeIs { s with heap := s.heap.push { cls := .type "set", dict := none, data := .set #[] 0 (.fresh 0 0 (!w.params.followText "set-order")) } } (.ref s.heap.objs.size) "set" := ⟨_, hS, rfl⟩
      have hli := F.called_set.init.lookup
      have hbi := F.called_set.init.bind (.ref s.heap.objs.size)
      repeat (any_goals (first | assumption | wp_step))

      refine codeAny_mono (codeAny_call_builtin (R := wants (fun r s₂ => r = .none ∧ ∃ h' tk c, s₂ = { s with heap := h', toks := tk } ∧ SetRT w h' s.heap.objs.size (fun j => decide (j ∈ ns)) c ∧ c ≤ ns.length ∧
          (∀ b o, s.heap.get? b = some o → h'.get? b = some o)) E) F.called_set.init.plain F.entry_set_init (check_set_init_1 hT ?_)) fun r₂ s₂ hr₂ => ?_
      · obtain ⟨ol, hol, hcl, nl, hdl⟩ := hl
        obtain ⟨ocls, odict, odata, oslots⟩ := ol
        simp only at hcl hdl
        subst hcl; subst hdl
        have hol' : (s.heap.push { cls := .type "set", dict := none, data := .set #[] 0 (.fresh 0 0 (!w.params.followText "set-order")) }).get? l = some { cls := .type "tuple", dict := odict, data := .seq items nl, slots := oslots } := Heap.get?_push_of_some _ hol
        have hsls := F.sub_tuple_set
        have hslf := F.sub_tuple_frozenset
        have hne : (Value.type "tuple" == Value.type "dict") = false := by decide
        have hl1 : (s.heap.push { cls := .type "set", dict := none, data := .set #[] 0 (.fresh 0 0 (!w.params.followText "set-order")) }).IsTuple l items := ⟨_, hol', rfl, nl, rfl⟩
        unfold Builtin.«set.__init__» noKeywords Builtin.Frozenset.updateFrom
        generalize hPI : pyIter = PI
        wp_walk
        subst hPI

        refine wpAny_pyIter_tuple hl1 ?_
        refine wpAny_bind (wpAny_runValue ?_)
        have hlS : l < s.heap.objs.size := Heap.lt_size hol
        have hh3 : A.in1.in1.in1.handled = none := by simp [hh]
        have hz1 : (s.heap.push { cls := .type "set", dict := none, data := .set #[] 0 (.fresh 0 0 (!w.params.followText "set-order")) }).objs.size = s.heap.objs.size + 1 := Heap.size_push ..
        have hneI : l ≠ (s.heap.push { cls := .type "set", dict := none, data := .set #[] 0 (.fresh 0 0 (!w.params.followText "set-order")) }).objs.size := by
          rw [Heap.size_push]; exact Nat.ne_of_lt (Nat.lt_succ_of_lt hlS)
        have hSf : s.heap.objs.size ∉ [(s.heap.push { cls := .type "set", dict := none, data := .set #[] 0 (.fresh 0 0 (!w.params.followText "set-order")) }).objs.size, l] := by
          rw [Heap.size_push]; simp only [List.mem_cons, List.mem_singleton, List.not_mem_nil, or_false, not_or]
          exact ⟨Nat.ne_of_lt (Nat.lt_succ_self _), Nat.ne_of_gt hlS⟩
        have hval : ∀ (i : Nat) (v : Value), items[i]? = some v → ∃ k t, ns[i]? = some k ∧ v = .str k t := fun i v hv => by
          have hi : i < ns.length := by rw [← hisz]; exact (Array.getElem?_eq_some_iff.mp hv).1
          obtain ⟨t, e⟩ := SS.strs_at hit i v (by rw [Array.getElem?_toList]; exact hv)
          refine ⟨ns[i], t, List.getElem?_eq_getElem hi, ?_⟩
          rw [e, List.getD_eq_getElem?_getD, List.getElem?_eq_getElem hi] <;> rfl
        refine set_update_strs ((Walks.tuple hh3 _ l hneI items).toS) s.heap.objs.size
          hSf ns hisz hb hval (items.size - 0) 0 _ (by omega) (Nat.zero_le _)
          ⟨⟨_, Heap.get?_push_size _ rfl, rfl, rfl⟩, (hl1.push _)⟩ ?hS0 ?hR
        case hS0 =>
          have hget : ((s.heap.push { cls := .type "set", dict := none, data := .set #[] 0 (.fresh 0 0 (!w.params.followText "set-order")) }).push { cls := .type "tuple_iterator", data := .fields #[.ref l, .int 0 0] }).get? s.heap.objs.size
              = some { cls := .type "set", dict := none, data := .set #[] 0 (.fresh 0 0 (!w.params.followText "set-order")) } := Heap.get?_push_of_some _ hS
          exact ⟨0, Nat.le_refl 0, setRT_new_at hget⟩
        case hR =>
          intro s' c' hm hc' hS'
          obtain ⟨h', g2, d', tk', os'⟩ := s'
          have eg : g2 = s.gens := hm.gens
          have ed : d' = s.drawn := hm.drawn
          have eo : os' = s.os := hm.os
          subst eg; subst ed; subst eo
          show wpAny _ _ _ _ _ _
          refine wpAny_pure ?_
          show wpAny _ _ (ret Value.none) _ _ _
          rw [hisz] at hc'
          refine wpAny_pure ⟨rfl, h', tk', c', rfl, hS', hc', fun b o e => ?_⟩
          have hb0 : b < s.heap.objs.size := Heap.lt_size e
          have hb1 : b ≠ s.heap.objs.size := Nat.ne_of_lt hb0
          have hb2 : b ≠ (s.heap.push { cls := .type "set", dict := none, data := .set #[] 0 (.fresh 0 0 (!w.params.followText "set-order")) }).objs.size := by
            rw [Heap.size_push]; exact Nat.ne_of_lt (Nat.lt_succ_of_lt hb0)
          exact hm.heap b o (by simp only [List.mem_cons, List.mem_singleton, List.not_mem_nil, or_false, not_or]; exact ⟨hb1, hb2⟩) (Heap.get?_push_of_some _ (Heap.get?_push_of_some _ e))

      · cases r₂ with
        | error e => exact hr₂
        | ok fl₂ =>
          cases fl₂ with
          | ret r =>
            obtain ⟨rfl, h', tk, c', rfl, hS', hc', hk'⟩ := hr₂
            repeat (any_goals (first | assumption | wp_step))
            exact h _ _ _ hS' hc' hk'
          | _ => exact hr₂.elim
    | _ => exact hr.elim

end
end ZT
namespace ZS
open PySem PyProof.Rows Srt SrtO
section
variable {prog : Program} {w : World} {A : Around} {E : Value → Shared → Prop} {s : Shared}
theorem collect_tup {l : Addr} {vs : List Value} {Q : List Value → Shared → Prop} (hl : s.heap.IsTuple l vs.toArray)
    (h : Q vs { s with heap := (s.heap.push (seqObj "list" #[] 0)).update s.heap.objs.size (Obj.mapSeq (· ++ vs.toArray)) }) (hsz : vs.length ≤ sizeLine) :
    wpAny (model prog w) A (collect (.ref l)) Q E s := by
  obtain ⟨o, ho, hc, n, hd⟩ := id hl
  unfold collect
  refine wpAny_bind (wpAny_runValue (codeAny_builtin entry_proto_collect' ?_))
  show wpAny _ _ (do again (.builtin "list.__iadd__" ⟨[← newList [], .ref l], []⟩)) _ _ s
  refine wpAny_bind (wpAny_newList (wpAny_pure ⟨Code.quiet_builtin _ (by decide +kernel), codeAny_builtin entry_list_iadd' ?_⟩))
  show wpAny _ _ (Builtin.List.listExtendWith (.ref s.heap.objs.size) (.ref l) (.ref s.heap.objs.size)) _ _ { s with heap := s.heap.push (seqObj "list" #[] 0) }
  unfold Builtin.List.listExtendWith
  have ho' : (s.heap.push (seqObj "list" #[] 0)).get? l = some o := Heap.get?_push_of_some _ ho
  refine wpAny_bind (wpAny_typeOf (T := "tuple") ⟨o, ho', hc⟩ ?_)
  have ht : (Value.type "tuple" == Value.type "tuple") = true := by rfl
  rw [if_pos (by rw [ht]; simp)]
  refine wpAny_bind (listItems_at ho' hd ?_)
  refine wpAny_bind (listItems_at (xs := #[]) (n := 0) (Heap.get?_push_size _ rfl) rfl ?_)
  rw [if_neg (by simp)]
  refine wpAny_bind (listUpdate_at (xs := #[]) (n := 0) (Heap.get?_push_size _ rfl) rfl ?_ (Nat.zero_le _) (by show (#[] ++ vs.toArray).size ≤ sizeLine + 1; simp only [Array.size_append, List.size_toArray, List.length_nil]; omega))
  refine wpAny_pure ?_
  show wpAny (model prog w) A (do
      let o ← load s.heap.objs.size
      match o.data with
      | .seq xs _ => pure xs.toList
      | _ => unsupported "internal:collect") Q E { s with heap := (s.heap.push (seqObj "list" #[] 0)).update s.heap.objs.size (Obj.mapSeq (· ++ vs.toArray)) }
  refine wpAny_bind (wpAny_load (get?_update_seq (Heap.get?_push_size _ rfl) _) ?_)
  show wpAny _ _ (pure ((#[] : Array Value) ++ vs.toArray).toList) Q E _
  rw [show ((#[] : Array Value) ++ vs.toArray).toList = vs by simp]
  exact wpAny_pure h
theorem sorted_ordT {l : Addr} {vs : List Value} {ltv : Value → Value → Bool} {Q : Value → Shared → Prop} (O : Swo ltv) (hl : s.heap.IsTuple l vs.toArray) (hz : vs.length ≤ sizeLine)
    (hS : 2 ≤ vs.length → ∀ (h₁ : Heap) (a : Addr), h₁.get? a = some (seqObj "list" vs.toArray 0) → (∀ b o, s.heap.get? b = some o → b ≠ a ∧ h₁.get? b = some o) → SortableO prog w A.in1.in1 { s with heap := h₁ } a vs ltv)
    (h : ∀ out : List Value, Srtd ltv out → Stb ltv out vs → Q (.ref (s.heap.objs.size + 1)) { s with heap := sortedAll s.heap vs out.toArray }) :
    wpAny (model prog w) A (call (.builtin "sorted") [.ref l]) Q E s := by
  refine Calls.call_function_entry kind_sorted plain_sorted entry_sorted (args_sorted1 _) ?_
  unfold Builtin.«sorted»
  refine wpAny_bind (m := checkCount "sorted" 1 1 _) (wpAny_pure ?_)
  refine wpAny_bind (collect_tup hl ?_ hz)
  refine wpAny_bind (wpAny_newList ?_ hz)
  have hsz : ((s.heap.push (seqObj "list" #[] 0)).update s.heap.objs.size (Obj.mapSeq (· ++ vs.toArray))).objs.size = s.heap.objs.size + 1 := by
    rw [Heap.size_update, size_push']
  have hoL : (((s.heap.push (seqObj "list" #[] 0)).update s.heap.objs.size (Obj.mapSeq (· ++ vs.toArray))).push (seqObj "list" vs.toArray 0)).get? (s.heap.objs.size + 1) = some (seqObj "list" vs.toArray 0) := by
    rw [← hsz]; exact Heap.get?_push_size _ rfl
  have keep : ∀ b o, s.heap.get? b = some o → b ≠ s.heap.objs.size + 1 ∧ (((s.heap.push (seqObj "list" #[] 0)).update s.heap.objs.size (Obj.mapSeq (· ++ vs.toArray))).push (seqObj "list" vs.toArray 0)).get? b = some o := fun b o q => by
    have hlt : b < s.heap.objs.size := Heap.lt_size q
    refine ⟨Nat.ne_of_lt (Nat.lt_succ_of_lt hlt), Heap.get?_push_of_some _ ?_⟩
    rw [Heap.get?_update_ne _ _ _ _ (Nat.ne_of_lt hlt)]
    exact Heap.get?_push_of_some _ q
  show wpAny _ _ _ _ _ { s with heap := ((s.heap.push (seqObj "list" #[] 0)).update s.heap.objs.size (Obj.mapSeq (· ++ vs.toArray))).push (seqObj "list" vs.toArray 0) }
  rw [hsz]
  refine wpAny_bind (wpAny_holding (wpAny_call_entry slot_list_sort ⟨_, hoL, rfl⟩ entry_list_sort (list_sort_ord O hoL hz (fun h2 => hS h2 _ _ hoL keep) fun out hs hb => ⟨_, rfl, ?_⟩) (args_list_sort _)))
  exact wpAny_pure ⟨_, rfl, h out hs hb⟩
end
end ZS
namespace Z
noncomputable section
open PySem PySem.Spec PySem.P PyProof.Rows L2
section
variable {X : Cx} {C : CT} {W : WX} {a : Expr} {fa : SS → R D} {pos q p2 p : Pos}
theorem cr_sortedTT : CallR X (.builtin "sorted") (fun vs H Q => ∃ (a : Addr) (xs : List Str), vs = [V.ref a] ∧ SqT X.K H a (xs.map V.str) ∧
    ∀ (ys : List Str) (p : Addr), ys.Perm xs → ys.Pairwise (fun x y => ¬ y.cps.toList < x.cps.toList) → H p = none → Q (.ref p) (upd H p (.lst (ys.map V.str)))) := by
  intro pins s σ H vs us Q I r h
  obtain ⟨a, ns, rfl, hs, q⟩ := h
  obtain ⟨its, rv, hl, hz⟩ := I.tuple hs
  rw [Vals.ref1 r]
  have hi := rv.strs
  refine ZS.sorted_ordT ZS.swo_str (show s.heap.IsTuple a its.toArray from hl) (by rw [← rv.length]; exact hz) (fun h2 h₁ a' _ _ => ZS.strs_sortable hi h2) fun out h1 h2 => ?_
  obtain ⟨k1, k2, k3⟩ := ZS.strs_out hi h1 h2
  obtain ⟨ep, he'⟩ := PyProof.Rows.sortedAll_at s.heap its out.toArray
  have hlen : ((out.map ZS.svS).map V.str).length ≤ sizeLine := by
    rw [List.length_map, k2.length_eq]
    rw [List.length_map] at hz
    exact hz
  exact ⟨.ref _, upd H (s.heap.objs.size + 1) (.lst ((out.map ZS.svS).map V.str)), I.laid (t' := s.toks) (fun _ _ => PyProof.Rows.sortedAll_old) (Nat.le_succ _) ⟨hlen, out, ep, vals_of_strs k1, he'⟩, rfl, q _ _ k2 k3 (I.hok.fresh (Nat.le_succ _))⟩
def sortWD : List D → R D
  | [.lst x] => sortD [.lst x]
  | [.tup x] => match strsD x with
    | some ys => .ok (.lst ((sortT ys).map .str))
    | none => .bad
  | _ => .bad
theorem sortWD_ne : NoExL sortWD := fun x c vs h => by
  unfold sortWD at h
  split at h
  · exact sortD_ne _ c vs h
  · split at h <;> cases h
  · cases h
@[simp] theorem sortWD_l (x : List D) : sortWD [.lst x] = sortD [.lst x] := rfl
@[simp] theorem sortWD_t (ys : List (List Nat)) : sortWD [.tup (ys.map .str)] = .ok (.lst ((sortT ys).map .str)) := by
  unfold sortWD
  dsimp only
  rw [strsD_map]
theorem call_sortWD (v : Pl X C W) : CallR X (.builtin "sorted") (rCF C.G sortWD) := by
  intro pins s σ H xs us Q I r h
  obtain ⟨F, ds, S, r2, p⟩ := h
  unfold sortWD at p
  split at p
  · exact call_sortD v pins s σ H xs us Q I r ⟨F, _, S, r2, p⟩
  · obtain ⟨u, rfl, b⟩ := pair1 r2
    obtain ⟨a, ys, rfl, q, rr⟩ := bor_tup S b
    rw [← v.K] at q
    split at p
    · rename_i ns hn
      obtain ⟨e, hok⟩ := strs_rep hn rr
      rw [e] at q
      refine cr_sortedTT pins s σ H _ us Q I r ⟨a, ns.map toS, rfl, q, fun zs p' hp hs hf => ?_⟩
      have h1 : zs = (zs.map fun z => z.cps.toList).map toS := by
        rw [List.map_map]
        conv => lhs; rw [← List.map_id zs]
        refine List.map_congr_left fun z _ => ?_
        show z = ⟨z.cps.toList.toArray⟩
        rw [Array.toArray_toList]
      have h2 : zs.map (fun z => z.cps.toList) = sortT ns := by
        apply sortT_uniq
        · have := hp.map fun z : Str => z.cps.toList
          rw [List.map_map] at this
          have e2 : ns.map ((fun z : Str => z.cps.toList) ∘ toS) = ns := by
            conv => rhs; rw [← List.map_id ns]
            exact List.map_congr_left fun z _ => rfl
          rwa [e2] at this
        · exact List.pairwise_map.mpr hs
      rw [h1, h2]
      exact p.lst S (repL_strs _ fun x hx => hok x ((sortT_perm ns).mem_iff.mp hx)) p' hf
    · exact p.elim
  · exact p.elim
def lenSetWD (d : D) : R D := match d with
  | .tup x => lenSetD (.lst x)
  | d => lenSetD d
@[simp] theorem lenSetWD_l (x : List D) : lenSetWD (.lst x) = lenSetD (.lst x) := rfl
@[simp] theorem lenSetWD_t (x : List D) : lenSetWD (.tup x) = lenSetD (.lst x) := rfl
theorem s_lenSetW (v : Pl X C W) (hg : Gl X "len") (hm : X.mg "len" = none) (hg2 : Gl X "set") (hm2 : X.mg "set" = none) (ha : PE X a (tB C W fa))
    (na : starEach [a] X.env = (false, eval a X.env) :: starEach [] X.env := by rfl) : PE X (.Call (.Name "len" p) [.Call (.Name "set" p2) [a] [] q] [] pos) (tD C W (eUn lenSetWD fa)) := by
  refine ⟨fun pins s σ H Q I h => ?_⟩
  obtain ⟨F, sd, S, h⟩ := h
  refine Call_ (ld_blt I hg hm boot_len ?_)
  refine PyProof.Rows.callWith_builtin1 (PyProof.Rows.args_cons ?_ rfl) rfl rfl
  refine Call_ (ld_blt I hg2 hm2 boot_set ?_)
  refine PyProof.Rows.callWith_type1 (PyProof.Rows.args_cons (thn (ha.run pins s σ H (fun u H1 => ∃ F1 d, Ext F H F1 H1 ∧ Bor C.G F1 H1 d u ∧ PostE C W F1 H1 σ (pD C) Q (lenSetWD d)) I ⟨F, sd, S, PostE.bind h fun d u F1 H1 e1 b1 h1 => ⟨F1, d, e1, b1, h1⟩⟩) fun u s1 ⟨x, H1, I1, r1, q1⟩ => PyProof.Rows.args_nil ?_) na) na rfl
  obtain ⟨F1, d, e1, b1, h1⟩ := q1
  have shape : ∃ y, (d = .lst y ∨ d = .tup y) ∧ PostE C W F1 H1 σ (pD C) Q (lenSetD (.lst y)) := by
    cases d with
    | lst y => exact ⟨y, .inl rfl, h1⟩
    | tup y => exact ⟨y, .inr rfl, h1⟩
    | _ => exact h1.elim
  obtain ⟨y, hd, k1⟩ := shape
  have go : ∀ {l : Addr} {ys : List (List Nat)} {c : Nat} {h' : Heap} {tk : Nat} (hI : L2.Inv X pins σ H1 { s1 with heap := h', toks := tk }) (h1 : PostE C W F1 H1 σ (pD C) Q (.ok (.int ((dedT ys).length : Nat)))), ZT.SetRT X.w h' s1.heap.objs.size (fun j => decide (j ∈ ys.map toS)) c →
      wpAny (model X.prog X.w) X.A (call (.builtin "len") [.ref s1.heap.objs.size]) (EP X pins σ Q) X.xe { s1 with heap := h', toks := tk } := fun {l ys c h' tk} I2 h1 R => by
    obtain ⟨o, es, ep, t, ho, hex, hd, g, nd, hm', hb, hf, hn, hr, hl⟩ := R
    have hlen : es.size = (dedT ys).length := by
      have pp := ded_perm (ns := es.toList.map ZT.tkey) (ys := ys) nd fun k => (hm' k).symm
      have := pp.length_eq
      simpa using this
    refine call_len_set ho hex hd hf (by have : es.size ≤ 4096 := hb; omega) ?_
    exact ⟨.int (dedT ys).length, H1, I2.tok _, ⟨_, by rw [hlen]⟩, h1 _ F1 H1 (Ext.refl e1.fh) (rep_int.mpr rfl)⟩
  unfold lenSetD setD at k1
  dsimp only at k1
  split at k1
  · rename_i ys hys
    split at k1
    · rename_i hz
      rcases hd with rfl | rfl
      · obtain ⟨l, us, rfl, qq, rr⟩ := bor_lst e1.fh b1
        obtain rfl : u = Value.ref l := r1
        obtain ⟨eu, hok⟩ := strs_rep hys rr
        rw [← v.K, eu] at qq
        obtain ⟨its, rv, p', hz2⟩ := I1.list qq
        have hS := rv.strs
        refine ZT.call_set_listT (ys.map toS) (I1.ok.hd v.calm) p'.isList (by simpa using hS) (by rw [List.length_map]; show ys.length ≤ 4096; omega) fun h' tk c R hc hk => ?_
        refine PyProof.Rows.args_nil ?_
        exact go (l := l) (I1.kept hk) k1 R
      · obtain ⟨l, us, rfl, qq, rr⟩ := bor_tup e1.fh b1
        obtain rfl : u = Value.ref l := r1
        obtain ⟨eu, hok⟩ := strs_rep hys rr
        rw [← v.K, eu] at qq
        obtain ⟨its, rv, p', hz2⟩ := I1.tuple qq
        have hS := rv.strs
        refine ZT.call_set_tupT (items := its.toArray) (ys.map toS) (I1.ok.hd v.calm) p' (by simpa using hS) (by rw [List.length_map]; show ys.length ≤ 4096; omega) fun h' tk c R hc hk => ?_
        refine PyProof.Rows.args_nil ?_
        exact go (l := l) (I1.kept hk) k1 R
    · exact k1.elim
  · exact k1.elim
end
end
end Z
namespace Z
noncomputable section
open PySem PySem.Spec PySem.P PyProof.Rows L2
section
variable {s : SS} {fe : SS → R D}
def getLk (c : Nat) : Option Sl → Option (List D)
  | some (.lk (.obj k vs)) => if k = c then some vs else none
  | _ => none
@[simp] theorem getLk_o (c : Nat) (vs : List D) : getLk c (some (.lk (.obj c vs))) = some vs := if_pos rfl
theorem lkO_s (c : Nat) (i : Nat) : lkO c s i = getLk c s[i]? := by
  unfold lkO getLk
  rfl
def rFldK (s : SS) (i c' : Nat) (r : R D) : Option (List D) → RS
  | some vs => rE s r fun d s => .nx (s.set i (.lk (.obj c' (vs ++ [d]))))
  | none => .bad
@[simp] theorem rFldK_s (i c' : Nat) (r : R D) (vs : List D) : rFldK s i c' r (some vs) = rE s r fun d s => .nx (s.set i (.lk (.obj c' (vs ++ [d])))) := rfl
@[simp] theorem sFldK_s (i c c' : Nat) : sFldK i c c' fe s = rFldK s i c' (fe s) (getLk c s[i]?) := by
  unfold sFldK
  rw [lkO_s]
  cases getLk c s[i]? <;> rfl
def finK (cN : Nat) : RS → R (List D)
  | .nx s' => (match getLk cN s'[0]? with
    | some vs => .ok vs
    | none => .bad)
  | .ex c vs _ => .ex c vs
  | _ => .bad
theorem runK_s (c0 cN m : Nat) (f : SS → RS) (ds : List D) : runK c0 cN m f ds = finK cN (f (.lk (.obj c0 []) :: (ds.map Sl.sh ++ List.replicate (m - 1 - ds.length) .no))) := by
  unfold runK finK
  cases f (.lk (.obj c0 []) :: (ds.map Sl.sh ++ List.replicate (m - 1 - ds.length) .no)) <;> first | rfl | (dsimp only; rw [lkO_s]; rfl)
@[simp] theorem finK_nx (cN : Nat) (vs : List D) (t : SS) : finK cN (.nx (.lk (.obj cN vs) :: t)) = .ok vs := by
  unfold finK
  simp
@[simp] theorem finK_ex (cN c : Nat) (vs : List D) (t : SS) : finK cN (.ex c vs t) = .ex c vs := rfl
@[simp] theorem finK_ite (cN : Nat) (p : Prop) [Decidable p] (a b : RS) : finK cN (if p then a else b) = if p then finK cN a else finK cN b := by split <;> rfl
@[simp] theorem eMk_s (cN : Nat) (g : List D → R (List D)) (fs : SS → R (List D)) : eMk cN g fs s = (fs s).bind fun ds => (g ds).bind fun vs => .ok (.obj cN vs) := rfl
end
def kS (x : List Nat) : Key := .inr (toS x)
@[simp] theorem keyD_str (x : List Nat) : keyD (.str x) = some (kS x) := rfl
end
end Z
namespace Z
noncomputable section
open PySem PySem.Spec PySem.P PyProof.Rows L2
def soundW (w : List Nat) : Bool := decide (1 ≤ w.length ∧ w.length ≤ 8) && w.all fun c => decide (97 ≤ c ∧ c ≤ 102)
def webOkB (us : List (List Nat)) : Bool := decide (us ≠ []) && us.all soundW && (us.all fun v => us.all fun w => decide (v.length = w.length)) && decide us.Nodup
theorem webOkB_iff {us : List (List Nat)} : webOkB us = true ↔ us ≠ [] ∧ (∀ w ∈ us, soundW w = true) ∧ (∀ v ∈ us, ∀ w ∈ us, v.length = w.length) ∧ us.Nodup := by
  unfold webOkB
  simp only [Bool.and_eq_true, decide_eq_true_eq, List.all_eq_true, and_assoc]
def webR (us : List (List Nat)) : R (List D) := if 64 < us.length then .ex 3 [] else if webOkB us = true then .ok [.tup ((sortT us).map .str), .int ((us.headD []).length : Nat)] else .ex 2 []
theorem ded_len : ∀ {us : List (List Nat)}, (dedT us).length = us.length ↔ us.Nodup
  | [] => by simp [dedT]
  | x :: r => by
    have ih := ded_len (us := r)
    have hle := dedT_le r
    unfold dedT
    by_cases h : x ∈ r
    · rw [if_pos h, List.length_cons, List.nodup_cons]
      exact ⟨fun e => by omega, fun e => absurd h e.1⟩
    · rw [if_neg h, List.length_cons, List.length_cons, List.nodup_cons]
      constructor
      · intro e
        exact ⟨h, ih.mp (by omega)⟩
      · intro e
        rw [ih.mpr e.2]
theorem sortT_mem {us : List (List Nat)} {w : List Nat} : w ∈ sortT us ↔ w ∈ us := (sortT_perm us).mem_iff
end
end Z
namespace Z
noncomputable section
open PySem PySem.Spec PySem.P PyProof.Rows L2
theorem cutL_1 {α : Type} (x : List α) : cutL x (some 1) none = x.tail := by
  rw [cutL_from _ _ (by omega)]
  simp
end
end Z
namespace ZR
open PySem PySem.Spec PyProof.Rows L2 RT
section
variable {prog : Program} {w : World} {A : Around} {E : Value → Shared → Prop} {s : Shared}
end
end ZR
namespace Z
noncomputable section
open PySem PySem.Spec PySem.P PyProof.Rows L2 RT
section
variable {X : Cx} {C : CT} {W : WX}
end
@[simp] theorem sz_1 : 1 ≤ SZ := le_sz (by decide)
@[simp] theorem sz_2 : 2 ≤ SZ := le_sz (by decide)
@[simp] theorem sz_3 : 3 ≤ SZ := le_sz (by decide)
@[simp] theorem sz_4 : 4 ≤ SZ := le_sz (by decide)
@[simp] theorem sz_5 : 5 ≤ SZ := le_sz (by decide)
@[simp] theorem sz_6 : 6 ≤ SZ := le_sz (by decide)
@[simp] theorem sz_7 : 7 ≤ SZ := le_sz (by decide)
@[simp] theorem sz_8 : 8 ≤ SZ := le_sz (by decide)
@[simp] theorem sz_9 : 9 ≤ SZ := le_sz (by decide)
@[simp] theorem sz_10 : 10 ≤ SZ := le_sz (by decide)
end
end Z
namespace Z
noncomputable section
open PySem PySem.Spec PySem.P PyProof.Rows L2
@[simp] theorem ixD_t0 (x : D) (xs : List D) : ixD (.tup (x :: xs)) (.int 0) = .ok x := ixD_t _ _ (by omega) _ rfl
@[simp] theorem ixD_l0 (x : D) (xs : List D) : ixD (.lst (x :: xs)) (.int 0) = .ok x := ixD_l _ _ (by omega) _ rfl
@[simp] theorem ixD_t1 (x y : D) (xs : List D) : ixD (.tup (x :: y :: xs)) (.int 1) = .ok y := ixD_t _ _ (by omega) _ rfl
@[simp] theorem ixD_l1 (x y : D) (xs : List D) : ixD (.lst (x :: y :: xs)) (.int 1) = .ok y := ixD_l _ _ (by omega) _ rfl
@[simp] theorem isN_f (x : D) : isN false x .non = .ok (.bl (isNone x)) := by cases x <;> rfl
@[simp] theorem isN_t (x : D) : isN true x .non = .ok (.bl (!isNone x)) := by cases x <;> rfl
@[simp] theorem isNone_non : isNone .non = true := rfl
@[simp] theorem isNone_obj (c : Nat) (vs : List D) : isNone (.obj c vs) = false := rfl
@[simp] theorem isNone_exc (c : Nat) (vs : List D) : isNone (.exc c vs) = false := rfl
@[simp] theorem isNone_str (x : List Nat) : isNone (.str x) = false := rfl
@[simp] theorem isNone_tup (x : List D) : isNone (.tup x) = false := rfl
@[simp] theorem isNone_lst (x : List D) : isNone (.lst x) = false := rfl
@[simp] theorem isNone_int (x : Int) : isNone (.int x) = false := rfl
@[simp] theorem isNone_dic (ks : List Key) (x : List D) : isNone (.dic ks x) = false := rfl
theorem dep_ls (xs : List (List Nat)) : dep (.lst (xs.map .str)) ≤ 64 := by
  have := depL_strs xs
  simp [dep, this]
theorem eqD_ls (xs ys : List (List Nat)) : eqD (.lst (xs.map .str)) (.lst (ys.map .str)) = .ok (.bl (decide (xs = ys))) := by
  rw [eqD_ok, if_pos ⟨dep_ls xs, dep_ls ys⟩]
  show (R.ok (D.bl (eqvL (xs.map .str) (ys.map .str))) : R D) = _
  rw [eqvL_map]
theorem joinM_ch (x : List Nat) (h : x.length ≤ 16777216) : joinM (.str []) [.lst ((x.map fun c => [c]).map .str)] = .ok (.str x) := by
  have := joinM_one x h
  rw [List.map_map]
  exact this
@[simp] theorem tyN_str' (x : List Nat) : tyN (.str x) = some "str" := rfl
@[simp] theorem tyN_lst' (x : List D) : tyN (.lst x) = some "list" := rfl
end
end Z
namespace Z
noncomputable section
open PySem PySem.Spec PySem.P PyProof.Rows L2
def cws (t : List Nat) (n : Nat) : List (List Nat) := (List.range t.length).map fun k => cyc t k n
theorem cws_count (t : List Nat) (n : Nat) : (cws t n).length = t.length := by simp [cws]
theorem cws_get {t : List Nat} {n k : Nat} (h : k < t.length) : (cws t n)[k]? = some (cyc t k n) := by
  unfold cws
  rw [List.getElem?_map, List.getElem?_range h]
  rfl
def Txt (t : List Nat) : Prop := ∀ c ∈ t, 97 ≤ c ∧ c ≤ 102
@[simp] theorem isN_tb (a b : Bool) : isN true (.bl a) (.bl b) = .ok (.bl (!decide (a = b))) := by
  cases a <;> cases b <;> rfl
@[simp] theorem isN_fb (a b : Bool) : isN false (.bl a) (.bl b) = .ok (.bl (decide (a = b))) := by
  cases a <;> cases b <;> rfl
end
end Z
namespace Z
noncomputable section
open PySem PySem.Spec PySem.P PyProof.Rows L2
def isRingB (ws : List (List Nat)) (n : Nat) (t : List Nat) : Bool := decide (sortT (cws t n) = ws) && decide (cyc t 0 n = ws.headD [])
end
end Z
namespace Z
noncomputable section
open PySem PySem.Spec PySem.P PyProof.Rows L2
def pcs (ws : List (List Nat)) : List (List Nat) := sortT (dedT (ws.map List.dropLast ++ ws.map List.tail))
theorem mem_pcs {ws : List (List Nat)} {p : List Nat} : p ∈ pcs ws ↔ ∃ w ∈ ws, w.dropLast = p ∨ w.tail = p := by
  unfold pcs
  rw [sortT_mem, dedT_mem, List.mem_append, List.mem_map, List.mem_map]
  constructor
  · rintro (⟨w, h, e⟩ | ⟨w, h, e⟩)
    · exact ⟨w, h, .inl e⟩
    · exact ⟨w, h, .inr e⟩
  · rintro ⟨w, h, e | e⟩
    · exact .inl ⟨w, h, e⟩
    · exact .inr ⟨w, h, e⟩
def ows (ws : List (List Nat)) (p : List Nat) : List (List Nat) := ws.filter fun w => decide (w.dropLast = p)
def iws (ws : List (List Nat)) (p : List Nat) : List (List Nat) := ws.filter fun w => decide (w.tail = p)
theorem mem_ows {ws : List (List Nat)} {p w : List Nat} : w ∈ ows ws p ↔ w ∈ ws ∧ w.dropLast = p := by simp [ows]
theorem mem_iws {ws : List (List Nat)} {p w : List Nat} : w ∈ iws ws p ↔ w ∈ ws ∧ w.tail = p := by simp [iws]
def exc (ws : List (List Nat)) (p : List Nat) : Int := (ows ws p).length - (iws ws p).length
theorem exc_perm {us vs : List (List Nat)} (h : us.Perm vs) (p : List Nat) : exc us p = exc vs p := by
  unfold exc ows iws
  rw [(h.filter _).length_eq, (h.filter _).length_eq]
def excS (ws S : List (List Nat)) : Int := (S.map (exc ws)).sum
def adj (ws : List (List Nat)) (p : List Nat) : List (List Nat) := (ows ws p).map List.tail ++ (iws ws p).map List.dropLast
theorem mem_adj {ws : List (List Nat)} {p q : List Nat} : q ∈ adj ws p ↔ ∃ w ∈ ws, (w.dropLast = p ∧ w.tail = q) ∨ (w.tail = p ∧ w.dropLast = q) := by
  unfold adj
  rw [List.mem_append, List.mem_map, List.mem_map]
  constructor
  · rintro (⟨w, h, e⟩ | ⟨w, h, e⟩)
    · exact ⟨w, (mem_ows.mp h).1, .inl ⟨(mem_ows.mp h).2, e⟩⟩
    · exact ⟨w, (mem_iws.mp h).1, .inr ⟨(mem_iws.mp h).2, e⟩⟩
  · rintro ⟨w, h, ⟨e, f⟩ | ⟨e, f⟩⟩
    · exact .inl ⟨w, mem_ows.mpr ⟨h, e⟩, f⟩
    · exact .inr ⟨w, mem_iws.mpr ⟨h, e⟩, f⟩
theorem adj_pcs {ws : List (List Nat)} {p q : List Nat} (h : q ∈ adj ws p) : q ∈ pcs ws := by
  obtain ⟨w, hw, ⟨_, e⟩ | ⟨_, e⟩⟩ := mem_adj.mp h
  · exact mem_pcs.mpr ⟨w, hw, .inr e⟩
  · exact mem_pcs.mpr ⟨w, hw, .inl e⟩
theorem adj_symm {ws : List (List Nat)} {p q : List Nat} (h : q ∈ adj ws p) : p ∈ adj ws q := by
  obtain ⟨w, hw, ⟨e, f⟩ | ⟨e, f⟩⟩ := mem_adj.mp h
  · exact mem_adj.mpr ⟨w, hw, .inr ⟨f, e⟩⟩
  · exact mem_adj.mpr ⟨w, hw, .inl ⟨f, e⟩⟩
inductive Rch (ws : List (List Nat)) (p : List Nat) : List Nat → Prop where
  | here : Rch ws p p
  | step {q r : List Nat} : Rch ws p q → r ∈ adj ws q → Rch ws p r
theorem Rch.pcs {ws : List (List Nat)} {p q : List Nat} (hp : p ∈ pcs ws) (h : Rch ws p q) : q ∈ pcs ws := by
  cases h with
  | here => exact hp
  | step _ a => exact adj_pcs a
theorem Rch.trans {ws : List (List Nat)} {p q r : List Nat} (h : Rch ws p q) (k : Rch ws q r) : Rch ws p r := by
  induction k with
  | here => exact h
  | step _ a ih => exact .step ih a
theorem Rch.symm {ws : List (List Nat)} {p q : List Nat} (h : Rch ws p q) : Rch ws q p := by
  induction h with
  | here => exact .here
  | step _ a ih => exact (Rch.step .here (adj_symm a)).trans ih
def comp (ws : List (List Nat)) (p : List Nat) : List (List Nat) := by
  classical exact (pcs ws).filter fun q => decide (Rch ws p q)
end
end Z
namespace Z
noncomputable section
open PySem PySem.Spec PySem.P PyProof.Rows L2
theorem nodup_le {l m : List (List Nat)} (h : l.Nodup) (hs : ∀ x ∈ l, x ∈ m) : l.length ≤ m.length := nodup_len h hs
def sUneven : List Nat := [117, 110, 101, 118, 101, 110]
def sApart : List Nat := [97, 112, 97, 114, 116]
def paperD (k : List Nat) (S : List (List Nat)) : D := .tup [.str k, .tup (S.map .str)]
def apartD (ws : List (List Nat)) : D := if (comp ws ((pcs ws).headD [])).length < (pcs ws).length then paperD sApart (comp ws ((pcs ws).headD [])) else .non
end
end Z
namespace Z
noncomputable section
open PySem PySem.Spec PySem.P PyProof.Rows L2
theorem exc_snoc (us : List (List Nat)) (w x : List Nat) : exc (us ++ [w]) x = exc us x + (if w.dropLast = x then 1 else 0) - (if w.tail = x then 1 else 0) := by
  unfold exc ows iws
  rw [List.filter_append, List.filter_append]
  by_cases h1 : w.dropLast = x <;> by_cases h2 : w.tail = x <;> simp [h1, h2] <;> omega
end
end Z
namespace Z
noncomputable section
open PySem PySem.Spec PySem.P PyProof.Rows L2
end
end Z
namespace Z
noncomputable section
open PySem PySem.Spec PySem.P PyProof.Rows L2
def Walk : List Nat → List (List Nat) → List Nat → Prop
  | p, [], q => p = q
  | p, w :: r, q => w.dropLast = p ∧ Walk w.tail r q
theorem exc_cons (us : List (List Nat)) (w x : List Nat) : exc (w :: us) x = exc us x + (if w.dropLast = x then 1 else 0) - (if w.tail = x then 1 else 0) := by
  have := exc_perm (us := w :: us) (vs := us ++ [w]) (List.perm_append_comm (l₁ := [w]) (l₂ := us)) x
  rw [this, exc_snoc]
theorem Walk.exc : ∀ {us : List (List Nat)} {p q : List Nat}, Walk p us q → ∀ x, Z.exc us x = (if p = x then 1 else 0) - (if q = x then 1 else 0)
  | [], p, q, h, x => by
    have h : p = q := h
    subst h
    show Z.exc [] x = _
    simp [Z.exc, ows, iws]
  | w :: us, p, q, h, x => by
    rw [exc_cons, Walk.exc h.2 x, h.1]
    omega
end
end Z
namespace Z
noncomputable section
open PySem PySem.Spec PySem.P PyProof.Rows L2
theorem pick_int (xs : List Int) (n i : Int) (hl : (xs.length : Int) = n) (h : 0 < n) : ∃ x, x ∈ xs ∧ ixD (.lst (xs.map .int)) (.int (i % n)) = .ok (.int x) := by
  obtain ⟨d, hd, e⟩ := pick_mod (xs.map D.int) n i (by simpa using hl) h
  obtain ⟨x, hx, rfl⟩ := List.mem_map.mp hd
  exact ⟨x, hx, e⟩
end
end Z
namespace Z
noncomputable section
open PySem PySem.Spec PySem.P PyProof.Rows L2
end
end Z
namespace Z
noncomputable section
open PySem PySem.Spec PySem.P PyProof.Rows L2
def rowS (ws : List (List Nat)) : List (List Nat) := (pcs ws).filter fun p => decide (0 < exc ws p)
def rowD (ws : List (List Nat)) : D := if 1 < excS ws (rowS ws) then paperD sUneven (rowS ws) else apartD ws
theorem Walk.excS {us : List (List Nat)} {p q : List Nat} (h : Walk p us q) : ∀ {S : List (List Nat)}, S.Nodup → Z.excS us S = (if p ∈ S then 1 else 0) - (if q ∈ S then 1 else 0)
  | [], _ => by simp [Z.excS]
  | x :: S, hn => by
    rw [List.nodup_cons] at hn
    have ih := Walk.excS h hn.2
    have e : Z.excS us (x :: S) = Z.exc us x + Z.excS us S := rfl
    rw [e, ih, h.exc x]
    have hp : (if p ∈ x :: S then (1 : Int) else 0) = (if p = x then 1 else 0) + (if p ∈ S then 1 else 0) := by
      by_cases c : p = x
      · subst c; simp [hn.1]
      · simp [c]
    have hq : (if q ∈ x :: S then (1 : Int) else 0) = (if q = x then 1 else 0) + (if q ∈ S then 1 else 0) := by
      by_cases c : q = x
      · subst c; simp [hn.1]
      · simp [c]
    rw [hp, hq]
    omega
end
end Z
namespace Z
noncomputable section
open PySem PySem.Spec PySem.P PyProof.Rows L2
end
end Z
namespace Z
noncomputable section
open PySem PySem.Spec PySem.P PyProof.Rows L2
def zipW (xs ys : List D) : List D := List.zipWith (fun x y => .tup [x, y]) xs ys
def zipLD : List D → R (List D)
  | [.lst xs, .lst ys] => .ok (zipW xs ys)
  | _ => .bad
def zipSD : List D → R (List D)
  | [.lst xs, .str y] => .ok (zipW xs (y.map fun c => .str [c]))
  | _ => .bad
def zipD : List D → R (List D)
  | [.lst xs, .lst ys] => .ok (zipW xs ys)
  | [.lst xs, .str y] => .ok (zipW xs (y.map fun c => .str [c]))
  | _ => .bad
theorem zipD_either (ds : List D) : zipD ds = zipLD ds ∨ zipD ds = zipSD ds := by
  unfold zipD zipLD zipSD
  split
  · exact .inl rfl
  · exact .inr rfl
  · rename_i h1 h2
    left
    split
    · exact (h1 _ _ rfl).elim
    · rfl
def enuD : List D → R (List D)
  | [.lst xs] => .ok (xs.mapIdx fun i x => .tup [.int (i : Nat), x])
  | _ => .bad
def i_zip (fs : SS → R (List D)) : SS → R (List D) := fun s => (fs s).bind zipD
def i_enumerate (fs : SS → R (List D)) : SS → R (List D) := fun s => (fs s).bind enuD
@[simp] theorem i_zip_s (fs : SS → R (List D)) (s : SS) : i_zip fs s = (fs s).bind zipD := rfl
@[simp] theorem i_enumerate_s (fs : SS → R (List D)) (s : SS) : i_enumerate fs s = (fs s).bind enuD := rfl
@[simp] theorem zipD_l (xs ys : List D) : zipD [.lst xs, .lst ys] = .ok (zipW xs ys) := rfl
@[simp] theorem zipD_s (xs : List D) (y : List Nat) : zipD [.lst xs, .str y] = .ok (zipW xs (y.map fun c => .str [c])) := rfl
@[simp] theorem enuD_l (xs : List D) : enuD [.lst xs] = .ok (xs.mapIdx fun i x => .tup [.int (i : Nat), x]) := rfl
theorem rep_pair {G : GE} {F H : Hp} {T : Addr} {x y : V} {d e : D} (f : Same F H) (hT : H T = none) (r1 : Rep G F d x) (r2 : Rep G F e y) : Rep G (upd F T (.tup [x, y])) (.tup [d, e]) (.ref T) := by
  have s := same_new (o := .tup [x, y]) (f.free hT)
  exact rep_tup.mpr ⟨T, [x, y], rfl, SqT.of upd_same, RepL.cons (Rep.mono s r1) (RepL.cons (Rep.mono s r2) RepL.nil)⟩
theorem it_zip {G : GE} {K : PySem.W.Frag} (hK : K = G.K) {F : Hp} {a b : Addr} {us vs : List V} {xs ys : List D} (q1 : SqL G.K F a us) (r1 : RepL G F xs us) (q2 : SqL G.K F b vs) (r2 : RepL G F ys vs) : ItOk G F (Itz K a b) (zipW xs ys) where
  go := fun i F' H' f h hi => by
    subst hK
    unfold zipW at hi
    rw [List.length_zipWith] at hi
    have h1 : i < us.length := by rw [r1.length]; omega
    have h2 : i < vs.length := by rw [r2.length]; omega
    exact ⟨us, vs, us[i], vs[i], h.seq (f.seq q1), h.seq (f.seq q2), by simp [h1], by simp [h2]⟩
  yld := fun i F' H' x H'' f h hi y => by
    subst hK
    obtain ⟨T, u, v, rfl, hT, rfl, y1, y2⟩ := y
    obtain ⟨d, e1, p1⟩ := r1.get' (y1 us (h.seq (f.seq q1)))
    obtain ⟨e, e2, p2⟩ := r2.get' (y2 vs (h.seq (f.seq q2)))
    exact ⟨upd F' T (.tup [u, v]), .tup [d, e], Ext.new h hT, by unfold zipW; rw [List.getElem?_zipWith, e1, e2], rep_pair h hT (Rep.mono f p1) (Rep.mono f p2)⟩
  stop := fun i F' H' f h hi => by
    subst hK
    unfold zipW at hi
    rw [List.length_zipWith] at hi
    have h1 := r1.length
    have h2 := r2.length
    exact ⟨us, vs, h.seq (f.seq q1), h.seq (f.seq q2), by omega⟩
def Izs (K : PySem.W.Frag) (a : Addr) (x : Str) : It where
  go := fun i H => i < x.cps.size ∧ ∃ (us : List V) (u : V), SqL K H a us ∧ us[i]? = some u
  yld := fun i H v H' => ∃ (T : Addr) (u : V) (c : Nat), v = .ref T ∧ x.cps[i]? = some c ∧ H T = none ∧ H' = upd H T (.tup [u, .str ⟨#[c]⟩]) ∧ ∀ us, SqL K H a us → us[i]? = some u
  stop := fun i H => ∃ us : List V, SqL K H a us ∧ (x.cps.size ≤ i ∨ us.length ≤ i)
theorem nn {p q : Nat} (h : p ≠ q) : (p : Addr) ≠ q := h
theorem nm1 {a b : Nat} (h : a ≠ b) : (a : Addr) ∉ ([b] : List Addr) := fun e => h (List.mem_singleton.mp e)
theorem nm2 {a b c : Nat} (h : a ≠ b) (k : a ≠ c) : (a : Addr) ∉ ([b, c] : List Addr) := fun e => by
  rcases List.mem_cons.mp e with e | e
  · exact h e
  · exact nm1 k e
theorem sep_zs {N a : Nat} (h : a < N) : ZipSep2 (N + 4) (N + 2) (N + 3) N (N + 1) [N, a] [N + 1] where
  TIz := nn (by omega)
  TOz := nn (by omega)
  TITO := nn (by omega)
  TIi1 := nn (by omega)
  TIi2 := nn (by omega)
  mem1 := List.mem_cons_self ..
  mem2 := List.mem_cons_self ..
  zf1 := nm2 (by omega) (by omega)
  zf2 := nm1 (by omega)
  Tf1 := nm2 (by omega) (by omega)
  Tf2 := nm1 (by omega)
  sep1_2 := nm1 (by omega)
  sep2_1 := nm2 (by omega) (by omega)
section
variable {P : Program} {w : World} {K : PySem.W.Frag} {es : List Expr} {kk : Nat} {tp : Pos}
theorem turn_zs {a z Ti To j1 j2 : Addr} {x : Str} {t : Tok} (S : ZipSep2 z Ti To j1 j2 [j1, a] [j2]) (hja : a ≠ j1) :
    Turn P w K (.Tuple es kk tp) (Izs K a x) [z, Ti, To, j1, j2] z
      (fun i h => (IsZip h z Ti To .none ∧ IsTupOf2 h Ti (.ref j1) (.ref j2) ∧ ∃ p q, IsTupOf2 h To p q) ∧ h.IsListIter j1 a i ∧ h.IsStrIter j2 (strIterType x) x t i ∧ i ≤ x.cps.size) where
  mem := List.mem_cons_self ..
  obj := fun i h st c hc => by
    obtain ⟨⟨sz, sT, p, q, sO⟩, ⟨o1, e1, -, d1⟩, ⟨o2, e2, -, d2⟩, -⟩ := st
    simp only [List.mem_cons, List.not_mem_nil, or_false] at hc
    rcases hc with rfl | rfl | rfl | rfl | rfl
    · exact ⟨_, sz, fun v e => nomatch e⟩
    · exact ⟨_, sT, fun v e => nomatch e⟩
    · exact ⟨_, sO, fun v e => nomatch e⟩
    · exact ⟨o1, e1, fun v e => by rw [d1] at e; cases e⟩
    · exact ⟨o2, e2, fun v e => by rw [d2] at e; cases e⟩
  keep := fun i h h' st k => by
    obtain ⟨⟨sz, sT, p, q, sO⟩, s1, ⟨o2, e2, r2⟩, hle⟩ := st
    refine ⟨⟨k z ?_ _ sz, k Ti ?_ _ sT, p, q, k To ?_ _ sO⟩, s1.at fun o e => k j1 ?_ o e, ⟨o2, k j2 ?_ o2 e2, r2⟩, hle⟩ <;> simp
  item := by
    intro X hP hw hK hc i pins s σ H E I hf st hg
    subst hP hw hK
    obtain ⟨⟨sz, sT, p, q, sO⟩, s1, s2, -⟩ := st
    obtain ⟨hlt, us, u, qu, hu⟩ := hg
    obtain ⟨its, rv, pl, -⟩ := I.list qu
    obtain ⟨v, hv, ru⟩ := rv.get hu
    have hz := Heap.lt_size sz
    have hi1 : i < its.toArray.size := by
      have := (List.getElem?_eq_some_iff.mp hv).1
      simpa using this
    have D1 := Draws.list (prog := X.prog) (w := X.w) (A := X.A.in1) (I.ok.hd hc) j1 a hja its.toArray
    have D2 := Draws.text (prog := X.prog) (w := X.w) (A := X.A.in1) (I.ok.hd hc) j2 x t
    refine wpAny_pyNext_zipD2_item S D1 D2 sz sT sO ⟨s1, pl.isList⟩ s2 hi1 hlt ?_
    intro y1 y2 h' tk hy1 hy2 z' O' d1 d2 hT hsz hk
    obtain ⟨c, m, hxc, rfl⟩ := hy2
    have : y1 = v := by simpa [hv] using hy1.symm
    subst this
    refine ⟨_, rfl, wpAny_letOwnedTupleGo_zip (s := { s with heap := h', toks := tk }) z' fun h2 z2 sb => ?_⟩
    have hTs : h2.get? s.heap.objs.size = some { cls := .type "tuple", data := .seq #[y1, .str ⟨#[c]⟩ m] } := (sb.2 _ (Nat.ne_of_gt hz)).trans hT
    have fresh := I.hok.fresh (Nat.le_refl s.heap.objs.size)
    have new : ObjOk X.prog X.w (upd H s.heap.objs.size (.tup [u, .str ⟨#[c]⟩])) h2 s.heap.objs.size (.tup [u, .str ⟨#[c]⟩]) := by
      refine ⟨?_, [y1, .str ⟨#[c]⟩ m], .cons ru (.cons ⟨m, rfl⟩ .nil), _, hTs, rfl, _, rfl⟩
      show 2 ≤ sizeLine
      decide
    have off : ∀ b o, b ∉ [z, Ti, To, j1, j2] → s.heap.get? b = some o → h2.get? b = some o := fun b o nb e => by
      simp only [List.mem_cons, List.not_mem_nil, or_false, not_or] at nb
      obtain ⟨n1, n2, n3, n4, n5⟩ := nb
      exact (sb.2 b n1).trans (hk b o n1 n3 n4 n5 e)
    have J : Inv X pins σ (upd H s.heap.objs.size (.tup [u, .str ⟨#[c]⟩])) { s with heap := h2, toks := tk } := I.turnedNew off hf (Nat.le_refl _) new
    refine ⟨.ref s.heap.objs.size, _, J, rfl, ⟨_, u, c, rfl, hxc, fresh, rfl, fun us2 q2 => by rw [I.list_inj q2 qu]; exact hu⟩, ⟨⟨z2, ?_, y1, .str ⟨#[c]⟩ m, ?_⟩, ?_, ?_, hlt⟩, fun b hb => ?_⟩
    · exact (sb.2 _ S.TIz).trans (hk _ _ S.TIz S.TITO S.TIi1 S.TIi2 sT)
    · exact (sb.2 _ S.TOz).trans O'
    · exact d1.1.at fun o e => (sb.2 _ S.zi1.symm).trans e
    · obtain ⟨o2, e2, r2⟩ := d2
      exact ⟨o2, (sb.2 _ S.zi2.symm).trans e2, r2⟩
    · have hlt : b < s.heap.objs.size := by
        obtain ⟨_, l1, -⟩ := s1
        obtain ⟨_, l2, -⟩ := s2
        simp only [List.mem_cons, List.not_mem_nil, or_false] at hb
        rcases hb with rfl | rfl | rfl | rfl | rfl
        · exact hz
        · exact Heap.lt_size sT
        · exact Heap.lt_size sO
        · exact Heap.lt_size l1
        · exact Heap.lt_size l2
      rw [upd_ne (Nat.ne_of_lt hlt)]
      exact (hf b hb).1
  done := by
    intro X hP hw hK hc i pins s σ H E I hf st hg
    subst hP hw hK
    obtain ⟨⟨sz, sT, p, q, sO⟩, s1, s2, hle⟩ := st
    obtain ⟨us, qu, hend⟩ := hg
    obtain ⟨its, rv, pl, -⟩ := I.list qu
    have hl := rv.length
    have n2 : ∀ h' tk, (∀ c o, c ≠ z → c ≠ To → c ≠ j1 → c ≠ j2 → s.heap.get? c = some o → h'.get? c = some o) → Inv X pins σ H { s with heap := h', toks := tk } := fun h' tk hk =>
      I.turnedL (ch := [z, Ti, To, j1, j2]) (fun b o nb e => by
        simp only [List.mem_cons, List.not_mem_nil, or_false, not_or] at nb
        obtain ⟨n1, n2, n3, n4, n5⟩ := nb
        exact hk b o n1 n3 n4 n5 e) hf
    have D1 := Draws.list (prog := X.prog) (w := X.w) (A := X.A.in1) (I.ok.hd hc) j1 a hja its.toArray
    have D2 := Draws.text (prog := X.prog) (w := X.w) (A := X.A.in1) (I.ok.hd hc) j2 x t
    have hz : its.toArray.size = us.length := by simp; omega
    by_cases c : i ≤ us.length
    · exact wpAny_pyNext_zipD2_end S D1 D2 sz sT sO ⟨s1, pl.isList⟩ s2 (by omega) hle (by omega) fun h' tk hk => ⟨rfl, n2 h' tk hk⟩
    · have D3 : Draws X.prog X.w X.A.in1 j1 [j1, a] i (fun _ _ => False) (fun j h => j = i ∧ h.IsListIter j1 a j ∧ h.IsList a its.toArray) :=
        ⟨fun j h st => D1.live j h st.2, fun j h h' st k => ⟨st.1, D1.frame j h h' st.2 k⟩, fun j s Q E hj st _ => absurd st.1 (Nat.ne_of_lt hj), fun s Q E st hE => wpAny_nextOf_list_end (I.ok.hd hc) st.2.1 st.2.2 (Array.getElem?_eq_none (by omega)) hE⟩
      exact wpAny_pyNext_zipD2_end S D3 D2 sz sT sO ⟨rfl, s1, pl.isList⟩ s2 (Nat.le_refl _) hle (.inl rfl) fun h' tk hk => ⟨rfl, n2 h' tk hk⟩
  self := fun A i s Q E st h => wpAny_pyIter_zip st.1.1 h
def iZs (K : PySem.W.Frag) (ta : TA) : TI := fun σ H R => ta σ H fun vs H1 => ∃ (a : Addr) (us : List V) (x : Str), vs = [.ref a, .str x] ∧ SqL K H1 a us ∧ R (Izs K a x) H1
theorem pi_zs {X : Cx} {e e2 : Expr} {ta : TA} {p pos : Pos} (hg : Gl X "zip") (hm : X.mg "zip" = none) (ha : PA X [e, e2] ta)
    (hs : starEach [e, e2] X.env = (false, eval e X.env) :: starEach [e2] X.env := by rfl) (hpl : (backTo pos (starEach [e2] X.env)).any (·.1) = false := by rfl) :
    PI X (.Tuple es kk tp) (.Call (.Name "zip" p) [e, e2] [] pos) (iZs X.K ta) := by
  refine ⟨fun pins s σ H R I h => Call_ (ld_blt I hg hm PyProof.Rows.boot_zip (callWith_type1 (thn (ha.run pos pins s σ H _ I h) ?_) hs hpl))⟩
  rintro ws s1 ⟨vs, H1, J, r1, a, us, x, rfl, qu, hR⟩
  obtain ⟨u1, u2, rfl, e1, e2⟩ : ∃ u1 u2, ws = [u1, u2] ∧ RelV (.ref a) u1 ∧ RelV (.str x) u2 := by
    cases r1 with
    | cons r rr => cases rr with
      | cons r' rr => cases rr; exact ⟨_, _, rfl, r, r'⟩
  cases e1
  obtain ⟨t, rfl⟩ := e2
  obtain ⟨its, rv, pl, -⟩ := J.list qu
  have la : a < s1.heap.objs.size := pl.lt
  refine zip_begins2 (begins_list a its.toArray) (begins_text x t) pl.isList trivial fun h' hz hT hO g1 g2 hsz hk => wpAny_pyIter_zip hz ?_
  have J2 : Inv X pins σ H1 { s1 with heap := h' } := J.kept (t' := s1.toks) hk
  refine ⟨_, _, _, _, H1, rfl, J2, turn_zs (x := x) (t := t) (sep_zs la) (nn (Nat.ne_of_lt la)), ⟨⟨hz, hT, _, _, hO⟩, ⟨_, g1, rfl, rfl⟩, ⟨_, g2, rfl, rfl⟩, Nat.zero_le _⟩, fun c hc => ?_, hR⟩
  have hle : s1.heap.objs.size ≤ c := by
    simp only [List.mem_cons, List.not_mem_nil, or_false] at hc
    rcases hc with rfl | rfl | rfl | rfl | rfl
    · exact Nat.le_add_right _ 4
    · exact Nat.le_add_right _ 2
    · exact Nat.le_add_right _ 3
    · exact Nat.le_refl _
    · exact Nat.le_add_right _ 1
  exact J.fpOk hle (J.hok.fresh hle)
end
theorem it_zs {G : GE} {K : PySem.W.Frag} (hK : K = G.K) {F : Hp} {a : Addr} {us : List V} {xs : List D} {y : List Nat} (hy : okS y = true) (q1 : SqL G.K F a us) (r1 : RepL G F xs us) : ItOk G F (Izs K a ⟨y.toArray⟩) (zipW xs (y.map fun c => .str [c])) where
  go := fun i F' H' f h hi => by
    subst hK
    unfold zipW at hi
    rw [List.length_zipWith, List.length_map] at hi
    have h1 : i < us.length := by rw [r1.length]; omega
    refine ⟨?_, us, us[i], h.seq (f.seq q1), by simp [h1]⟩
    show i < y.toArray.size
    rw [List.size_toArray]
    omega
  yld := fun i F' H' x H'' f h hi z => by
    subst hK
    obtain ⟨T, u, c, rfl, hc, hT, rfl, y1⟩ := z
    obtain ⟨d, e1, p1⟩ := r1.get' (y1 us (h.seq (f.seq q1)))
    have hc' : y[i]? = some c := by
      have hc : y.toArray[i]? = some c := hc
      simpa using hc
    refine ⟨upd F' T (.tup [u, .str ⟨#[c]⟩]), .tup [d, .str [c]], Ext.new h hT, ?_, rep_pair h hT (Rep.mono f p1) (rep_str.mpr ⟨rfl, ?_⟩)⟩
    · unfold zipW
      rw [List.getElem?_zipWith, e1, List.getElem?_map, hc']
      rfl
    · unfold okS at hy ⊢
      have := List.all_eq_true.mp hy c (List.mem_of_getElem? hc')
      simpa using this
  stop := fun i F' H' f h hi => by
    subst hK
    unfold zipW at hi
    rw [List.length_zipWith, List.length_map] at hi
    have h1 := r1.length
    refine ⟨us, h.seq (f.seq q1), ?_⟩
    show y.toArray.size ≤ i ∨ _
    rw [List.size_toArray]
    omega
theorem it_enum {G : GE} {K : PySem.W.Frag} (hK : K = G.K) {F : Hp} {a : Addr} {us : List V} {xs : List D} (q1 : SqL G.K F a us) (r1 : RepL G F xs us) : ItOk G F (Ite K a) (xs.mapIdx fun i x => .tup [.int (i : Nat), x]) where
  go := fun i F' H' f h hi => by
    subst hK
    rw [List.length_mapIdx] at hi
    have h1 : i < us.length := by rw [r1.length]; omega
    exact ⟨us, us[i], h.seq (f.seq q1), by simp [h1]⟩
  yld := fun i F' H' x H'' f h hi y => by
    subst hK
    obtain ⟨T, u, rfl, hT, rfl, y1⟩ := y
    obtain ⟨d, e1, p1⟩ := r1.get' (y1 us (h.seq (f.seq q1)))
    exact ⟨upd F' T (.tup [.int (i : Nat), u]), .tup [.int (i : Nat), d], Ext.new h hT, by simp [e1], rep_pair h hT (rep_int.mpr rfl) (Rep.mono f p1)⟩
  stop := fun i F' H' f h hi => by
    subst hK
    rw [List.length_mapIdx] at hi
    have h1 := r1.length
    exact ⟨us, h.seq (f.seq q1), by omega⟩
section
variable {X : Cx} {C : CT} {W : WX} {a b : Expr} {elts : List Expr} {kk : Nat} {tpos pos p : Pos} {fs : SS → R (List D)}
theorem s_zipL (v : Pq X C W) (hg : Gl X "zip") (hm : X.mg "zip" = none) (ha : PA X [a, b] (tA C W fs)) (hs : starEach [a, b] X.env = (false, eval a X.env) :: starEach [b] X.env) (hpl : (backTo pos (starEach [b] X.env)).any (·.1) = false) : PI X (.Tuple elts kk tpos) (.Call (.Name "zip" p) [a, b] [] pos) (tI C W fun s => (fs s).bind zipLD) := by
  refine pi_imp (pi_zip hg hm ha hs hpl) fun σ H Q ⟨F, sd, S, h⟩ => ?_
  refine ⟨F, sd, S, PostI.bindA (P1 := pD C) h fun ds vs F1 H1 e1 r h1 => ?_⟩
  unfold zipLD at h1
  split at h1
  · rename_i xs ys
    obtain ⟨u, w, rfl, b1, b2⟩ := pair2 r
    obtain ⟨l1, us, rfl, q1, r1⟩ := rep_lst.mp b1
    obtain ⟨l2, ws, rfl, q2, r2⟩ := rep_lst.mp b2
    refine ⟨l1, l2, us, ws, rfl, by rw [v.K]; exact e1.fh.seq q1, by rw [v.K]; exact e1.fh.seq q2, ?_⟩
    exact h1 _ F1 H1 (Ext.refl e1.fh) (it_zip v.K q1 r1 q2 r2)
  · exact h1.elim
theorem s_zipS (v : Pq X C W) (hg : Gl X "zip") (hm : X.mg "zip" = none) (ha : PA X [a, b] (tA C W fs)) (hs : starEach [a, b] X.env = (false, eval a X.env) :: starEach [b] X.env) (hpl : (backTo pos (starEach [b] X.env)).any (·.1) = false) : PI X (.Tuple elts kk tpos) (.Call (.Name "zip" p) [a, b] [] pos) (tI C W fun s => (fs s).bind zipSD) := by
  refine pi_imp (pi_zs hg hm ha hs hpl) fun σ H Q ⟨F, sd, S, h⟩ => ?_
  refine ⟨F, sd, S, PostI.bindA (P1 := pD C) h fun ds vs F1 H1 e1 r h1 => ?_⟩
  unfold zipSD at h1
  split at h1
  · rename_i xs y
    obtain ⟨u, w, rfl, b1, b2⟩ := pair2 r
    obtain ⟨l1, us, rfl, q1, r1⟩ := rep_lst.mp b1
    obtain ⟨rfl, hy⟩ := rep_str.mp b2
    refine ⟨l1, us, ⟨y.toArray⟩, rfl, by rw [v.K]; exact e1.fh.seq q1, ?_⟩
    exact h1 _ F1 H1 (Ext.refl e1.fh) (it_zs v.K hy q1 r1)
  · exact h1.elim
theorem s_zip (v : Pq X C W) (hg : Gl X "zip") (hm : X.mg "zip" = none) (ha : PA X [a, b] (tA C W fs)) (hs : starEach [a, b] X.env = (false, eval a X.env) :: starEach [b] X.env := by rfl) (hpl : (backTo pos (starEach [b] X.env)).any (·.1) = false := by rfl) : PI X (.Tuple elts kk tpos) (.Call (.Name "zip" p) [a, b] [] pos) (tI C W (i_zip fs)) := by
  refine ⟨fun pins s σ H Q I ⟨F, sd, S, h⟩ => ?_⟩
  have e : i_zip fs sd = (fs sd).bind zipLD ∨ i_zip fs sd = (fs sd).bind zipSD := by
    show (fs sd).bind zipD = _ ∨ (fs sd).bind zipD = _
    cases fs sd with
    | ok ds => exact zipD_either ds
    | ex c vs => exact .inl rfl
    | bad => exact .inl rfl
  rcases e with e | e
  · rw [e] at h
    exact (s_zipL v hg hm ha hs hpl).run pins s σ H Q I ⟨F, sd, S, h⟩
  · rw [e] at h
    exact (s_zipS v hg hm ha hs hpl).run pins s σ H Q I ⟨F, sd, S, h⟩
theorem s_enumerate (v : Pq X C W) (hg : Gl X "enumerate") (hm : X.mg "enumerate" = none) (ha : PA X [a] (tA C W fs)) (hs : starEach [a] X.env = [(false, eval a X.env)] := by rfl) : PI X (.Tuple elts kk tpos) (.Call (.Name "enumerate" p) [a] [] pos) (tI C W (i_enumerate fs)) := by
  refine pi_imp (pi_enum hg hm ha hs) fun σ H Q ⟨F, sd, S, h⟩ => ?_
  refine ⟨F, sd, S, PostI.bindA (P1 := pD C) h fun ds vs F1 H1 e1 r h1 => ?_⟩
  unfold enuD at h1
  split at h1
  · rename_i xs
    obtain ⟨u, rfl, b1⟩ := pair1 r
    obtain ⟨l1, us, rfl, q1, r1⟩ := rep_lst.mp b1
    refine ⟨l1, us, rfl, by rw [v.K]; exact e1.fh.seq q1, ?_⟩
    exact h1 _ F1 H1 (Ext.refl e1.fh) (it_enum v.K q1 r1)
  · exact h1.elim
end
end
end Z
namespace Z
noncomputable section
open PySem PySem.Spec PySem.P PyProof.Rows L2
def itf (f : List Nat → List Nat) : Nat → List Nat → List Nat
  | 0, w => w
  | i + 1, w => f (itf f i w)
theorem itf_add (f : List Nat → List Nat) (j : Nat) (w : List Nat) : ∀ i, itf f (i + j) w = itf f i (itf f j w)
  | 0 => by rw [Nat.zero_add]; rfl
  | i + 1 => by
    rw [Nat.succ_add]
    show f (itf f (i + j) w) = f (itf f i (itf f j w))
    rw [itf_add f j w i]
structure PermOn (A : List (List Nat)) (f : List Nat → List Nat) : Prop where
  into : ∀ w ∈ A, f w ∈ A
  inj : ∀ v ∈ A, ∀ w ∈ A, f v = f w → v = w
theorem PermOn.mem {A : List (List Nat)} {f : List Nat → List Nat} (h : PermOn A f) {w : List Nat} (hw : w ∈ A) : ∀ i, itf f i w ∈ A
  | 0 => hw
  | i + 1 => h.into _ (h.mem hw i)
theorem PermOn.cancel {A : List (List Nat)} {f : List Nat → List Nat} (h : PermOn A f) {v w : List Nat} (hv : v ∈ A) (hw : w ∈ A) : ∀ i, itf f i v = itf f i w → v = w
  | 0, e => e
  | i + 1, e => h.cancel hv hw i (h.inj _ (h.mem hv i) _ (h.mem hw i) e)
def Back (f : List Nat → List Nat) (w : List Nat) (r : Nat) : Prop := 1 ≤ r ∧ itf f r w = w ∧ ∀ j, 0 < j → j < r → itf f j w ≠ w
theorem least_of {P : Nat → Prop} {m : Nat} (h : P m) : ∃ r, P r ∧ r ≤ m ∧ ∀ j, j < r → ¬ P j := by
  induction m using Nat.strongRecOn with
  | _ m ih =>
    by_cases c : ∃ j, j < m ∧ P j
    · obtain ⟨j, hj, hp⟩ := c
      obtain ⟨r, a, b, d⟩ := ih j hj hp
      exact ⟨r, a, by omega, d⟩
    · exact ⟨m, h, Nat.le_refl _, fun j hj hp => c ⟨j, hj, hp⟩⟩
theorem PermOn.back {A : List (List Nat)} {f : List Nat → List Nat} (h : PermOn A f) {w : List Nat} (hw : w ∈ A) : ∃ r, Back f w r ∧ r ≤ A.length := by
  have ex : ∃ m, (1 ≤ m ∧ itf f m w = w) ∧ m ≤ A.length := by
    refine Classical.byContradiction fun no => ?_
    have nd : ((List.range (A.length + 1)).map fun i => itf f i w).Nodup := by
      refine List.pairwise_map.mpr (List.pairwise_iff_getElem.mpr fun i j hi hj hij e => ?_)
      simp only [List.getElem_range] at e
      have hj' : j < A.length + 1 := by simpa using hj
      have e2 : itf f i (itf f (j - i) w) = itf f i w := by
        rw [← itf_add, show i + (j - i) = j by omega]
        exact e.symm
      exact no ⟨j - i, ⟨by omega, h.cancel (h.mem hw _) hw i e2⟩, by omega⟩
    have := nodup_le nd (fun x hx => by
      obtain ⟨i, _, rfl⟩ := List.mem_map.mp hx
      exact h.mem hw i)
    simp at this
    omega
  obtain ⟨m, hm, hl⟩ := ex
  obtain ⟨r, ⟨a, b⟩, c, d⟩ := least_of (P := fun m => 1 ≤ m ∧ itf f m w = w) hm
  exact ⟨r, ⟨a, b, fun j hj hjr e => d j hjr ⟨hj, e⟩⟩, by omega⟩
theorem Back.mod {f : List Nat → List Nat} {w : List Nat} {r : Nat} (h : Back f w r) : ∀ i, itf f i w = itf f (i % r) w := fun i => by
  have go : ∀ q m, itf f (m + r * q) w = itf f m w := fun q => by
    induction q with
    | zero => intro m; rw [Nat.mul_zero, Nat.add_zero]
    | succ q ih =>
      intro m
      rw [Nat.mul_succ, ← Nat.add_assoc, itf_add, h.2.1, ih]
  have := go (i / r) (i % r)
  rw [Nat.mod_add_div] at this
  exact this
def Orb (f : List Nat → List Nat) (v w : List Nat) : Prop := ∃ i, itf f i v = w
theorem Orb.trans {f : List Nat → List Nat} {u v w : List Nat} : Orb f u v → Orb f v w → Orb f u w
  | ⟨i, a⟩, ⟨j, b⟩ => ⟨j + i, by rw [itf_add, a, b]⟩
theorem Orb.symm {A : List (List Nat)} {f : List Nat → List Nat} (h : PermOn A f) {v w : List Nat} (hv : v ∈ A) (o : Orb f v w) : Orb f w v := by
  obtain ⟨i, rfl⟩ := o
  obtain ⟨r, hb, _⟩ := h.back hv
  have hm := Nat.mod_lt i (show 0 < r from hb.1)
  refine ⟨r - i % r, ?_⟩
  rw [hb.mod i, ← itf_add, show r - i % r + i % r = r by omega]
  exact hb.2.1
def minL : List (List Nat) → List Nat
  | [] => []
  | y :: ys => minT y ys
theorem minL_spec {us : List (List Nat)} (h : us ≠ []) : minL us ∈ us ∧ ∀ x ∈ us, ¬ x < minL us := by
  cases us with
  | nil => exact absurd rfl h
  | cons y ys => exact minT_spec ys y
theorem min1D_l (us : List (List Nat)) (h : us ≠ []) : min1D [.lst (us.map .str)] = .ok (.str (minL us)) := by
  cases us with
  | nil => exact absurd rfl h
  | cons y ys => exact min1D_s y ys
end
end Z
namespace Z
noncomputable section
open PySem PySem.Spec PySem.P PyProof.Rows L2
end
end Z
namespace Z
noncomputable section
open PySem PySem.Spec PySem.P PyProof.Rows L2
section
variable {X : Cx} {C : CT} {W : WX} {e : Expr} {fe : SS → R D}
end
end
end Z
namespace Z
noncomputable section
open PySem PySem.Spec PySem.P PyProof.Rows L2
theorem mapD_filterM {α : Type} {step : D → R (Option D)} (c : α → D) (p : α → Bool) (g : α → D) : ∀ (l : List α), (∀ a ∈ l, step (c a) = .ok (if p a = true then some (g a) else none)) → mapD step (l.map c) = .ok ((l.filter p).map g)
  | [], _ => rfl
  | a :: l, h => by
    rw [List.map_cons]
    unfold mapD
    rw [h a (by simp), mapD_filterM c p g l fun e he => h e (by simp [he])]
    by_cases q : p a = true
    · simp [q]
    · simp [q]
theorem comp_filterM {α : Type} {step : D → R (Option D)} {p : α → Bool} (c g : α → D) (l : List α) (hl : l.length ≤ 16777216) (h : ∀ a ∈ l, step (c a) = .ok (if p a = true then some (g a) else none)) : rComp (mapD step (l.map c)) = .ok (.lst ((l.filter p).map g)) :=
  rComp_of (mapD_filterM c p g l h) (by simpa using Nat.le_trans (List.length_filter_le p l) hl)
end
end Z
namespace Z
noncomputable section
open PySem PySem.Spec PySem.P PyProof.Rows L2
theorem Walk.nth : ∀ {us : List (List Nat)} {p q : List Nat} {i : Nat} {w v : List Nat}, Walk p us q → us[i]? = some w → us[i + 1]? = some v → w.tail = v.dropLast
  | [], p, q, i, w, v, h, h1, h2 => by simp at h1
  | u :: [], p, q, i, w, v, h, h1, h2 => by simp at h2
  | u :: x :: us, p, q, 0, w, v, h, h1, h2 => by
    simp at h1 h2
    rw [← h1, ← h2]
    exact h.2.1.symm
  | u :: x :: us, p, q, i + 1, w, v, h, h1, h2 => Walk.nth (us := x :: us) (i := i) h.2 (by simpa using h1) (by simpa using h2)
theorem Walk.last : ∀ {us : List (List Nat)} {p q : List Nat} {i : Nat} {w : List Nat}, Walk p us q → us[i]? = some w → i + 1 = us.length → w.tail = q
  | [], p, q, i, w, h, h1, h2 => by simp at h1
  | u :: [], p, q, i, w, h, h1, h2 => by
    have : i = 0 := by simpa using h2
    subst this
    simp at h1
    rw [← h1]
    exact h.2
  | u :: x :: us, p, q, 0, w, h, h1, h2 => by simp at h2
  | u :: x :: us, p, q, i + 1, w, h, h1, h2 => Walk.last (us := x :: us) (i := i) h.2 (by simpa using h1) (by simpa using h2)
theorem Walk.next {us : List (List Nat)} {p : List Nat} {i : Nat} {w v : List Nat} (h : Walk p us p) (h1 : us[i]? = some w) (h2 : us[(i + 1) % us.length]? = some v) : w.tail = v.dropLast := by
  have hi := (List.getElem?_eq_some_iff.mp h1).1
  by_cases hl : i + 1 = us.length
  · rw [hl, Nat.mod_self] at h2
    rw [h.last h1 hl]
    cases us with
    | nil => simp at h2
    | cons u us =>
      simp at h2
      rw [← h2]
      exact h.1.symm
  · rw [Nat.mod_eq_of_lt (by omega)] at h2
    exact h.nth h1 h2
theorem Walk.letters {us : List (List Nat)} {p : List Nat} {n : Nat} (h : Walk p us p) (hl : ∀ w ∈ us, w.length = n) : ∀ j i w, us[i]? = some w → j < n → w.getD j 0 = (us.map fun w => w.headD 0).getD ((i + j) % us.length) 0
  | 0, i, w, h1, h2 => by
    have hi := (List.getElem?_eq_some_iff.mp h1).1
    rw [Nat.add_zero, Nat.mod_eq_of_lt hi, List.getD_eq_getElem?_getD, List.getD_eq_getElem?_getD, List.getElem?_map, h1]
    cases w <;> rfl
  | j + 1, i, w, h1, h2 => by
    have hi := (List.getElem?_eq_some_iff.mp h1).1
    have hm : (i + 1) % us.length < us.length := Nat.mod_lt _ (by omega)
    obtain ⟨v, hv⟩ : ∃ v, us[(i + 1) % us.length]? = some v := ⟨_, List.getElem?_eq_getElem hm⟩
    have hn := h.next h1 hv
    have ih := Walk.letters h hl j _ v hv (by omega)
    have vl := hl v (List.mem_of_getElem? hv)
    have wl := hl w (List.mem_of_getElem? h1)
    have e1 : w.getD (j + 1) 0 = w.tail.getD j 0 := by rw [List.getD_eq_getElem?_getD, List.getD_eq_getElem?_getD, List.getElem?_tail]
    have e2 : v.dropLast.getD j 0 = v.getD j 0 := by rw [List.getD_eq_getElem?_getD, List.getD_eq_getElem?_getD, List.getElem?_dropLast, if_pos (by omega)]
    rw [e1, hn, e2, ih]
    congr 1
    rw [Nat.add_mod, Nat.mod_mod, ← Nat.add_mod, show i + 1 + j = i + (j + 1) by omega]
theorem Walk.cws {us : List (List Nat)} {p : List Nat} {n : Nat} (h : Walk p us p) (hl : ∀ w ∈ us, w.length = n) : Z.cws (us.map fun w => w.headD 0) n = us := by
  refine List.ext_getElem? fun i => ?_
  by_cases hi : i < us.length
  · rw [cws_get (by simpa using hi)]
    obtain ⟨w, hw⟩ : ∃ w, us[i]? = some w := ⟨_, List.getElem?_eq_getElem hi⟩
    rw [hw]
    have wl := hl w (List.mem_of_getElem? hw)
    congr 1
    rw [← wl]
    refine cyc_ext fun j hj => ?_
    rw [List.length_map]
    exact (h.letters hl j i w hw (by omega)).symm
  · rw [List.getElem?_eq_none (by rw [cws_count, List.length_map]; omega), List.getElem?_eq_none (by omega)]
end
end Z
namespace Z
noncomputable section
open PySem PySem.Spec PySem.P PyProof.Rows L2
section
variable {X : Cx} {C : CT} {W : WX} {a b c e : Expr} {es : List Expr} {fa fb fc fe f : SS → R D} {pos pos' lpos p p2 apos ip : Pos} {jj : Nat} {fs : SS → R (List D)} {x y : Str} {i j : Nat}
end
section
variable {s : SS} {fe : SS → R D}
end
def doneW (r : List Nat) (a b c d : Nat) : List Nat := r.take a ++ (r.drop c).take (d - c) ++ (r.drop b).take (c - b) ++ (r.drop a).take (b - a) ++ r.drop d
end
end Z
namespace Z
noncomputable section
open PySem PySem.Spec PySem.P PyProof.Rows L2
def alongL (r : List Nat) (n : Nat) : List (List Nat) := (cws r n).map List.dropLast ++ [(cyc r 0 n).dropLast]
def ordB (al : List (List Nat)) (a b c d : Int) : Bool := decide (1 ≤ a ∧ a < b ∧ b ≤ c ∧ c < d ∧ d < al.length)
def fitB (al : List (List Nat)) (a b c d : Int) : Bool := ordB al a b c d && ((al.getD a.toNat [] == al.getD c.toNat []) && (al.getD b.toNat [] == al.getD d.toNat []))
end
end Z
namespace Z
noncomputable section
open PySem PySem.Spec PySem.P PyProof.Rows L2
def quad (a b c d : Nat) : D := .tup [.int a, .int b, .int c, .int d]
structure WkP (ws : List (List Nat)) (n L : Nat) (rs : List (List Nat)) (ds : List D) : Prop where
  len : rs.length = ds.length + 1
  ok : ∀ t ∈ rs, isRingB ws n t = true ∧ t.length = L ∧ (cws t n).Nodup
  st : ∀ (i : Nat) (d : D) (t : List Nat), ds[i]? = some d → rs[i]? = some t → ∃ a b c e : Nat, d = quad a b c e ∧ fitB (alongL t n) a b c e = true ∧ rs[i + 1]? = some (doneW t a b c e)
theorem WkP.tup {ws : List (List Nat)} {n L : Nat} {rs : List (List Nat)} {ds : List D} (p : WkP ws n L rs ds) : ∀ d ∈ ds, ∃ a b c e : Nat, d = quad a b c e := fun d hd => by
  obtain ⟨i, hi, rfl⟩ := List.getElem_of_mem hd
  have hl := p.len
  obtain ⟨t, ht⟩ : ∃ t, rs[i]? = some t := ⟨_, List.getElem?_eq_getElem (by omega)⟩
  obtain ⟨a, b, c, e, h, -⟩ := p.st i _ t (List.getElem?_eq_getElem hi) ht
  exact ⟨a, b, c, e, h⟩
end
end Z
namespace Z
noncomputable section
open PySem PySem.Spec PySem.P PyProof.Rows L2
section
variable {X : Cx} {C : CT} {W : WX} {a : Expr} {fa : SS → R D} {pos : Pos} {f : Str} {c j : Nat}
end
section
variable {X : Cx} {o e : Expr} {es : List Expr} {ta : TA} {y : Str} {D : Addr} {p1 p2 pos : Pos}
theorem pe_clsinit {pl : Sem Bool} (hg : Gl X y) (hm : X.mg y = some (.ref D)) (h1 : PySem.W.specialIn X.K (.ref D) "__getattribute__" = some (some (.builtin "type.__getattribute__"))) (h2 : PySem.W.typeIn X.K (.ref D) = some (.type "type"))
    (h3 : PySem.W.readsIn X.K D (.type "type") = true) (vV : PySem.W.findCls X.K (.ref D) (.type "type") "__init__" = some (.val (.builtin "ValueError.__init__"))) (ha : PA X (e :: es) ta) (hdb : (y == ("__debug__" : Str)) = false := by decide)
    (hc : eval (.Call (.Attribute (.Name y p1) "__init__" p2) (e :: es) [] pos) X.env = (do
      let ov ← eval (.Name y p1) X.env
      standAt p2.atName
      let (f, first) ← holding [ov] (getMethod ov "__init__" pl)
      callWith pos f first (backTo pos (starEach (e :: es) X.env)) (backToKw pos (keywordEach [] X.env))) := by rfl)
    (he : starEach (e :: es) X.env = (false, eval e X.env) :: starEach es X.env := by rfl) (hpl : (backTo pos (starEach es X.env)).any (·.1) = false := by rfl) :
    PE X (.Call (.Attribute (.Name y p1) "__init__" p2) (e :: es) [] pos) (tVeI X.K ta) := by
  refine ⟨fun pins s σ H Q I h => ?_⟩
  refine PySem.W.methodCall_KW (ld_glob I hg hm ?_ hdb) hc
  obtain ⟨m, fr⟩ := I.fr
  refine PySem.W.method_of_cls fr I.ok.mod.kin h1 (PySem.W.cls_val fr I.ok.mod.kin h2 h3 vV (by decide +kernel) ?_)
  show wpAny _ _ (callWith pos (Value.builtin "ValueError.__init__") [] (backTo pos (starEach (e :: es) X.env)) []) _ _ _
  refine PyProof.Rows.callWith_method1 (thn (ha.run pos pins _ σ H _ (I.tok _) h) fun us s1 ⟨vs, H1, I1, r1, a, C, ws, ev, hl, T, ea, q⟩ => ?_) he hpl
  subst ev
  cases r1 with
  | @cons _ u0 _ ur ra rw' =>
    obtain rfl : u0 = Value.ref a := ra
    have hlen : ur.length ≤ sizeLine := by
      rw [← Paired.length rw', sizeLine_eq]
      omega
    exact oinit_ok T I1 ea hlen fun s' J => ⟨.non, H1, J, rfl, q⟩
end
def spEx (K : PySem.W.Frag) (fl : Str) : Sp := fun vs H Q E => ∃ (a C : Addr) (m y : V), vs = [.ref a, m, y] ∧ OexC K C ∧ PySem.W.findIn K (.ref C) fl = some none ∧ H a = some (L2.exo a C none) ∧ ∀ dx, H dx = none → dx ≠ a → Q .non (upd (upd H dx (L2.exd dx [(fl, y)])) a (L2.exo a C (some dx)))
theorem exinit_ok {P : Program} {w : World} {K : PySem.W.Frag} {mg : Str → Option Value} {base : Heap} {x qual : Str} {st : Stmt} {f : Addr} {fd : FuncData} {N ps : List Str} {k : Nat} {fl : Str}
    (Fu : Fun K x qual st f fd) (S : FnScope N ps (defScope st)) (hps : ps.length = 3) (hN : N.length = 3)
    (hb : ∀ (cdv : Value) (A : Around) (outer : List PySem.Env) (s : Shared) (H : Hp) (E : XK), Room k (A.deeper (envOfC qual (defScope st) s.heap.objs.size f cdv)) →
      PSs (cxOf (L2.CX P w) P w K mg base N qual (defScope st) f cdv A outer s H E) (defBody st) (tSeq (tDrop (tVeI K (tCons (tVar 0) (tCons (tVar 1) tNil)))) (tSeq (tOst K fl (tVar 0) (tVar 2)) tNext))) :
    FnOk P w K mg base (L2.CX P w) (k + 1) f fd ps (spEx K fl) := by
  refine Fu.okX S (fun vs H Q E h => ?_) (fun cdv A outer s H vs Q E hr h => ?_)
  · obtain ⟨a, C, m, y, rfl, _⟩ := h
    rw [hps]
    rfl
  · obtain ⟨a, C, m, y, rfl, T, hno, ha, hq⟩ := h
    refine ⟨_, hb cdv A outer s H E hr, ?_⟩
    have s0 : ∀ i, i < 3 → (L2.start N [.ref a, m, y])[i]? = ([.ref a, m, y] : List V)[i]?.map some := fun i hi => by
      unfold L2.start
      rw [List.getElem?_append_left (by simpa using hi), List.getElem?_map]
    refine ⟨_, s0 0 (by omega), _, s0 1 (by omega), a, C, [m], rfl, by simp, T, ha, ?_⟩
    exact ⟨_, s0 2 (by omega), _, s0 0 (by omega), a, C, rfl, T, hno, .inl ⟨ha, fun dx h1 h2 => hq dx h1 h2⟩⟩
structure XmkC (P : Program) (w : World) (K : PySem.W.Frag) (mg : Str → Option Value) (base : Heap) (G : GE) (x : Str) (c : Nat) (fl : Str) (k : Nat) : Prop where
  ex : ∃ A f fd ps, FnOk P w K mg base (L2.CX P w) k f fd ps (spEx K fl) ∧ mg x = some (.ref A) ∧ OexC K A ∧ PySem.W.findIn K (.ref A) fl = some none ∧ PySem.W.findIn K (.ref A) "__init__" = some (some (.ref f)) ∧ PySem.W.typeIn K (.ref f) = some (.type "function") ∧ Binds K fd ps [] ∧ G.xcl c = some (A, [fl])
def sRaiseF (c : Nat) (fe : SS → R D) : SS → RS := sE fe fun d s => .ex c [d] s
section
variable {X : Cx} {C : CT} {W : WX} {e : Expr} {fe : SS → R D} {x fl m : Str} {j c k : Nat} {p p2 pos pos' : Pos}
theorem s_raiseF (v : Pl X C W) (T : XmkC X.prog X.w X.K X.mg X.base C.G x c fl k) (hr : Room (k + 1) X.A) (hg : Gl X x) (he : PE X e (tD C W fe)) (hdb : (x == ("__debug__" : Str)) = false := by decide)
    (hs1 : starEach [.Constant (.str m) j p2, e] X.env = (false, eval (.Constant (.str m) j p2) X.env) :: starEach [e] X.env := by rfl) (hs2 : starEach [e] X.env = (false, eval e X.env) :: starEach [] X.env := by rfl)
    (hpl : (backTo pos (starEach [e] X.env)).any (·.1) = false := by rfl) :
    PS X (.Raise (some (.Call (.Name x p) [.Constant (.str m) j p2, e] [] pos)) none pos') (tS C W (sRaiseF c fe)) := by
  obtain ⟨A, f, fd, ps, F1, hm, O, hno, hi, ht, hb, hx⟩ := T.ex
  refine ps_imp (ps_raise v.calm v.tk (pmk_oex O hi ht F1 hr hb (.nil) ?_ hg hm (pa_cons pe_str (pa_cons he pa_nil hs2) hs1) hdb hs1 hpl)) fun En σ H ⟨F, sd, S, h⟩ => ?_
  · rintro pins σ H s e s' I ⟨_, _, _, _, _, _, _, _, _, _, _, _, z⟩
    exact z.elim
  · refine ⟨F, sd, S, postS_E S h fun d y F1 H1 e1 r h1 => ⟨by simp, fun a ha => ?_⟩⟩
    refine ⟨a, A, .str m, y, rfl, O, hno, upd_same, fun dx h2 h3 => ?_⟩
    have hdx : H1 dx = none := by rw [upd_ne h3] at h2; exact h2
    have e2 : upd (del (upd (upd (upd H1 a (L2.exo a A none)) dx (L2.exd dx [(fl, y)])) a (L2.exo a A (some dx))) a) dx (.xd [(fl, y)]) = upd H1 dx (.xd [(fl, y)]) := by
      funext b
      by_cases hb : b = dx
      · subst hb; rw [upd_same, upd_same]
      · rw [upd_ne hb, upd_ne hb]
        by_cases hba : b = a
        · subst hba; rw [del_same, ha]
        · rw [del_ne hba, upd_ne hba, upd_ne hb, upd_ne hba]
    refine ⟨rfl, dx, [(fl, y)], upd_same, by rw [upd_ne h3, upd_same], hdx, ?_⟩
    rw [e2]
    have e3 := Ext.new (o := .xd [(fl, y)]) e1.fh hdx
    have S1 := (S.mono e1).mono e3
    exact h1 (.ref A) (some dx) (upd F1 dx (.xd [(fl, y)])) _ σ S1 (e1.ff.trans e3.ff) Lk.refl ⟨A, [fl], hx, rfl, .inr ⟨dx, [(fl, y)], rfl, upd_same, rfl, RepL.cons (Rep.mono e3.ff r) RepL.nil⟩⟩
end
section
variable {s : SS} {fe : SS → R D}
@[simp] theorem sRaiseF_s (c : Nat) : sRaiseF c fe s = rE s (fe s) fun d s => .ex c [d] s := rfl
end
structure BaseC (K : PySem.W.Frag) (mg : Str → Option Value) (y : Str) : Prop where
  ex : ∃ D, mg y = some (.ref D) ∧ PySem.W.specialIn K (.ref D) "__getattribute__" = some (some (.builtin "type.__getattribute__")) ∧ PySem.W.typeIn K (.ref D) = some (.type "type") ∧ PySem.W.readsIn K D (.type "type") = true ∧ PySem.W.findCls K (.ref D) (.type "type") "__init__" = some (.val (.builtin "ValueError.__init__"))
end
end Z
namespace Z
noncomputable section
open PySem PySem.Spec PySem.P PyProof.Rows L2
theorem ItL.length {G : GE} {F H : Hp} {ds : List D} {vs : List V} {L : List Addr} (h : ItL G F H ds vs L) : vs.length = ds.length := by
  induction h with
  | nil => rfl
  | sh _ _ _ ih => simp [ih]
  | ow _ _ _ ih => simp [ih]
theorem ItL.get {G : GE} {F H : Hp} {ds : List D} {vs : List V} {L : List Addr} (h : ItL G F H ds vs L) : ∀ {j : Nat} {es : List D}, ds[j]? = some (.lst es) → ∃ b xs, vs[j]? = some (.ref b) ∧ H b = some (.lst xs) ∧ RepL G F es xs ∧ b ∈ L := by
  induction h with
  | nil => intro j es e; simp at e
  | sh n r t ih =>
    intro j es e
    cases j with
    | zero => simp at e; exact absurd e (n es)
    | succ j =>
      obtain ⟨b, xs, h1, h2, h3, h4⟩ := ih (by simpa using e)
      exact ⟨b, xs, by simpa using h1, h2, h3, h4⟩
  | ow h r t ih =>
    intro j es e
    cases j with
    | zero =>
      simp at e
      subst e
      exact ⟨_, _, rfl, h, r, List.mem_cons_self ..⟩
    | succ j =>
      obtain ⟨b, xs, h1, h2, h3, h4⟩ := ih (by simpa using e)
      exact ⟨b, xs, by simpa using h1, h2, h3, List.mem_cons_of_mem _ h4⟩
end
end Z
namespace Z
noncomputable section
open PySem PySem.Spec PySem.P PyProof.Rows L2
section
variable {X : Cx} {C : CT} {W : WX} {a b c e : Expr} {fa fb fc fe fi f : SS → R D} {pos pos' p p1 p2 apos : Pos} {x y : Str} {i j r : Nat}
end
section
variable {X : Cx} {C : CT} {W : WX} {elt tg iter : Expr} {ifs : List Expr} {fi : SS → R (List D)} {pos : Pos} {ft : FG} {vs : List Nat} {fc fe : SS → R D}
end
end
end Z
namespace Z
noncomputable section
open PySem PySem.Spec PySem.P PyProof.Rows L2
section
variable {X : Cx} {C : CT} {W : WX} {a b c e ea eb : Expr} {fa fb fc fe fi f : SS → R D} {pos pos' p p1 p2 p3 apos : Pos} {x y z : Str} {i j r : Nat}
end
section
variable {X : Cx} {C : CT} {W : WX} {a b c e ea eb : Expr} {fa fb fc fe fi f : SS → R D} {pos pos' p p1 p2 p3 apos : Pos} {x y z : Str} {i j r : Nat}
end
end
end Z
namespace Z
noncomputable section
open PySem PySem.Spec PySem.P PyProof.Rows L2
section
variable {X : Cx} {C : CT} {W : WX} {a b c e : Expr} {fa fb fc fe fi f : SS → R D} {pos pos' p p1 p2 px py pz pf apos : Pos} {x y z xf : Str} {i j r k n : Nat} {fs : SS → R (List D)}
end
end
end Z
namespace Z
noncomputable section
open PySem PySem.Spec PySem.P PyProof.Rows L2
section
variable {X : Cx} {C : CT} {W : WX} {f' : SS → RS} {x y p q : Str} {i jp jq r : Nat} {rest : List Stmt} {p1 p2 p3 p4 p5 p6 p7 p8 p9 pa pb pc pd pe pf : Pos}
end
section
variable {X : Cx} {C : CT} {W : WX} {e : Expr} {fe : SS → R D}
end
section
variable {s : SS} {fa fb fc fe : SS → R D} {f : SS → RS}
@[simp] theorem canS_pt (i j : Nat) : canS (some (.pt i j)) = true := rfl
@[simp] theorem canS_ntf (d : D) : canS (some (.nt false d)) = true := rfl
end
end
end Z
namespace Z
noncomputable section
open PySem PySem.Spec PySem.P PyProof.Rows L2
abbrev Fn := List Nat → Int
def ex (r : Nat → Int) : Fn → List Nat → Int
  | _, [] => 0
  | g, c :: cs => r c * g cs - ex r (fun x => g (c :: x)) cs
def dt : List (Nat → Int) → Fn
  | [] => fun cs => if cs = [] then 1 else 0
  | r :: rs => ex r (dt rs)
def CSw (g : Fn) : Prop := ∀ (l t : List Nat) (a b : Nat), g (l ++ a :: b :: t) = - g (l ++ b :: a :: t)
theorem CSw.cons {g : Fn} (h : CSw g) (c : Nat) : CSw (fun x => g (c :: x)) := fun l t a b => h (c :: l) t a b
end
end Z
namespace Z
noncomputable section
open PySem PySem.Spec PySem.P PyProof.Rows L2
def red (A : List (Nat → Int)) (cs : List Nat) (r : Nat → Int) : Nat → Int := fun j => dt (A ++ [r]) (cs ++ [j])
end
end Z
namespace Z
noncomputable section
open PySem PySem.Spec PySem.P PyProof.Rows L2
structure Sq (n : Nat) (M : List (List Int)) : Prop where
  len : M.length = n
  row : ∀ r ∈ M, r.length = n
def at2 (M : List (List Int)) (a b : Nat) : Int := (M.getD a []).getD b 0
def fnR (M : List (List Int)) : List (Nat → Int) := M.map fun r c => r.getD c 0
def fnA (M : List (List Int)) (a : Nat) : Nat → Int := fun c => at2 M a c
theorem fnR_get {M : List (List Int)} {a : Nat} (h : a < M.length) : (fnR M)[a]? = some (fnA M a) := by
  unfold fnR fnA at2
  rw [List.getElem?_map, List.getD_eq_getElem?_getD, List.getElem?_eq_getElem h]
  rfl
theorem fnR_take {M : List (List Int)} {k : Nat} (h : k < M.length) : (fnR M).take (k + 1) = (fnR M).take k ++ [fnA M k] := by
  rw [List.take_succ, fnR_get h]
  rfl
abbrev cols (n : Nat) : List Nat := List.range n
structure Bar (n : Nat) (S B M : List (List Int)) (k : Nat) (sgn last : Int) : Prop where
  kn : k < n
  sb : Sq n B
  sm : Sq n M
  one : sgn = 1 ∨ sgn = -1
  det : dt (fnR S) (cols n) = sgn * dt (fnR B) (cols n)
  mem : ∀ r ∈ B, r ∈ S
  lst : last = dt ((fnR B).take k) (cols k)
  ne : last ≠ 0
  ent : ∀ i j, k ≤ i → i < n → k ≤ j → j < n → at2 M i j = red ((fnR B).take k) (cols k) (fnA B i) j
theorem Bar.next {n : Nat} {S B M M' : List (List Int)} {k : Nat} {sgn last : Int} (h : Bar n S B M k sgn last) (hk1 : k + 1 < n) (hp : at2 M k k ≠ 0) (sm : Sq n M') (hM : ∀ i j, k < i → i < n → k < j → j < n → at2 M' i j = red ((fnR B).take (k + 1)) (cols (k + 1)) (fnA B i) j) : Bar n S B M' (k + 1) sgn (at2 M k k) := by
  have hb := h.sb.len
  have e : at2 M k k = dt ((fnR B).take (k + 1)) (cols (k + 1)) := by
    rw [h.ent k k (by omega) (by omega) (by omega) (by omega), fnR_take (by omega), show cols (k + 1) = cols k ++ [k] from List.range_succ]
    rfl
  exact ⟨hk1, h.sb, sm, h.one, h.det, h.mem, e, hp, fun i j hi hi2 hj hj2 => hM i j (by omega) hi2 (by omega) hj2⟩
end
end Z
namespace Z
noncomputable section
open PySem PySem.Spec PySem.P PyProof.Rows L2
section
variable {s : SS} {fa fb fc fe : SS → R D} {f : SS → RS}
end
@[simp] theorem bnd_rm {g : SS → RS} {s : SS} (d : D) : bnd (.rm d s) g = .rm d s := rfl
@[simp] theorem bnd_rn {g : SS → RS} {s : SS} (i : Nat) : bnd (.rn i s) g = .rn i s := rfl
section
variable {s : SS} {fa fb fc fe : SS → R D} {fi fs : SS → R (List D)} {ft : FG} {vs : List Nat}
end
end
end Z
namespace Z
noncomputable section
open PySem PySem.Spec PySem.P PyProof.Rows L2
section
variable {G : GE} {F H : Hp}
end
section
variable {X : Cx} {C : CT} {W : WX} {a b c e ek : Expr} {fk fe : SS → R D} {pos pos' p lp apos sapos spos : Pos} {x : Str} {i : Nat}
end
end
end Z
namespace Z
noncomputable section
open PySem PySem.Spec PySem.P PyProof.Rows L2
def Inn (f : List (Option Nat)) : Prop := ∀ t ∈ f, ∀ j, t = some j → j < f.length
theorem Inn.set {f : List (Option Nat)} (h : Inn f) {i : Nat} {t : Option Nat} (ht : ∀ j, t = some j → j < f.length) : Inn (f.set i t) := fun u hu j e => by
  rw [List.length_set]
  rcases List.mem_or_eq_of_mem_set hu with hu | rfl
  · exact h u hu j e
  · exact ht j e
end
end Z
namespace Z
noncomputable section
open PySem PySem.Spec PySem.P PyProof.Rows L2
section
variable {s : SS} {fe fb : SS → R D} {i r j : Nat} {kb : Bool} {M : List (List Int)}
end
theorem forL_step {step : D → SS → RS} {d : D} {ds : List D} {s s' : SS} (h : step d s = .nx s') : forL step (d :: ds) s = forL step ds s' := by
  conv => lhs; unfold forL
  rw [h]
end
end Z
namespace Z
noncomputable section
open PySem PySem.Spec PySem.P PyProof.Rows L2
def splL (c : Nat) : List Nat → List (List Nat)
  | [] => [[]]
  | a :: r => if a = c then [] :: splL c r else match splL c r with
    | p :: q => (a :: p) :: q
    | [] => [[a]]
theorem splL_ne (c : Nat) : ∀ l : List Nat, ∃ p q, splL c l = p :: q
  | [] => ⟨_, _, rfl⟩
  | a :: r => by
    obtain ⟨p, q, e⟩ := splL_ne c r
    unfold splL
    by_cases h : a = c
    · rw [if_pos h]; exact ⟨_, _, rfl⟩
    · rw [if_neg h, e]; exact ⟨_, _, rfl⟩
theorem splL_pos {c : Nat} {r : List Nat} : splL c (c :: r) = [] :: splL c r := by
  conv => lhs; unfold splL
  rw [if_pos rfl]
theorem splL_neg {c a : Nat} {r p : List Nat} {q : List (List Nat)} (h : a ≠ c) (e : splL c r = p :: q) : splL c (a :: r) = (a :: p) :: q := by
  conv => lhs; unfold splL
  rw [if_neg h, e]
theorem splL_none {c : Nat} : ∀ {l : List Nat}, c ∉ l → splL c l = [l]
  | [], _ => rfl
  | a :: r, h => splL_neg (fun e => h (e ▸ List.mem_cons_self ..)) (splL_none fun m => h (List.mem_cons_of_mem _ m))
theorem splL_app {c : Nat} : ∀ {l r : List Nat}, c ∉ l → splL c (l ++ c :: r) = l :: splL c r
  | [], r, _ => splL_pos
  | a :: l, r, h => splL_neg (fun e => h (e ▸ List.mem_cons_self ..)) (splL_app fun m => h (List.mem_cons_of_mem _ m))
theorem splL_okS {c : Nat} : ∀ {l : List Nat}, okS l = true → ∀ p ∈ splL c l, okS p = true
  | [], h, p, hp => by rw [List.mem_singleton.mp hp]; rfl
  | a :: r, h, p, hp => by
    have ha : okS [a] = true := okS_mem h (List.mem_cons_self ..)
    have hr : okS r = true := by
      have := okS_drop 1 h
      exact this
    have ih := splL_okS (c := c) hr
    obtain ⟨p0, q0, e⟩ := splL_ne c r
    by_cases hc : a = c
    · subst hc
      rw [splL_pos] at hp
      rcases List.mem_cons.mp hp with rfl | hp
      · rfl
      · exact ih p hp
    · rw [splL_neg hc e] at hp
      rw [e] at ih
      rcases List.mem_cons.mp hp with rfl | hp
      · exact okS_append ha (ih p0 (List.mem_cons_self ..))
      · exact ih p (List.mem_cons_of_mem _ hp)
theorem occ_one (x : Str) (c limit : Nat) : ∀ (l : List Nat) (f : Array Nat) (free : Nat), (∀ i ∈ l, free ≤ i) → l.Pairwise (· < ·) → f.size + l.length ≤ limit →
    ((forIn l (f, free) (StrLaws.occBody x ⟨#[c]⟩ x.length limit)).run.fst.toList = f.toList ++ l.filter fun i => decide (x.cps.toList[i]? = some c))
  | [], f, free, _, _, _ => by simp
  | a :: l, f, free, h, hp, hl => by
    rw [List.length_cons] at hl
    obtain ⟨p1, p2⟩ := List.pairwise_cons.mp hp
    rw [List.forIn_cons]
    have hb : (StrLaws.occBody x ⟨#[c]⟩ x.length limit a (f, free) : Id _) = if x.cps.toList[a]? = some c then ForInStep.yield (f.push a, a + 1) else ForInStep.yield (f, free) := by
      unfold StrLaws.occBody
      dsimp only
      have h1 : f.size < limit ∧ free ≤ a := ⟨by omega, h a (List.mem_cons_self ..)⟩
      by_cases q : x.cps.toList[a]? = some c
      · rw [if_pos q, if_pos ⟨⟨h1, (StrLaws.subAt_one x c a).mpr q |>.1⟩, ((StrLaws.subAt_one x c a).mpr q).2⟩]
        rfl
      · rw [if_neg q, if_neg (fun z => q ((StrLaws.subAt_one x c a).mp ⟨z.1.2, z.2⟩))]
        rfl
    rw [hb]
    by_cases q : x.cps.toList[a]? = some c
    · rw [if_pos q, List.filter_cons_of_pos (by simpa using q)]
      have ih := occ_one x c limit l (f.push a) (a + 1) (fun i hi => p1 i hi) p2 (by simp; omega)
      rw [Array.toList_push] at ih
      rw [List.append_assoc] at ih
      exact ih
    · rw [if_neg q, List.filter_cons_of_neg (by simpa using q)]
      exact occ_one x c limit l f free (fun i hi => h i (List.mem_cons_of_mem _ hi)) p2 (by omega)
theorem parts_spl (x : Str) (c : Nat) : ∀ (n a : Nat), a + n = x.cps.toList.length → (StrLaws.partsFrom x 1 a ((List.range' a n).filter fun i => decide (x.cps.toList[i]? = some c))).map (fun s => s.cps.toList) = splL c (x.cps.toList.drop a)
  | 0, a, h => by
    rw [List.drop_of_length_le (by omega)]
    show [(PySem.Builtin.Str.strSub x a x.length).cps.toList] = _
    rw [StrLaws.strSub_toList, List.drop_of_length_le (by omega), List.take_nil]
    rfl
  | n + 1, a, h => by
    have ih := parts_spl x c n (a + 1) (by omega)
    have ha : a < x.cps.toList.length := by omega
    have hd : x.cps.toList.drop a = x.cps.toList[a] :: x.cps.toList.drop (a + 1) := List.drop_eq_getElem_cons ha
    rw [List.range'_succ, hd]
    by_cases q : x.cps.toList[a] = c
    · rw [List.filter_cons_of_pos (by rw [List.getElem?_eq_getElem ha, q]; simp), q, splL_pos]
      show (PySem.Builtin.Str.strSub x a a).cps.toList :: (StrLaws.partsFrom x 1 (a + 1) _).map _ = _
      rw [ih, StrLaws.strSub_toList, Nat.sub_self, List.take_zero]
    · rw [List.filter_cons_of_neg (by rw [List.getElem?_eq_getElem ha]; simpa using q)]
      have key : ∀ cuts : List Nat, (∀ i ∈ cuts, a + 1 ≤ i) → ∀ p q', (StrLaws.partsFrom x 1 (a + 1) cuts).map (fun s => s.cps.toList) = p :: q' → (StrLaws.partsFrom x 1 a cuts).map (fun s => s.cps.toList) = (x.cps.toList[a] :: p) :: q' := fun cuts hc p q' e => by
        cases cuts with
        | nil =>
          have e : [(PySem.Builtin.Str.strSub x (a + 1) x.length).cps.toList] = p :: q' := e
          injection e with e1 e2
          subst e2
          show [(PySem.Builtin.Str.strSub x a x.length).cps.toList] = _
          rw [← e1, StrLaws.strSub_toList, StrLaws.strSub_toList, hd]
          have hx : x.length = x.cps.toList.length := (Array.length_toList ..).symm
          rw [show x.length - a = (x.length - (a + 1)) + 1 by omega, List.take_succ_cons]
        | cons b r =>
          have e : (PySem.Builtin.Str.strSub x (a + 1) b).cps.toList :: (StrLaws.partsFrom x 1 (b + 1) r).map (fun s => s.cps.toList) = p :: q' := e
          injection e with e1 e2
          show (PySem.Builtin.Str.strSub x a b).cps.toList :: (StrLaws.partsFrom x 1 (b + 1) r).map (fun s => s.cps.toList) = _
          have hb := hc b (List.mem_cons_self ..)
          rw [e2, ← e1, StrLaws.strSub_toList, StrLaws.strSub_toList, hd, show b - a = (b - (a + 1)) + 1 by omega, List.take_succ_cons]
      obtain ⟨p, q', e⟩ := splL_ne c (x.cps.toList.drop (a + 1))
      rw [splL_neg q e]
      rw [e] at ih
      exact key _ (fun i hi => by
        have := (List.mem_filter.mp hi).1
        rw [List.mem_range'_1] at this
        omega) p q' ih
theorem kind_one {c : Nat} (h : c < 256) : PySem.Builtin.Str.strKind (⟨#[c]⟩ : Str) = 1 := by
  unfold PySem.Builtin.Str.strKind
  rw [if_pos (by simp [h])]
theorem split_spl (x : List Nat) (c : Nat) (hc : c < 256) : (Txt.split ⟨x.toArray⟩ ⟨#[c]⟩).map (fun s => s.cps.toList) = splL c x := by
  have hk : 1 ≤ PySem.Builtin.Str.strKind (⟨x.toArray⟩ : Str) := by
    unfold PySem.Builtin.Str.strKind
    split
    · omega
    · split <;> omega
  have hX : (⟨x.toArray⟩ : Str).cps.toList = x := by simp
  have hL : (⟨x.toArray⟩ : Str).length = x.length := by simp [Str.length]
  have hS : (⟨#[c]⟩ : Str).length = 1 := rfl
  cases x with
  | nil =>
    unfold Txt.split
    rw [if_pos (by simp [Str.length])]
    rfl
  | cons a0 r0 =>
    generalize hx : a0 :: r0 = x at *
    have hpos : 0 < x.length := by rw [← hx]; simp
    have ps := parts_spl ⟨x.toArray⟩ c x.length 0 (by simp)
    rw [hX, List.drop_zero] at ps
    have oc : PySem.Builtin.Str.occurrences ⟨x.toArray⟩ ⟨#[c]⟩ 0 (⟨x.toArray⟩ : Str).length ((⟨x.toArray⟩ : Str).length + 1) = (List.range' 0 x.length).filter fun i => decide (x[i]? = some c) := by
      rw [StrLaws.occ_eq]
      have := occ_one ⟨x.toArray⟩ c (x.length + 1) (List.range' 0 (x.length + 1)) #[] 0 (fun i _ => Nat.zero_le _) (List.pairwise_lt_range' ..) (by simp)
      rw [hL] at this ⊢
      rw [hX] at this
      rw [Nat.sub_zero, this]
      rw [List.range'_concat, List.filter_append, List.filter_cons_of_neg (by simp)]
      simp
    unfold Txt.split
    rw [oc, hL, hS, if_neg (by rw [kind_one hc]; intro z; rw [Bool.or_eq_true, decide_eq_true_iff, decide_eq_true_iff] at z; omega)]
    split
    · rename_i he
      rw [List.isEmpty_iff.mp he] at ps
      rw [← ps]
      show [x.toArray.toList] = [(PySem.Builtin.Str.strSub ⟨x.toArray⟩ 0 (⟨x.toArray⟩ : Str).length).cps.toList]
      rw [StrLaws.strSub_toList, hX, hL]
      simp
    · rw [StrLaws.partsBetween_eq]
      exact ps
theorem split_strs (x : List Nat) (c : Nat) (hc : c < 256) : (Txt.split ⟨x.toArray⟩ ⟨#[c]⟩).map V.str = (splL c x).map fun p => V.str ⟨p.toArray⟩ := by
  rw [← split_spl x c hc, List.map_map]
  refine List.map_congr_left fun s _ => ?_
  show V.str s = V.str ⟨s.cps.toList.toArray⟩
  simp
def splitD (c : Nat) (x : D) : R D := match x with
  | .str x => if x.length + 2 ≤ SZ ∧ c < 256 then .ok (.lst ((splL c x).map .str)) else .bad
  | _ => .bad
theorem splitD_s (c : Nat) (x : List Nat) (h : x.length + 2 ≤ 16777216) (hc : c < 256) : splitD c (.str x) = .ok (.lst ((splL c x).map .str)) := if_pos ⟨le_sz h, hc⟩
theorem repL_spl {G : GE} {F : Hp} : ∀ {l : List (List Nat)}, (∀ p ∈ l, okS p = true) → RepL G F (l.map .str) (l.map fun p => V.str ⟨p.toArray⟩)
  | [], _ => RepL.nil
  | p :: l, h => RepL.cons (rep_str.mpr ⟨rfl, h p (List.mem_cons_self ..)⟩) (repL_spl fun q hq => h q (List.mem_cons_of_mem _ hq))
section
variable {X : Cx} {C : CT} {W : WX} {o : Expr} {fo : SS → R D} {pos apos p2 : Pos} {z : Str} {jj : Nat}
theorem s_split (c : Nat) (ho : PE X o (tB C W fo)) (hz : z.cps.toList = [c] := by decide +kernel) (hs : starEach [.Constant (.str z) jj p2] X.env = [(false, eval (.Constant (.str z) jj p2) X.env)] := by rfl) (hbase : attributeBase o "split" X.env (eval o X.env) = eval o X.env := by rfl) (hline : (apos.endLine == pos.line) = true := by rfl) :
    PE X (.Call (.Attribute o "split" apos) [.Constant (.str z) jj p2] [] pos) (tF C W (eUn (splitD c) fo)) := by
  refine pe_imp (pe_split ho pe_str hs hbase hline) fun σ H Q ⟨F, sd, S, h⟩ => ⟨F, sd, S, PostE.bind h fun d v F1 H1 e1 b1 h1 => ?_⟩
  have ez : z = ⟨#[c]⟩ := by
    apply Str.ext'
    apply Array.toList_inj.mp
    rw [hz]
  cases d with
  | str x =>
    obtain ⟨rfl, kx⟩ := bor_str b1
    have h1 : PostE C W F1 H1 σ (pF C H) Q (if x.length + 2 ≤ SZ ∧ c < 256 then .ok (.lst ((splL c x).map .str)) else .bad) := h1
    by_cases hz : x.length + 2 ≤ SZ ∧ c < 256
    · rw [if_pos hz] at h1
      have hz1 : x.length + 2 ≤ 16777216 := (sz_is ▸ hz.1)
      refine ⟨⟨_, rfl⟩, _, _, rfl, rfl, by rw [ez]; rfl, by rw [sizeLine_eq]; simpa [Str.length] using hz1, fun p hp => ?_⟩
      rw [ez]
      refine h1 _ F1 _ (Ext.newOwn e1.fh hp) ⟨p, rfl, e1.hh.free hp, e1.fh.free hp, _, upd_same, ?_⟩
      rw [split_strs x c hz.2]
      exact repL_spl (splL_okS kx)
    · rw [if_neg hz] at h1
      exact h1.elim
  | _ => exact h1.elim
end
end
end Z
namespace Z
noncomputable section
open PySem PySem.Spec PySem.P PyProof.Rows L2
open PySem.NumText in
theorem dg_ex (n : Nat) : ∃ cs : List Nat, AllDigits cs ∧ digitsVal cs = n ∧ cs ≠ [] ∧ (cs.length = 1 ∨ ∃ c r, cs = c :: r ∧ 49 ≤ c) := by
  induction n using Nat.strongRecOn with
  | ind n ih =>
    by_cases h : n < 10
    · refine ⟨[48 + n], fun c hc => ?_, ?_, by simp, .inl rfl⟩
      · rw [List.mem_singleton.mp hc]; omega
      · show 0 * 10 + (48 + n - 48) = n
        omega
    · obtain ⟨cs, h1, h2, h3, h4⟩ := ih (n / 10) (by omega)
      refine ⟨cs ++ [48 + n % 10], fun c hc => ?_, ?_, by simp, .inr ?_⟩
      · rcases List.mem_append.mp hc with hc | hc
        · exact h1 c hc
        · rw [List.mem_singleton.mp hc]; omega
      · rw [digitsVal_snoc, h2]
        omega
      · rcases h4 with h4 | ⟨c, r, rfl, h4⟩
        · cases cs with
          | nil => exact absurd rfl h3
          | cons c r =>
            cases r with
            | cons _ _ => simp at h4
            | nil =>
              refine ⟨c, _, rfl, ?_⟩
              have hc := h1 c (List.mem_cons_self ..)
              have e : digitsVal [c] = c - 48 := by show 0 * 10 + (c - 48) = c - 48; omega
              rw [e] at h2
              omega
        · exact ⟨c, r ++ [48 + n % 10], rfl, h4⟩
def dg (n : Nat) : List Nat := Classical.choose (dg_ex n)
abbrev AllD (cs : List Nat) : Prop := PySem.NumText.AllDigits cs
abbrev valD (cs : List Nat) : Nat := PySem.NumText.digitsVal cs
theorem dg_all (n : Nat) : AllD (dg n) := (Classical.choose_spec (dg_ex n)).1
theorem dg_val (n : Nat) : valD (dg n) = n := (Classical.choose_spec (dg_ex n)).2.1
theorem dg_ne (n : Nat) : dg n ≠ [] := (Classical.choose_spec (dg_ex n)).2.2.1
theorem dg_head (n : Nat) : (dg n).length = 1 ∨ ∃ c r, dg n = c :: r ∧ 49 ≤ c := (Classical.choose_spec (dg_ex n)).2.2.2
theorem fold_lo : ∀ (cs : List Nat) (a : Nat), a * 10 ^ cs.length ≤ cs.foldl (fun acc c => acc * 10 + (c - 48)) a
  | [], a => by simp
  | c :: cs, a => by
    rw [List.foldl_cons, List.length_cons]
    refine Nat.le_trans ?_ (fold_lo cs _)
    rw [Nat.pow_succ]
    have : a * (10 ^ cs.length * 10) = a * 10 * 10 ^ cs.length := by
      rw [Nat.mul_comm (10 ^ cs.length) 10, ← Nat.mul_assoc]
    rw [this]
    exact Nat.mul_le_mul_right _ (by omega)
theorem dg_len {n k : Nat} (hk : 1 ≤ k) (h : n < 10 ^ k) : (dg n).length ≤ k := by
  rcases dg_head n with h1 | ⟨c, r, e, h1⟩
  · omega
  · have hv := dg_val n
    rw [e] at hv
    have hv : r.foldl (fun acc c => acc * 10 + (c - 48)) (0 * 10 + (c - 48)) = n := hv
    have lo := fold_lo r (0 * 10 + (c - 48))
    rw [hv] at lo
    have : 1 * 10 ^ r.length ≤ n := Nat.le_trans (Nat.mul_le_mul_right _ (by omega)) lo
    rw [Nat.one_mul] at this
    have h3 := (Nat.pow_lt_pow_iff_right (show 1 < 10 by omega)).mp (Nat.lt_of_le_of_lt this h)
    rw [e, List.length_cons]
    omega
theorem dg_okS (n : Nat) : okS (dg n) = true := by
  unfold okS
  rw [List.all_eq_true]
  intro c hc
  have := dg_all n c hc
  simp
  omega
theorem dg_str (n : Nat) : (Str.ofString (toString (n : Int))) = ⟨(dg n).toArray⟩ := by
  have h0 := dg_ne n
  have hl : (dg n).length = ((dg n).length - 1) + 1 := by
    have := List.length_pos_iff.mpr h0
    omega
  have e := PySem.NumText.toDigits_digitsVal ((dg n).length - 1) (dg n) hl (dg_all n) (by
    rcases dg_head n with h | h
    · exact .inl (by omega)
    · exact .inr h)
  have hv : PySem.NumText.digitsVal (dg n) = n := dg_val n
  rw [hv] at e
  have e1 : toString (n : Int) = String.ofList (Nat.toDigits 10 n) := rfl
  rw [e1, Str.ofString_eq_toList, String.toList_ofList, e, List.map_map]
  have : (dg n).map (Char.toNat ∘ Char.ofNat) = dg n := by
    conv => rhs; rw [← List.map_id (dg n)]
    refine List.map_congr_left fun c hc => ?_
    have hc := dg_all n c hc
    have d : ∀ c : Nat, c < 58 → (Char.ofNat c).toNat = c := by decide
    exact d c (by omega)
  rw [this]
def bigP : {n : Nat // n = 10 ^ 560} := Classical.choice ⟨⟨_, rfl⟩⟩
def bigN : Nat := bigP.1
theorem bigN_is : bigN = 10 ^ 560 := bigP.2
theorem big_log {n : Nat} (h : n < bigN) : n.log2 < 1920 := by
  rw [bigN_is] at h
  by_cases h0 : n = 0
  · subst h0; decide
  · rw [Nat.log2_lt h0]
    exact Nat.lt_of_lt_of_le h (by decide)
def strD : List D → R D
  | [.int i] => if 0 ≤ i ∧ i.toNat < bigN then .ok (.str (dg i.toNat)) else .bad
  | _ => .bad
theorem strD_ne : NoExL strD := fun x c vs h => by
  unfold strD at h
  split at h
  · split at h <;> cases h
  · cases h
theorem strD_n (n : Nat) (h : n < bigN) : strD [.int (n : Nat)] = .ok (.str (dg n)) := by
  show (if 0 ≤ ((n : Nat) : Int) ∧ ((n : Nat) : Int).toNat < bigN then _ else _) = _
  rw [if_pos ⟨by omega, by rw [Int.toNat_natCast]; exact h⟩, Int.toNat_natCast]
def isDg (x : List Nat) : Bool := x.all fun c => decide (48 ≤ c) && decide (c ≤ 57)
theorem isDg_iff {x : List Nat} : isDg x = true ↔ AllD x := by
  unfold isDg
  rw [List.all_eq_true]
  simp only [Bool.and_eq_true, decide_eq_true_eq]
  exact Iff.rfl
def intY : List D → R D
  | [.int i] => .ok (.int i)
  | [.bl b] => .ok (.int (if b = true then 1 else 0))
  | [.str x] => if isDg x = true ∧ x ≠ [] ∧ x.length ≤ 640 then .ok (.int (valD x : Nat)) else .bad
  | _ => .bad
theorem intY_ne : NoExL intY := fun x c vs h => by
  unfold intY at h
  split at h <;> first | cases h | (split at h <;> cases h)
@[simp] theorem intY_i (i : Int) : intY [.int i] = .ok (.int i) := rfl
@[simp] theorem intY_b (b : Bool) : intY [.bl b] = .ok (.int (if b = true then 1 else 0)) := rfl
theorem intY_s {x : List Nat} (h : AllD x) (h0 : x ≠ []) (hl : x.length ≤ 640) : intY [.str x] = .ok (.int (valD x : Nat)) := if_pos ⟨isDg_iff.mpr h, h0, hl⟩
theorem intY_dg (n : Nat) (h : n < 10 ^ 640) : intY [.str (dg n)] = .ok (.int n) := by
  rw [intY_s (dg_all n) (dg_ne n) (dg_len (by omega) h), dg_val]
section
variable {X : Cx} {C : CT}
theorem call_strD : CallR X (.type "str") (rC C.G strD) := by
  intro pins s σ H xs us Q I r h
  obtain ⟨F, ds, S, r2, p⟩ := h
  unfold strD at p
  split at p
  · rename_i i
    obtain ⟨v, rfl, b⟩ := pair1 r2
    by_cases hz : 0 ≤ i ∧ i.toNat < bigN
    · rw [if_pos hz] at p
      rw [bor_int b] at r
      obtain ⟨n, rfl⟩ : ∃ n : Nat, i = n := ⟨i.toNat, by omega⟩
      rw [Int.toNat_natCast] at p hz
      refine call_str_int pins s σ H _ us Q I r ⟨_, rfl, ?_, ?_⟩
      · rw [Int.natAbs_natCast]; exact big_log hz.2
      · show Q (.str (Str.ofString (toString (n : Int)))) H
        rw [dg_str]
        exact p _ F H (Ext.refl S) (rep_str.mpr ⟨rfl, dg_okS n⟩)
    · rw [if_neg hz] at p
      exact p.elim
  · exact p.elim
theorem call_intY : CallR X (.type "int") (rC C.G intY) := by
  intro pins s σ H xs us Q I r h
  obtain ⟨F, ds, S, r2, p⟩ := h
  unfold intY at p
  split at p
  · obtain ⟨v, rfl, b⟩ := pair1 r2
    rw [bor_int b] at r
    exact call_int1 pins s σ H _ us Q I r (.inl ⟨_, rfl, p.int S⟩)
  · obtain ⟨v, rfl, b⟩ := pair1 r2
    rw [bor_bl b] at r
    exact call_int1 pins s σ H _ us Q I r (.inr ⟨_, rfl, p.int S⟩)
  · rename_i x
    obtain ⟨v, rfl, b⟩ := pair1 r2
    by_cases hz : isDg x = true ∧ x ≠ [] ∧ x.length ≤ 640
    · rw [if_pos hz] at p
      obtain ⟨rfl, kx⟩ := bor_str b
      refine call_int_str pins s σ H _ us Q I r ⟨_, _, rfl, ?_, by simpa [Str.length] using hz.2.2, p.int S⟩
      have := PySem.intText_digits (x := ⟨x.toArray⟩) (by simpa using isDg_iff.mp hz.1) (by simpa using hz.2.1) (by simp [Str.length]; omega)
      simpa using this
    · rw [if_neg hz] at p
      exact p.elim
  · exact p.elim
end
end
end Z
namespace Z
noncomputable section
open PySem PySem.Spec PySem.P PyProof.Rows L2
def lookT : List (List Nat × List Nat) → List Nat → Option (List Nat)
  | [], _ => none
  | p :: r, z => if p.1 = z then some p.2 else lookT r z
def entsB (es : List DictEntry) : List (Option (List Nat × List Nat)) := es.map fun e => match e.key, e.val with
  | .str x _, .str y _ => some (x.cps.toList, y.cps.toList)
  | _, _ => none
structure TblC (K : PySem.W.Frag) (w : World) (mg : Str → Option Value) (x : Str) (tbl : List (List Nat × List Nat)) : Prop where
  ex : ∃ d es n, mg x = some (.ref d) ∧ KDict K w d es n ∧ entsB es.toList = tbl.map some ∧ es.toList.any (·.refKey) = false
theorem ents_find : ∀ {es : List DictEntry} {tbl : List (List Nat × List Nat)} (z : List Nat), entsB es = tbl.map some → match lookT tbl z with
    | some v => ∃ e tk, es.find? (·.key.isStr ⟨z.toArray⟩) = some e ∧ e.val = .str ⟨v.toArray⟩ tk
    | none => es.find? (·.key.isStr ⟨z.toArray⟩) = none
  | [], [], z, _ => rfl
  | [], _ :: _, z, h => by cases h
  | _ :: _, [], z, h => by cases h
  | e :: es, p :: tbl, z, h => by
    unfold entsB at h
    rw [List.map_cons, List.map_cons] at h
    injection h with h1 h2
    have ih := ents_find (es := es) (tbl := tbl) z h2
    obtain ⟨hh, key, val⟩ := e
    cases key <;> try cases h1
    rename_i x t
    cases val <;> try cases h1
    rename_i y u
    have hb : (Value.str x t).isStr ⟨z.toArray⟩ = decide (x.cps.toList = z) := by
      show (x == (⟨z.toArray⟩ : Str)) = _
      rw [Bool.eq_iff_iff, beq_iff_eq, decide_eq_true_iff]
      constructor
      · intro q
        rw [q]
      · intro q
        apply Str.ext'
        apply Array.toList_inj.mp
        rw [q]
    unfold lookT
    by_cases q : x.cps.toList = z
    · rw [if_pos q]
      refine ⟨_, u, List.find?_cons_of_pos (by rw [hb, decide_eq_true q]), ?_⟩
      show Value.str y u = .str ⟨y.cps.toList.toArray⟩ u
      simp
    · rw [if_neg q]
      have e : (⟨hh, .str x t, .str y u⟩ :: es : List DictEntry).find? (·.key.isStr ⟨z.toArray⟩) = es.find? (·.key.isStr ⟨z.toArray⟩) := List.find?_cons_of_neg (by rw [hb, decide_eq_false q]; simp)
      rw [e]
      exact ih
theorem tbl_ns {K : PySem.W.Frag} {w : World} {d : Addr} {es : Array DictEntry} {n : Nat} {tbl : List (List Nat × List Nat)} (D : KDict K w d es n) (h : entsB es.toList = tbl.map some) (hr : es.toList.any (·.refKey) = false) (z : List Nat) : match lookT tbl z with
    | some v => ∃ tk, PySem.W.nsIn K d ⟨z.toArray⟩ = some (some (.str ⟨v.toArray⟩ tk))
    | none => PySem.W.nsIn K d ⟨z.toArray⟩ = some none := by
  have f := ents_find z h
  cases q : lookT tbl z with
  | some v =>
    rw [q] at f
    obtain ⟨e, tk, f1, f2⟩ := f
    refine ⟨tk, ?_⟩
    unfold PySem.W.nsIn
    rw [D.at_]
    dsimp only
    rw [f1]
    dsimp only
    rw [f2]
  | none =>
    rw [q] at f
    dsimp only
    unfold PySem.W.nsIn
    rw [D.at_]
    dsimp only
    have f : es.toList.find? (fun x => x.key.isStr ⟨z.toArray⟩) = none := f
    rw [f]
    dsimp only
    rw [hr]
    rfl
def inTD (tbl : List (List Nat × List Nat)) : D → R D
  | .str z => .ok (.bl (lookT tbl z).isSome)
  | _ => .bad
def ixTD (tbl : List (List Nat × List Nat)) : D → R D
  | .str z => (match lookT tbl z with
    | some v => if okS v = true then .ok (.str v) else .bad
    | none => .bad)
  | _ => .bad
section
variable {X : Cx} {C : CT} {W : WX} {a b : Expr} {fa fb : SS → R D} {pos p : Pos} {x : Str}
theorem s_inG {tbl : List (List Nat × List Nat)} (T : TblC X.K X.w X.mg x tbl) (ha : PE X a (tB C W fa)) (hg : Gl X x := by rfl) (hd : (x == ("__debug__" : Str)) = false := by decide) (hm : behindInMarks .In (.Name x p) = false := by first | exact nomark _ | with_unfolding_all rfl) : PE X (.Compare a [.In] [.Name x p] pos) (tD C W (eUn (inTD tbl) fa)) := by
  obtain ⟨d, es, n, h1, h2, h3, h4⟩ := T.ex
  refine pe_imp (pe_cmpR (op_in_kd h2) ha (pe_glob (v := .ref d) hg h1 rfl hd) hm) fun σ H Q ⟨F, sd, S, h⟩ => ⟨F, sd, S, PostE.bind h fun u v F1 H1 e1 b1 hh => ?_⟩
  cases u with
  | str z =>
    obtain ⟨rfl, kz⟩ := bor_str b1
    have t := tbl_ns h2 h3 h4 z
    cases q : lookT tbl z with
    | some w =>
      rw [q] at t
      obtain ⟨tk, t⟩ := t
      refine ⟨_, _, rfl, rfl, t, ?_⟩
      have hh : PostE C W F1 H1 σ (pD C) Q (.ok (.bl (lookT tbl z).isSome)) := hh
      rw [q] at hh
      exact hh _ F1 H1 (Ext.refl e1.fh) (rep_bl.mpr rfl)
    | none =>
      rw [q] at t
      refine ⟨_, _, rfl, rfl, t, ?_⟩
      have hh : PostE C W F1 H1 σ (pD C) Q (.ok (.bl (lookT tbl z).isSome)) := hh
      rw [q] at hh
      exact hh _ F1 H1 (Ext.refl e1.fh) (rep_bl.mpr rfl)
  | _ => exact hh.elim
theorem s_ixG {tbl : List (List Nat × List Nat)} (T : TblC X.K X.w X.mg x tbl) (hb : PE X b (tB C W fb)) (hg : Gl X x := by rfl) (hd : (x == ("__debug__" : Str)) = false := by decide) (hs : PlainIx b := by exact fun _ _ => rfl) : PE X (.Subscript (.Name x p) b pos) (tD C W (eUn (ixTD tbl) fb)) := by
  obtain ⟨d, es, n, h1, h2, h3, h4⟩ := T.ex
  refine pe_imp (pe_ix ix_kdict (pe_glob (v := .ref d) hg h1 rfl hd) hb hs) fun σ H Q ⟨F, sd, S, h⟩ => ⟨F, sd, S, PostE.bind h fun u v F1 H1 e1 b1 hh => ?_⟩
  cases u with
  | str z =>
    obtain ⟨rfl, kz⟩ := bor_str b1
    have t := tbl_ns h2 h3 h4 z
    have hh : PostE C W F1 H1 σ (pD C) Q (match lookT tbl z with | some v => if okS v = true then .ok (.str v) else .bad | none => .bad) := hh
    cases q : lookT tbl z with
    | some w =>
      rw [q] at t hh
      obtain ⟨tk, t⟩ := t
      dsimp only at hh
      by_cases kw : okS w = true
      · rw [if_pos kw] at hh
        exact ⟨d, _, .str ⟨w.toArray⟩, rfl, rfl, ⟨es, n, _, h2.at_, h2.lit, t, ⟨tk, rfl⟩⟩, hh _ F1 H1 (Ext.refl e1.fh) (rep_str.mpr ⟨rfl, kw⟩)⟩
      · rw [if_neg kw] at hh
        exact hh.elim
    | none => rw [q] at hh; exact hh.elim
  | _ => exact hh.elim
end
end
end Z
namespace Z
noncomputable section
open PySem PySem.Spec PySem.P PyProof.Rows L2
def sBad : SS → RS := fun _ => .bad
theorem s_bad {X : Cx} {C : CT} {W : WX} {st : Stmt} : PS X st (tS C W sBad) := ⟨fun pins s σ H D I hh => by
  obtain ⟨F, sd, S, hh⟩ := hh
  exact hh.elim⟩
section
variable {X : Cx} {C : CT} {W : WX} {a b : Expr} {fb : SS → R D} {pos : Pos} {ks : List (Option Expr)} {vs : List Expr} {kk : List (List Nat)} {fs : SS → R (List D)}
@[simp] theorem sBad_s (s : SS) : sBad s = .bad := rfl
end
end
end Z
namespace Z
noncomputable section
open PySem PySem.Spec PySem.P PyProof.Rows L2
structure RoomQ (k : Nat) (A : Around) : Prop where
  dp : A.depth + 3 * k + 5 < recursionLimit
  un : A.units + 16 * k + 200 < cLine
theorem RoomQ.of {k : Nat} {A : Around} (r : Room k A) : RoomQ k A := ⟨r.dp, r.un⟩
theorem RoomQ.mark {k : Nat} {A : Around} (r : RoomQ k A) (v : Option Value) : RoomQ k (A.mark v) := ⟨r.dp, r.un⟩

theorem RoomQ.deeper {k : Nat} {A : Around} (r : RoomQ (k + 1) A) (env : PySem.Env) : RoomQ k (A.deeper env) :=
  ⟨by have := r.dp; show A.depth + 1 + 3 * k + 5 < _; omega, by have := r.un; show A.units + 3 + 16 * k + 200 < _; omega⟩
theorem RoomQ.depth {k : Nat} {A : Around} (r : RoomQ k A) : A.depth < recursionLimit := by have := r.dp; omega
theorem Env0.mark {P : Program} {w : World} {K : PySem.W.Frag} {mg : Str → Option Value} {base : Heap} {A : Around} {outer : List PySem.Env} {s : Shared} {H : Hp} (e : Env0 P w K mg base A outer s H) (v : Option Value) : Env0 P w K mg base { A with handled := v } outer s H :=
  ⟨e.frames, e.mod, e.bs, e.bsz, e.funs, e.frf, e.hok, e.bare⟩
def cxQ (CX : CXT) (P : Program) (w : World) (K : PySem.W.Frag) (mg : Str → Option Value) (base : Heap) (N : List Str) (qual : Str) (scope : Scope) (f : Addr) (cd : Value) (A : Around) (outer : List PySem.Env) (s : Shared) (H : Hp) (E : XK) : Cx :=
  { cxOf CX P w K mg base N qual scope f cd A outer s H E with calm := false }
structure FnQ (P : Program) (w : World) (K : PySem.W.Frag) (mg : Str → Option Value) (base : Heap) (CX : CXT) (k : Nat) (f : Addr) (fd : FuncData) (ps : List Str) (sp : Sp) : Prop where
  len : ∀ vs H Q E, sp vs H Q E → vs.length = ps.length
  run : ∀ (A : Around) (outer : List PySem.Env) (s : Shared) (H : Hp) (args : Args) (us : List Value) (vs : List V) (Q : VK) (E : XK), RoomQ k A → Env0 P w K mg base A outer s H → BindsTo s fd args (ps.zip us) → Vals vs us → sp vs H Q E →
    codeAny (model P w) A (.call (.ref f) args) (CR CX outer P w H s Q E) s
theorem inv_startQ {CX : CXT} {P : Program} {w : World} {K : PySem.W.Frag} {mg : Str → Option Value} {base : Heap} {N ps : List Str} {qual : Str} {scope : Scope} {f : Addr} {cd : Value} {A : Around} {outer : List PySem.Env} {s s1 : Shared} {H : Hp} {E : XK} {us : List Value} {vs : List V}
    (S : FnScope N ps scope) (e0 : Env0 P w K mg base A outer s H) (hl : vs.length = ps.length) (r : Vals vs us)
    (x : InCallC s s.heap.objs.size (bindL (envOfC qual scope s.heap.objs.size f cd).kindOf (ps.zip us) fun _ => none) (cellsFrom (s.heap.objs.size + 1) scope.names []) (bindC (envOfC qual scope s.heap.objs.size f cd).kindOf (ps.zip us) fun _ => none) s1) :
    Inv (cxQ CX P w K mg base N qual scope f cd A outer s H E) [] (L2.start N vs) H s1 := by
  have I : Inv (cxOf CX P w K mg base N qual scope f cd { A with handled := none } outer s H E) [] (L2.start N vs) H s1 := inv_start S rfl (Env0.mark e0 none) hl r x
  have ok := I.ok
  exact ⟨⟨ok.mod, ok.kind, ok.glob, ok.blt, ok.above, ok.inj, ok.has, ok.cab, (fun z => absurd (show false = true from z) Bool.false_ne_true), ok.frames, ok.stk, ok.exf, ok.bs, ok.bsz, ok.noex, ok.exfs, ok.funs, ok.frf⟩, I.os, I.bare, I.base, I.loc, I.cell, I.free, I.freeC, I.pin, I.hok, I.len⟩
theorem fn_ofQ {CX : CXT} {P : Program} {w : World} {K : PySem.W.Frag} {mg : Str → Option Value} {base : Heap} {k : Nat} {f : Addr} {name qual : Str} {params : Arguments} {body : List Stmt} {scope : Scope} {dV kV doc pm cdv ct oc : Value} {an od : Option Addr}
    {osl : Array (Option Value)} {N ps : List Str} {sp : Sp} (lk : K.lookup f = some ⟨oc, od, .func (PySem.W.fnOf name qual params body scope dV kV doc pm an cdv ct), osl⟩) (hcd : PySem.W.codeIn K cdv qual = true) (S : FnScope N ps scope)
    (len : ∀ vs H Q E, sp vs H Q E → vs.length = ps.length)
    (hbody : ∀ (A : Around) (outer : List PySem.Env) (s : Shared) (H : Hp) (vs : List V) (Q : VK) (E : XK), RoomQ k (A.deeper (envOfC qual scope s.heap.objs.size f cdv)) → sp vs H Q E →
      ∃ t, PSs (cxQ CX P w K mg base N qual scope f cdv A outer s H E) body t ∧ t { nx := fun _ H' => Q .non H', rt := Q } (L2.start N vs) H) :
    FnQ P w K mg base CX (k + 1) f (PySem.W.fnOf name qual params body scope dV kV doc pm an cdv ct) ps sp := by
  refine ⟨len, fun A outer s H args us vs Q E room e0 bt r hsp => ?_⟩
  have kin : K.In s.heap := e0.mod.kin.keeps fun b o e => (e0.bs b o e).1
  have nolim : s.heap.NoLimit := e0.mod.nolimit.keeps fun b o e => (e0.bs b o e).1
  refine codeAny_call_function room.depth (kin _ _ lk) rfl S.co S.gen rfl (PySem.W.codeRec_of kin hcd) (bt _ _ _ _ ?_)
  refine wpAny_newFunctionEnv_cells S.kind ?_ fun env he s1 x => ?_
  · rintro ⟨n, v⟩ hy
    exact (S.par n (List.of_mem_zip hy).1).imp id fun q => ⟨q, PySem.W.cellsFrom_some _ _ _ (.inl q)⟩
  subst he
  refine ⟨nolim.keeps x.toInCall.keep, codeAny_func ?_⟩
  obtain ⟨t, ht, hq⟩ := hbody A outer s H vs Q E (room.deeper _) hsp
  refine wpAny_mono (ht.run [] s1 (L2.start N vs) H _ (inv_startQ S e0 (len _ _ _ _ hsp) r x) hq) (fun fl s' hs => ?_) fun e s' hs => hs
  cases fl with
  | ret u =>
    obtain ⟨v, σ', H', J, rv, q⟩ := hs
    exact ⟨v, H', J.os, J.bare, J.base, J.hok, rv, q⟩
  | next =>
    obtain ⟨σ', H', J, q⟩ := hs
    exact ⟨V.non, H', J.os, J.bare, J.base, J.hok, rfl, q⟩
  | brk =>
    obtain ⟨_, _, _, q⟩ := hs
    exact q.elim
  | cont =>
    obtain ⟨_, _, _, q⟩ := hs
    exact q.elim
section
variable {X : Cx} {CX : CXT} {k : Nat} {f : Addr} {fd : FuncData} {ps : List Str} {sp : Sp} {E : L2.St → XK} {x : Str} {q pos : Pos} {e : Expr} {es : List Expr} {t : TA}
theorem pe_callQ (F : FnQ X.prog X.w X.K X.mg X.base CX k f fd ps sp) (hr : RoomQ k X.A) (hg : Gl X x) (hm : X.mg x = some (.ref f)) (hk : PySem.W.keepIn X.K (.ref f) = true) (hb : Binds X.K fd ps []) (hx : ∀ σ, PassesAt CX X σ (E σ))
    (ha : PA X (e :: es) t) (hdb : (x == ("__debug__" : Str)) = false := by decide) (he : starEach (e :: es) X.env = (false, eval e X.env) :: starEach es X.env := by rfl) (hpl : (backTo pos (starEach es X.env)).any (·.1) = false := by rfl) :
    PE X (.Call (.Name x q) (e :: es) [] pos) (tCallS sp E t) := by
  refine ⟨fun pins s σ H Q I h => ?_⟩
  refine wpAny_Call_Name_kw (ld_glob I hg hm ?_ hdb)
  refine PySem.W.callWith_K (h₀ := X.base) I.ok.mod.kin hk (thn (ha.run pos pins s σ H _ I h) fun us s1 ⟨vs, H1, I1, r, hsp⟩ => ⟨I1.kIn, ?_⟩) he hpl
  have hl : us.length = ps.length := by rw [← r.length]; exact F.len _ _ _ _ hsp
  have b := hb s1 us I1.kIn (by rw [List.append_nil]; exact hl)
  rw [List.append_nil] at b
  refine wpAny_call (codeAny_mono (F.run X.A X.stack s1 H1 ⟨us, []⟩ us vs Q (E σ) hr I1.env0 b r hsp) fun r s' hq => ?_)
  cases r with
  | error e => exact hx σ pins H1 s1 e s' I1 hq
  | ok fl =>
    cases fl with
    | ret u => exact I1.after hq
    | next => exact False.elim hq
    | brk => exact False.elim hq
    | cont => exact False.elim hq
end
structure KnQ (P : Program) (w : World) (K : PySem.W.Frag) (mg : Str → Option Value) (base : Heap) (G : GE) (x : Str) (n : Nat) (g : List D → R D) (k : Nat) : Prop where
  ex : ∃ f fd ps, FnQ P w K mg base (L2.CX P w) k f fd ps (spD G n g false) ∧ mg x = some (.ref f) ∧ PySem.W.keepIn K (.ref f) = true ∧ Binds K fd ps []
theorem kn_mkQ {P : Program} {w : World} {K : PySem.W.Frag} {mg : Str → Option Value} {base : Heap} {G : GE} {x : Str} {f : Addr} {fd : FuncData} {ps : List Str} {n k : Nat} {g : List D → R D} (h : FnQ P w K mg base (L2.CX P w) k f fd ps (spD G n g false))
    (hm : mg x = some (.ref f)) (hk : PySem.W.keepIn K (.ref f) = true) (hb : Binds K fd ps []) : KnQ P w K mg base G x n g k := ⟨⟨f, fd, ps, h, hm, hk, hb⟩⟩
theorem s_callQ {X : Cx} {C : CT} {W : WX} {a : Expr} {es : List Expr} {p pos : Pos} {fs : SS → R (List D)} {x : Str} {n k : Nat} {g : List D → R D} (v : Pq X C W) (F : KnQ X.prog X.w X.K X.mg X.base C.G x n g k) (hr : RoomQ k X.A) (hg : Gl X x) (hn : ∀ s ds, fs s = .ok ds → ds.length = n) (ha : PA X (a :: es) (tA C W fs)) (hdb : (x == ("__debug__" : Str)) = false := by decide)
    (he : starEach (a :: es) X.env = (false, eval a X.env) :: starEach es X.env := by rfl) (hpl : (backTo pos (starEach es X.env)).any (·.1) = false := by rfl) : PE X (.Call (.Name x p) (a :: es) [] pos) (tD C W (eCall g fs)) := by
  obtain ⟨f, fd, ps, F1, F2, F3, F4⟩ := F.ex
  refine pe_imp (pe_callQ F1 hr hg F2 F3 F4 (fun σ => passAt v.tk σ) ha hdb he hpl) fun σ H Q ⟨F, sd, S, h⟩ => ?_
  refine ⟨F, sd, S, ?_⟩
  unfold eCall at h
  cases q : fs sd with
  | ok ds =>
    rw [q] at h
    exact fun vs F' H' e r => ⟨F', ds, e.fh, hn sd ds q, pairL r, call_ok (fr := false) (PostE.ext e h)⟩
  | ex c vs => rw [q] at h; exact h
  | bad => rw [q] at h; exact h
theorem fn_okQ {P : Program} {w : World} {K : PySem.W.Frag} {mg : Str → Option Value} {base : Heap} {G : GE} {x qual : Str} {st : Stmt} {f : Addr} {fd : FuncData} {N ps : List Str} {k : Nat} {g : List D → R D} {body : SS → RS}
    (Fu : Fun K x qual st f fd) (S : FnScope N ps (defScope st)) (hK : K = G.K) (hN : ps.length ≤ N.length)
    (hb : ∀ (cdv : Value) (A : Around) (outer : List PySem.Env) (s : Shared) (H F : Hp) (E : XK), RoomQ k (A.deeper (envOfC qual (defScope st) s.heap.objs.size f cdv)) →
      Pq (cxQ (L2.CX P w) P w K mg base N qual (defScope st) f cdv A outer s H E) ⟨G, F, H⟩ (fun cls d _ H => E cls d H) →
      PSs (cxQ (L2.CX P w) P w K mg base N qual (defScope st) f cdv A outer s H E) (defBody st) (tS ⟨G, F, H⟩ (fun cls d _ H => E cls d H) body))
    (hg : ∀ ds, ds.length = ps.length → g ds ≠ .bad → runB false N.length body ds = g ds) : FnQ P w K mg base (L2.CX P w) (k + 1) f fd ps (spD G ps.length g false) := by
  obtain ⟨oc, od, kV, doc, pm, an, cdv, ct, osl, rfl, lk, hcd⟩ := Fu.ex
  refine fn_ofQ lk hcd S (fun vs H Q E h => ?_) (fun A outer s H vs Q E hr h => ?_)
  · obtain ⟨F, ds, _, hl, r, _⟩ := h
    rw [r.length, hl]
  · obtain ⟨F, ds, sm, hl, r, h⟩ := h
    have tk : Takes (cxQ (L2.CX P w) P w K mg base N qual (defScope st) f cdv A outer s H E) (fun cls d _ H => E cls d H) := takes_of rfl rfl rfl rfl
    have v : Pq (cxQ (L2.CX P w) P w K mg base N qual (defScope st) f cdv A outer s H E) ⟨G, F, H⟩ (fun cls d _ H => E cls d H) := by
      refine ⟨hK, ?_, tk, ?_⟩
      · have := hr.un
        show Around.units (A.deeper _) + 65 < _
        omega
      · exact passes_of rfl
    refine ⟨_, hb cdv A outer s H F E hr v, ?_⟩
    refine ⟨F, ds.map Sl.sh ++ List.replicate (N.length - ds.length) .no, start_str (C := ⟨G, F, H⟩) ⟨rfl, rfl⟩ sm r (by omega), ?_⟩
    have hne : g ds ≠ .bad := fun z => by rw [z] at h; exact h
    have hrun := hg ds hl hne
    unfold runB at hrun
    cases q : body (ds.map Sl.sh ++ List.replicate (N.length - ds.length) .no) with
    | nx s' =>
      rw [q] at hrun
      have hrun : R.ok D.non = g ds := hrun
      rw [← hrun] at h
      exact fun F' H' σ' S' f' l' => h .non F' H' S'.ext (rep_non.mpr rfl)
    | rt b d =>
      rw [q] at hrun
      have hrun : (if b = false then R.ok d else .bad) = g ds := hrun
      by_cases hb : b = false
      · rw [if_pos hb] at hrun
        rw [← hrun] at h
        subst hb
        exact fun u F' H' e f' r' => h u F' H' e r'
      · rw [if_neg hb] at hrun
        rw [← hrun] at hne
        exact (hne rfl).elim
    | ex c vs s' =>
      rw [q] at hrun
      have hrun : R.ex c vs = g ds := hrun
      rw [← hrun] at h
      exact fun cls dx F' H' σ' S' f' l' x => h cls dx F' H' S'.ext x
    | rm d s' => rw [q] at hrun; exact (hne hrun.symm).elim
    | rn j s' => rw [q] at hrun; exact (hne hrun.symm).elim
    | bk s' => rw [q] at hrun; exact (hne hrun.symm).elim
    | ct s' => rw [q] at hrun; exact (hne hrun.symm).elim
    | bad => rw [q] at hrun; exact (hne hrun.symm).elim
end
end Z
namespace Z
noncomputable section
open PySem PySem.Spec PySem.P PyProof.Rows L2
def joinT (x : D) : List D → R D
  | [.tup xs] => joinD x (.lst xs)
  | _ => .bad
theorem joinT_ne : NoExM joinT := fun x xs c vs h => by
  unfold joinT at h
  split at h
  · exact joinD_ne _ _ _ _ h
  · cases h
section
variable {X : Cx} {C : CT} {W : WX} {a e : Expr} {fa : SS → R D} {fs : SS → R (List D)} {apos pos : Pos}
theorem mt_joinT (hK : X.K = C.G.K) : MtR X "str.join" (rM C.G joinT) := by
  intro pins s σ H x xs v us Q I rx rs h
  obtain ⟨F, d, ds, S, b1, r, p⟩ := h
  unfold joinT at p
  split at p
  · rename_i xs
    obtain ⟨u, rfl, b2⟩ := pair1 r
    unfold joinD at p
    split at p
    · rename_i z xs2 e2
      cases e2
      split at p
      · rename_i ys hy
        split at p
        · rename_i hz
          obtain ⟨ea, ka⟩ := bor_str b1
          obtain ⟨p', vs, e', q, rr⟩ := bor_tup S b2
          obtain ⟨ev, kv⟩ := strs_rep hy rr
          rw [ev, ← hK] at q
          refine mt_join pins s σ H x _ v us Q I rx rs ⟨_, p', ys.map toS, ea, by rw [e'], .inr q, ?_, ?_⟩
          · have l1 : (⟨z.toArray⟩ : Str).length = z.length := List.size_toArray
            rw [l1, List.length_map]
            have : (ys.map toS).map (·.length) = ys.map (·.length) := SX.lens ys
            rw [this]
            exact (sz_is ▸ hz)
          · have : Txt.join (⟨z.toArray⟩ : Str) (ys.map toS) = ⟨(TL.joinL z ys).toArray⟩ := SX.join_S z ys
            rw [this]
            exact p.str S (okS_join ka kv)
        · exact p.elim
      · exact p.elim
    · exact p.elim
  · exact p.elim
theorem s_joinT (v : Pq X C W) (ho : PE X a (tB C W fa)) (ha : PA X [e] (tAB C W fs))
    (hbase : attributeBase a "join" X.env (eval a X.env) = eval a X.env := by rfl)
    (hfew : ((backTo pos (starEach [e] X.env)).all (fun x => !x.1) && (backToKw pos (keywordEach [] X.env)).all (fun x => x.1.isSome)
      && decide (([e] : List Expr).length + ([] : List Keyword).length + (if ([] : List Keyword).isEmpty then 0 else 1) < 30)) = true := by rfl)
    (hline : (apos.endLine == pos.line) = true := by rfl) (hs : starEach [e] X.env = (false, eval e X.env) :: starEach [] X.env := by rfl) (hplain : (backTo pos (starEach [] X.env)).any (·.1) = false := by rfl) :
    PE X (.Call (.Attribute a "join" apos) [e] [] pos) (tD C W (eM "str" joinT fa fs)) :=
  s_me v (.inl rfl) joinT_ne PySem.F.plainAttrs_str PySem.F.slot_str_join PySem.F.type_str_join (mt_joinT v.K) ho ha hbase hfew hline hs hplain
end
end
end Z
namespace L81
open PySem PySem.Spec PySem.P PyProof.Rows L2 Z
noncomputable def m_is_sound : SS → RS :=
  (sSeq (sIf (eOr (eBin ltD (eCall lenD (aCons (eR 0) aNil)) (eC (.int 1))) (eBin gtD (eCall lenD (aCons (eR 0) aNil)) (eC (.int 8)))) (sRet (eC (.bl false))) sNx)
  (sSeq (sFor (iE (eV 0)) (gN 1) (sIf (eBin (inD true) (eR 1) (eC (.str [97, 98, 99, 100, 101, 102]))) (sRet (eC (.bl false))) sNx))
  (sRet (eC (.bl true)))))
noncomputable def f_is_sound : List D → R D := runB false 2 m_is_sound
theorem is_sound_ok (w : List Nat) (hw : w.length ≤ 1000000) : f_is_sound [.str w] = .ok (.bl (soundW w)) := by
  have hz : w.length ≤ SZ := le_sz (by omega)
  by_cases e : w.length < 1 ∨ 8 < w.length
  · have hs : soundW w = false := by unfold soundW; simp; omega
    rw [hs]
    rcases e with e | e
    · have e' : (w.length : Int) < 1 := by omega
      have e0 : w = [] := List.length_eq_zero_iff.mp (by omega)
      subst e0
      simp [f_is_sound, m_is_sound, runB_s, List.replicate]
    · have e' : (8 : Int) < w.length := by omega
      have e1 : ¬ (w.length : Int) < 1 := by omega
      simp [f_is_sound, m_is_sound, runB_s, List.replicate, hz, e', e1]
  · have e1 : ¬ (w.length : Int) < 1 := by omega
    have e2 : ¬ (8 : Int) < w.length := by omega
    simp [f_is_sound, m_is_sound, runB_s, List.replicate, hz, e1, e2]
    refine forL_ind (fun i s => ∃ a : Sl, s = [.sh (.str w), a] ∧ canS (some a) = true ∧ ∀ j c, j < i → w[j]? = some c → 97 ≤ c ∧ c ≤ 102)
      (fun r => fin false (bnd r _) = .ok (.bl (soundW w))) _ _ ⟨_, rfl, rfl, fun j c h => absurd h (Nat.not_lt_zero _)⟩ ?_ ?_
    · rintro i d s hd ⟨a, rfl, ha, hall⟩
      rw [List.getElem?_map] at hd
      cases q : w[i]? with
      | none => rw [q] at hd; cases hd
      | some c =>
        rw [q] at hd
        cases hd
        simp [turn_s, ha, inS_one]
        by_cases hc : 97 ≤ c ∧ c ≤ 102
        · have hc' : c = 97 ∨ c = 98 ∨ c = 99 ∨ c = 100 ∨ c = 101 ∨ c = 102 := by omega
          rw [if_neg (by omega)]
          refine ⟨_, rfl, rfl, ?_⟩
          intro j c' hj hc'
          by_cases hji : j < i
          · exact hall j c' hji hc'
          · have : j = i := by omega
            subst this
            rw [q] at hc'
            cases hc'
            exact hc
        · have hc' : ¬ (c = 97 ∨ c = 98 ∨ c = 99 ∨ c = 100 ∨ c = 101 ∨ c = 102) := by omega
          rw [if_pos (by omega)]
          dsimp only
          rw [fin_rt]
          congr 2
          symm
          unfold soundW
          simp only [Bool.and_eq_true, decide_eq_true_eq, List.all_eq_true, Bool.eq_false_iff, ne_eq]
          exact fun h => hc (h.2 c (List.mem_of_getElem? q))
    · rintro s ⟨a, rfl, ha, hall⟩
      simp
      unfold soundW
      simp only [Bool.and_eq_true, decide_eq_true_eq, List.all_eq_true]
      refine ⟨by omega, fun c hc => ?_⟩
      obtain ⟨j, hj, rfl⟩ := List.mem_iff_getElem.mp hc
      exact hall j _ (by simpa using hj) (List.getElem?_eq_getElem hj)

noncomputable def m_Web : SS → RS :=
  (sSeq (sIf (eBin gtD (eCall lenD (aCons (eR 1) aNil)) (eC (.int 64))) (sRaise 3) sNx)
  (sSeq (sIf (eBin eqD (eCall lenD (aCons (eR 1) aNil)) (eC (.int 0))) (sRaise 2) sNx)
  (sSeq (sFor (iE (eV 1)) (gN 2) (sIf (eOr (eNot (eCall f_is_sound (aCons (eV 2) aNil))) (eBin neD (eCall lenD (aCons (eR 2) aNil)) (eCall lenD (aCons (eBin ixD (eR 1) (eC (.int 0))) aNil)))) (sRaise 2) sNx))
  (sSeq (sIf (eBin ltD (eUn lenSetWD (eR 1)) (eCall lenD (aCons (eR 1) aNil))) (sRaise 2) sNx)
  (sSeq (sFldK 0 0 1 (eCall tupleD (aCons (eCall sortWD (aCons (eR 1) aNil)) aNil)))
  (sFldK 0 1 2 (eCall lenD (aCons (eBin ixD (eR 1) (eC (.int 0))) aNil))))))))
noncomputable def f_Web : List D → R (List D) := runK 0 2 3 m_Web
theorem web_seq (q : D) (us : List (List Nat)) (hl : ∀ w ∈ us, w.length ≤ 1000000) (hq : q = .lst (us.map .str) ∨ q = .tup (us.map .str)) : f_Web [q] = webR us := by
  have h1 : lenD [q] = .ok (.int us.length) := by rcases hq with rfl | rfl <;> simp
  have h2 : itD q = .ok (us.map .str) := by rcases hq with rfl | rfl <;> rfl
  have h3 : ∀ u, us[0]? = some u → ixD q (.int 0) = .ok (.str u) := fun u hu => by
    rcases hq with rfl | rfl
    · exact ixD_l _ _ (by omega) _ (by simp [hu])
    · exact ixD_t _ _ (by omega) _ (by simp [hu])
  have h4 : us.length < 4097 → lenSetWD q = .ok (.int ((dedT us).length : Nat)) := fun h => by rcases hq with rfl | rfl <;> simp [lenSetD_m us h]
  have h5 : sortWD [q] = .ok (.lst ((sortT us).map .str)) := by rcases hq with rfl | rfl <;> simp
  simp only [f_Web, m_Web, runK_s]
  by_cases c1 : 64 < us.length
  · have c1' : (64 : Int) < us.length := by omega
    simp [List.replicate, h1, c1', webR, c1]
  · have c1' : ¬ (64 : Int) < us.length := by omega
    by_cases c2 : us.length = 0
    · have e0 : us = [] := List.length_eq_zero_iff.mp c2
      subst e0
      simp [List.replicate, h1, webR, webOkB]
    · have c2' : ¬ ((us.length : Int) = 0) := by omega
      have c3 : ((us.length : Int) == 0) = false := by simpa using c2'
      obtain ⟨u, r, rfl⟩ : ∃ u r, us = u :: r := by cases us with | nil => simp at c2 | cons u r => exact ⟨u, r, rfl⟩
      have h3' := h3 u rfl
      have h4' := h4 (by omega)
      clear h3 h4
      have h3 := h3'
      have h4 := h4'
      clear h3' h4'
      generalize hus : u :: r = us at *
      have hu : us[0]? = some u := by rw [← hus]; rfl
      have hum : u ∈ us := List.mem_of_getElem? hu
      have hul := hl u hum
      have zu : u.length ≤ SZ := le_sz (by omega)
      have c2n : ¬ us = [] := by rw [← hus]; simp
      simp [List.replicate, h1, c1', c3, c2n, h2]
      refine forL_ind (fun i s => ∃ a : Sl, s = [.lk (.obj 0 []), .sh q, a] ∧ canS (some a) = true ∧ ∀ j w, j < i → us[j]? = some w → soundW w = true ∧ w.length = u.length)
        (fun x => finK 2 (bnd x _) = webR us) _ _ ⟨_, rfl, rfl, fun j c h => absurd h (Nat.not_lt_zero _)⟩ ?_ ?_
      · rintro i d s hd ⟨a, rfl, ha, hall⟩
        rw [List.getElem?_map] at hd
        cases qw : us[i]? with
        | none => rw [qw] at hd; cases hd
        | some w =>
          rw [qw] at hd
          cases hd
          have hwm := List.mem_of_getElem? qw
          have hwl := hl w hwm
          have zw : w.length ≤ SZ := le_sz (by omega)
          by_cases hb : soundW w = true ∧ w.length = u.length
          · have hb2 : ((w.length : Int) == (u.length : Int)) = true := by simp [hb.2]
            simp [turn_s, ha, is_sound_ok w hwl, hb.1, zw, zu, h3, hb2, hb.2]
            intro j w' hj hw'
            by_cases hji : j < i
            · exact hall j w' hji hw'
            · have : j = i := by omega
              subst this
              rw [qw] at hw'
              cases hw'
              exact hb
          · have hbad : webR us = .ex 2 [] := by
              unfold webR
              rw [if_neg c1, if_neg]
              intro h
              have := webOkB_iff.mp h
              exact hb ⟨this.2.1 w hwm, this.2.2.1 w hwm u hum⟩
            rw [hbad]
            by_cases hs : soundW w = true
            · have hne : ¬ w.length = u.length := fun e => hb ⟨hs, e⟩
              have hb2 : ((w.length : Int) == (u.length : Int)) = false := by simp; omega
              simp [turn_s, ha, is_sound_ok w hwl, hs, zw, zu, h3, hb2, hne]
            · simp [turn_s, ha, is_sound_ok w hwl, hs]
      · rintro s ⟨a, rfl, ha, hall⟩
        have hall' : ∀ w ∈ us, soundW w = true ∧ w.length = u.length := fun w hw => by
          obtain ⟨j, hj, rfl⟩ := List.mem_iff_getElem.mp hw
          exact hall j _ (by simpa using hj) (List.getElem?_eq_getElem hj)
        by_cases hn : us.Nodup
        · have e1 : ¬ (((dedT us).length : Int) < us.length) := by rw [ded_len.mpr hn]; omega
          have hok : webOkB us = true := webOkB_iff.mpr ⟨c2n, fun w hw => (hall' w hw).1, fun v hv w hw => (hall' v hv).2.trans (hall' w hw).2.symm, hn⟩
          simp [h4, h1, e1, h5, h3, zu, webR, c1, hok, tupleD]
          rw [← hus]
          simp
        · have e1 : (((dedT us).length : Int) < us.length) := by
            have h := dedT_le us
            have h' : (dedT us).length ≠ us.length := fun e => hn (ded_len.mp e)
            omega
          have hok : webOkB us = false := by
            cases hx : webOkB us with
            | false => rfl
            | true => exact absurd (webOkB_iff.mp hx).2.2.2 hn
          simp [h4, h1, e1, webR, c1, hok]
theorem web_l (us : List (List Nat)) (hl : ∀ w ∈ us, w.length ≤ 1000000) : f_Web [.lst (us.map .str)] = webR us := web_seq _ us hl (.inl rfl)
noncomputable def m_law_stir : SS → RS :=
  (sSeq (sSet 2 (eBin modD (eBin addD (eBin mulD (eBin modD (eR 0) (eC (.int 1000000007))) (eC (.int 48271))) (eBin mulD (eBin mulD (eBin addD (eR 1) (eC (.int 1))) (eBin addD (eR 1) (eC (.int 1)))) (eC (.int 69621)))) (eC (.int 2147483647))))
  (sRet (eBin modD (eBin mulD (eR 2) (eR 2)) (eC (.int 2147483629)))))
noncomputable def f_law_stir : List D → R D := runB false 3 m_law_stir
theorem law_stir_ok (x : Int) (k : Int) (hk : 0 ≤ k ∧ k ≤ 100000) : ∃ z : Int, f_law_stir [.int x, .int k] = .ok (.int z) ∧ 0 ≤ z := by
  have mu : ∀ p q : Int, p.natAbs < 18446744073709551616 → mulD (.int p) (.int q) = .ok (.int (p * q)) := fun p q h => by rw [mulD_i, if_pos (.inl h)]
  have m1 := modD_i x 1000000007 (by omega)
  have hx : 0 ≤ x % 1000000007 ∧ x % 1000000007 < 1000000007 := ⟨Int.emod_nonneg _ (by omega), Int.emod_lt_of_pos _ (by omega)⟩
  generalize x % 1000000007 = y at *
  have u1 := mu y 48271 (by omega)
  have u2 := mu (k + 1) (k + 1) (by omega)
  have hkk : 0 ≤ (k + 1) * (k + 1) ∧ (k + 1) * (k + 1) ≤ 100001 * 100001 := ⟨Int.mul_nonneg (by omega) (by omega), Int.mul_le_mul (by omega) (by omega) (by omega) (by omega)⟩
  generalize (k + 1) * (k + 1) = kk at *
  have u3 := mu kk 69621 (by omega)
  have m2 := modD_i (y * 48271 + kk * 69621) 2147483647 (by omega)
  have hm : 0 ≤ (y * 48271 + kk * 69621) % 2147483647 ∧ (y * 48271 + kk * 69621) % 2147483647 < 2147483647 := ⟨Int.emod_nonneg _ (by omega), Int.emod_lt_of_pos _ (by omega)⟩
  generalize (y * 48271 + kk * 69621) % 2147483647 = m at *
  have u4 := mu m m (by omega)
  have m3 := modD_i (m * m) 2147483629 (by omega)
  refine ⟨m * m % 2147483629, ?_, Int.emod_nonneg _ (by omega)⟩
  generalize m * m = mm at *
  simp [f_law_stir, m_law_stir, runB_s, List.replicate, m1, u1, u2, u3, m2, u4, m3]

noncomputable def m_law_text : SS → RS :=
  (sRet (eM "str" joinM (eC (.str [])) (aCons (eComp (iRg1 (aCons (eR 1) aNil)) (gN 3) [3] cYes (eBin ixD (eC (.str [97, 98, 99, 100, 101, 102])) (eBin modD (eBin fdivD (eCall f_law_stir (aCons (eV 0) (aCons (eV 3) aNil))) (eC (.int 7))) (eR 2)))) aNil)))
noncomputable def f_law_text : List D → R D := runB false 4 m_law_text

noncomputable def m_law_least : SS → RS :=
  (sRet (eCall min1D (aCons (eComp (iRg1 (aCons (eCall lenD (aCons (eR 0) aNil)) aNil)) (gN 1) [1] cYes (eBin addD (eSl (eR 0) (oSo (eV 1)) oNo) (eSl (eR 0) oNo (oSo (eV 1))))) aNil)))
noncomputable def f_law_least : List D → R D := runB false 2 m_law_least
theorem minL_rots {w : List Nat} (h0 : w ≠ []) : minL (rots w) = lrot w := by
  have hp := List.length_pos_iff.mpr h0
  have hne : rots w ≠ [] := fun e => by
    have := congrArg List.length e
    simp [rots] at this
    exact h0 this
  obtain ⟨a, b⟩ := minL_spec hne
  exact lrot_uniq h0 a b
theorem law_least_ok (w : List Nat) (h0 : w ≠ []) (h : w.length ≤ 1000) : f_law_least [.str w] = .ok (.str (lrot w)) := by
  have zw : w.length ≤ SZ := le_sz (by omega)
  have hne : rots w ≠ [] := fun e => by
    have := congrArg List.length e
    simp [rots] at this
    exact h0 this
  have m1 := min1D_l (rots w) hne
  rw [minL_rots h0] at m1
  have cm : ∀ s : SS, s = [.sh (.str w), .no] → rComp (mapD (cStep (gN 1) [1] cYes (eBin addD (eSl (eR 0) (oSo (eV 1)) oNo) (eSl (eR 0) oNo (oSo (eV 1)))) s) (rangeD 0 w.length)) = .ok (.lst ((rots w).map .str)) := fun s hs => by
    subst hs
    rw [comp_range (fun j => .str (rot w j)) _ _ w.length (by omega) (by omega) (fun j hj => by
      have s1 : slD (.str w) (some (j : Int)) none = .ok (.str (w.drop j)) := by rw [slD_s _ _ _ zw, cutL_from _ _ (by omega), Int.toNat_natCast]
      have s2 : slD (.str w) none (some (j : Int)) = .ok (.str (w.take j)) := by rw [slD_s _ _ _ zw, cutL_to _ _ (by omega), Int.toNat_natCast]
      have ad : addD (.str (w.drop j)) (.str (w.take j)) = .ok (.str (rot w j)) := by rw [addD_s, if_pos (le_sz (by simp; omega))]; rfl
      rw [Int.zero_add]
      simp [cStep_s, gN, setS_s, rStep, s1, s2, ad])]
    unfold rots
    rw [List.map_map]
    rfl
  generalize (rots w).map D.str = RR at *
  simp [f_law_least, m_law_least, runB_s, List.replicate, zw, -rComp_ok]
  rw [rng1_i _ (by unfold fit62; omega)]
  simp [-rComp_ok]
  rw [cm _ rfl]
  simp [m1]

noncomputable def m_law_ask : SS → RS :=
  (sSeq (sSet 2 (eBin fdivD (eCall f_law_stir (aCons (eV 0) (aCons (eC (.int 41)) aNil))) (eC (.int 7))))
  (sSeq (sSet 3 (eBin modD (eR 0) (eBin powD (eC (.int 10)) (eC (.int 59)))))
  (sSeq (sSet 4 (eBin ixD (eLst (aCons (eC (.int 1)) (aCons (eC (.int 2)) (aCons (eC (.int 3)) (aCons (eC (.int 4)) (aCons (eC (.int 5)) (aCons (eC (.int 6)) (aCons (eC (.int 2)) (aCons (eC (.int 3)) (aCons (eC (.int 0)) (aCons (eC (.int 7)) (aCons (eBin addD (eC (.int 7)) (eR 3)) aNil)))))))))))) (eBin modD (eR 2) (eC (.int 11)))))
  (sSeq (sSet 5 (eBin addD (eC (.int 1)) (eBin modD (eBin fdivD (eR 2) (eC (.int 10))) (eBin ixD (eLst (aCons (eC (.int 8)) (aCons (eC (.int 8)) (aCons (eC (.int 6)) (aCons (eC (.int 5)) (aCons (eC (.int 4)) (aCons (eC (.int 4)) (aCons (eC (.int 8)) (aCons (eC (.int 6)) (aCons (eC (.int 8)) (aCons (eC (.int 8)) (aCons (eC (.int 8)) aNil)))))))))))) (eBin modD (eR 2) (eC (.int 11)))))))
  (sSeq (sIf (eV 1) (sSeq (sSet 5 (eBin ixD (eLst (aCons (eBin addD (eC (.int 9)) (eBin modD (eBin fdivD (eR 2) (eC (.int 10))) (eC (.int 4)))) (aCons (eC (.int 25)) (aCons (eC (.int 26)) aNil)))) (eBin modD (eBin fdivD (eR 2) (eC (.int 300))) (eC (.int 3)))))
  (sIf (eAnd (eBin ltD (eR 5) (eC (.int 25))) (eChain ltD ltD (eC (.int 2)) (eR 4) (eC (.int 7)))) (sSet 4 (eC (.int 2))) sNx)) sNx)
  (sSeq (sSet 6 (eCall max2D (aCons (eC (.int 1)) (aCons (eCall min2D (aCons (eC (.int 6)) (aCons (eR 4) aNil))) aNil))))
  (sSeq (sSet 7 (eCall f_law_text (aCons (eCall f_law_stir (aCons (eV 0) (aCons (eC (.int 42)) aNil))) (aCons (eV 5) (aCons (eV 6) aNil)))))
  (sSeq (sIf (eBin gtD (eBin modD (eBin fdivD (eR 2) (eC (.int 600))) (eC (.int 5))) (eC (.int 0))) (sSet 7 (eCall f_law_least (aCons (eV 7) aNil))) sNx)
  (sSeq (sIf (eBin eqD (eBin modD (eBin fdivD (eR 2) (eC (.int 3000))) (eC (.int 2))) (eC (.int 0))) (sSeq (sSet 8 (eBin ixD (eLst (aCons (eBin fdivD (eR 2) (eC (.int 6000))) (aCons (eBin modD (eR 0) (eBin powD (eC (.int 10)) (eC (.int 60)))) aNil))) (eBin modD (eBin fdivD (eR 2) (eC (.int 6000))) (eC (.int 2)))))
  (sSeq (sSet 9 (eBin ixD (eLst (aCons (eC (.int 0)) (aCons (eC (.int 1)) (aCons (eC (.int 7)) (aCons (eC (.int 30)) (aCons (eC (.int 200)) (aCons (eC (.int 201)) (aCons (eBin addD (eC (.int 201)) (eR 3)) aNil)))))))) (eBin modD (eBin fdivD (eR 2) (eC (.int 12000))) (eC (.int 7)))))
  (sRet (eTup (aCons (eC (.str [112, 105, 101, 99, 101])) (aCons (eV 7) (aCons (eCall strD (aCons (eR 4) aNil)) (aCons (eCall strD (aCons (eR 8) aNil)) (aCons (eCall strD (aCons (eR 9) aNil)) aNil))))))))) sNx)
  (sSeq (sSet 10 (eCall f_law_text (aCons (eCall f_law_stir (aCons (eV 0) (aCons (eC (.int 43)) aNil))) (aCons (eV 5) (aCons (eV 6) aNil)))))
  (sSeq (sIf (eBin eqD (eBin modD (eBin fdivD (eR 2) (eC (.int 6000))) (eC (.int 6))) (eC (.int 0))) (sSet 10 (eBin addD (eR 10) (eC (.str [97])))) sNx)
  (sSeq (sIf (eAnd (eBin eqD (eBin modD (eBin fdivD (eR 2) (eC (.int 6000))) (eC (.int 6))) (eC (.int 1))) (eBin gtD (eR 5) (eC (.int 1)))) (sSet 10 (eSl (eR 10) (oSo (eC (.int 1))) oNo)) sNx)
  (sSeq (sIf (eBin eqD (eBin modD (eBin fdivD (eR 2) (eC (.int 6000))) (eC (.int 6))) (eC (.int 2))) (sSet 10 (eBin addD (eSl (eR 7) (oSo (eC (.int 1))) oNo) (eSl (eR 7) oNo (oSo (eC (.int 1)))))) sNx)
  (sRet (eTup (aCons (eC (.str [112, 108, 97, 99, 101])) (aCons (eV 7) (aCons (eCall strD (aCons (eR 4) aNil)) (aCons (eV 10) aNil)))))))))))))))))))
noncomputable def f_law_ask : List D → R D := runB false 11 m_law_ask

noncomputable def m_letters : SS → RS :=
  (sSeq (sIf (eOr (eBin ltD (eR 0) (eC (.int 1))) (eBin gtD (eR 0) (eCall lenD (aCons (eC (.str [97, 98, 99, 100, 101, 102])) aNil)))) (sRaise 1) sNx)
  (sRet (eSl (eC (.str [97, 98, 99, 100, 101, 102])) oNo (oSo (eV 0)))))
noncomputable def f_letters : List D → R D := runB false 1 m_letters
theorem letters_ok (k : Int) (h1 : 1 ≤ k) (h2 : k ≤ 6) : f_letters [.int k] = .ok (.str (abc k)) := by
  have hz : ([97, 98, 99, 100, 101, 102] : List Nat).length ≤ SZ := le_sz (by decide)
  simp at hz
  have e1 : ¬ k < 1 := by omega
  have e2 : ¬ 6 < k := by omega
  simp [f_letters, m_letters, runB_s, hz, e1, e2, slD_s]
  rw [cutL_to _ _ (by omega)]
  rfl
theorem letters_bad (k : Int) (h : ¬ (1 ≤ k ∧ k ≤ 6)) : f_letters [.int k] = .ex 1 [] := by
  have hz : ([97, 98, 99, 100, 101, 102] : List Nat).length ≤ SZ := le_sz (by decide)
  simp at hz
  by_cases e1 : k < 1
  · simp [f_letters, m_letters, runB_s, hz, e1]
  · have e2 : 6 < k := by omega
    simp [f_letters, m_letters, runB_s, hz, e1, e2]

noncomputable def m_looked : SS → RS :=
  (sSeq (sSet 2 (eCall f_letters (aCons (eV 1) aNil)))
  (sSeq (sIf (eOr (eBin ltD (eCall lenD (aCons (eR 0) aNil)) (eC (.int 1))) (eBin gtD (eCall lenD (aCons (eR 0) aNil)) (eC (.int 24)))) (sRaise 2) sNx)
  (sFor (iE (eV 0)) (gN 3) (sIf (eBin (inD true) (eR 3) (eR 2)) (sRaise 2) sNx))))
noncomputable def f_looked : List D → R D := runB false 4 m_looked
theorem looked_badk (w : D) (k : Int) (h : ¬ (1 ≤ k ∧ k ≤ 6)) : f_looked [w, .int k] = .ex 1 [] := by
  simp [f_looked, m_looked, runB_s, List.replicate, letters_bad k h]
theorem looked_all (w : List Nat) (k : Int) (h1 : 1 ≤ k) (h2 : k ≤ 6) (hw : w.length ≤ 100000) : f_looked [.str w, .int k] = if goodW w k = true then .ok .non else .ex 2 [] := by
  have hz : w.length ≤ SZ := le_sz (by omega)
  by_cases e : w.length < 1 ∨ 24 < w.length
  · have : goodW w k = false := by
      unfold goodW
      rcases e with e | e
      · simp; omega
      · simp; omega
    rw [this]
    rcases e with e | e
    · have e' : (w.length : Int) < 1 := by omega
      have e0 : w = [] := List.length_eq_zero_iff.mp (by omega)
      subst e0
      simp [f_looked, m_looked, runB_s, List.replicate, letters_ok k h1 h2]
    · have e' : (24 : Int) < w.length := by omega
      simp [f_looked, m_looked, runB_s, List.replicate, letters_ok k h1 h2, hz, e']
  · have e1 : ¬ (w.length : Int) < 1 := by omega
    have e2 : ¬ (24 : Int) < w.length := by omega
    simp [f_looked, m_looked, runB_s, List.replicate, letters_ok k h1 h2, hz, e1, e2]
    refine forL_ind (fun i s => ∃ a : Sl, s = [.sh (.str w), .sh (.int k), .sh (.str (abc k)), a] ∧ canS (some a) = true ∧ ∀ j c, j < i → w[j]? = some c → 97 ≤ c ∧ (c : Int) < 97 + k)
      (fun r => fin false r = if goodW w k = true then .ok .non else .ex 2 []) _ _ ⟨_, rfl, rfl, fun j c h => absurd h (Nat.not_lt_zero _)⟩ ?_ ?_
    · rintro i d s hd ⟨a, rfl, ha, hall⟩
      rw [List.getElem?_map] at hd
      cases q : w[i]? with
      | none => rw [q] at hd; cases hd
      | some c =>
        rw [q] at hd
        cases hd
        simp [turn_s, ha, inS_one]
        by_cases hc : c ∈ abc k
        · simp [hc]
          intro j c' hj hc'
          by_cases hji : j < i
          · exact hall j c' hji hc'
          · have : j = i := by omega
            subst this
            rw [q] at hc'
            cases hc'
            exact (mem_abc h1 h2).mp hc
        · simp [hc]
          have : goodW w k = false := by
            cases g : goodW w k with
            | false => rfl
            | true =>
              exact absurd ((mem_abc h1 h2).mpr ((goodW_iff.mp g).2.2 c (List.mem_of_getElem? q))) hc
          simp [this]
    · rintro s ⟨a, rfl, ha, hall⟩
      have : goodW w k = true := goodW_iff.mpr ⟨by omega, by omega, fun c hc => by
        obtain ⟨j, hj, rfl⟩ := List.mem_iff_getElem.mp hc
        exact hall j _ (by simpa using hj) (List.getElem?_eq_getElem hj)⟩
      simp [this]

noncomputable def m_turns_of : SS → RS :=
  (sRet (eComp (iRg1 (aCons (eCall lenD (aCons (eR 0) aNil)) aNil)) (gN 1) [1] cYes (eBin addD (eSl (eR 0) (oSo (eV 1)) oNo) (eSl (eR 0) oNo (oSo (eV 1))))))
noncomputable def f_turns_of : List D → R D := runB false 2 m_turns_of
theorem turns_ok (w : List Nat) (h : w.length ≤ 100000) : f_turns_of [.str w] = .ok (.lst ((rots w).map .str)) := by
  have h1 : w.length ≤ SZ := le_sz (by omega)
  simp [f_turns_of, m_turns_of, runB_s, List.replicate, h1]
  rw [rng1_i _ (by unfold fit62; omega)]
  simp [-rComp_ok]
  rw [comp_range (fun k => .str (rot w k)) _ _ w.length (by omega) (by omega) (fun k hk => by
    have h2 : w.length - k + min k w.length ≤ SZ := le_sz (by omega)
    simp [cStep_s, slD_s, h1, cutL_to, cutL_from, addD_s, h2, rot])]
  simp [rots]

noncomputable def m_least_turn : SS → RS :=
  (sRet (eCall min1D (aCons (eCall f_turns_of (aCons (eV 0) aNil)) aNil)))
noncomputable def f_least_turn : List D → R D := runB false 1 m_least_turn
theorem least_turn_ok (w : List Nat) (h0 : w ≠ []) (h : w.length ≤ 100000) : f_least_turn [.str w] = .ok (.str (lrot w)) := by
  obtain ⟨ys, e⟩ := rots_cons h0
  simp [f_least_turn, m_least_turn, runB_s, List.replicate, turns_ok w h]
  unfold lrot
  rw [e]
  simp

noncomputable def m_is_least : SS → RS :=
  (sRet (eBin eqD (eCall f_least_turn (aCons (eV 0) aNil)) (eR 0)))
noncomputable def f_is_least : List D → R D := runB false 1 m_is_least
theorem is_least_ok (w : List Nat) (h0 : w ≠ []) (h : w.length ≤ 100000) : f_is_least [.str w] = .ok (.bl (lrot w == w)) := by
  simp [f_is_least, m_is_least, runB_s, List.replicate, least_turn_ok w h0 h]

noncomputable def m_looked_first : SS → RS :=
  (sSeq (sX (eCall f_looked (aCons (eV 0) (aCons (eV 1) aNil))))
  (sIf (eNot (eCall f_is_least (aCons (eV 0) aNil))) (sRaise 2) sNx))
noncomputable def f_looked_first : List D → R D := runB false 2 m_looked_first
theorem looked_first_ok (f : List Nat) (k : Nat) (h1 : 1 ≤ k) (h2 : k ≤ 6) (hg : goodW f k = true) (hN : Nk f) : f_looked_first [.str f, .int k] = .ok .non := by
  obtain ⟨g1, g2, g3⟩ := goodW_iff.mp hg
  have h0 : f ≠ [] := List.length_pos_iff.mp (by omega)
  have lk := looked_all f k (by omega) (by omega) (by omega)
  rw [if_pos hg] at lk
  have il := is_least_ok f h0 (by omega)
  rw [show (lrot f == f) = true by simpa using (nk_iff h0).mp hN] at il
  simp [f_looked_first, m_looked_first, runB_s, List.replicate, lk, il]
theorem looked_first_badk (f : D) (k : Int) (h : ¬ (1 ≤ k ∧ k ≤ 6)) : f_looked_first [f, .int k] = .ex 1 [] := by
  simp [f_looked_first, m_looked_first, runB_s, List.replicate, looked_badk f k h]
theorem looked_first_bad (f : List Nat) (k : Nat) (h1 : 1 ≤ k) (h2 : k ≤ 6) (hl : f.length ≤ 1000) (hg : goodW f k = false ∨ ¬ Nk f) : f_looked_first [.str f, .int k] = .ex 2 [] := by
  have lk := looked_all f k (by omega) (by omega) (by omega)
  cases hq : goodW f k with
  | false =>
    rw [hq] at lk
    simp [f_looked_first, m_looked_first, runB_s, List.replicate, lk]
  | true =>
    obtain ⟨g1, g2, g3⟩ := goodW_iff.mp hq
    have h0 : f ≠ [] := List.length_pos_iff.mp (by omega)
    rw [if_pos hq] at lk
    have hN := hg.resolve_left (by rw [hq]; exact Bool.noConfusion)
    have il := is_least_ok f h0 (by omega)
    rw [show (lrot f == f) = false by rw [beq_eq_false_iff_ne]; exact fun e => hN ((nk_iff h0).mpr e)] at il
    simp [f_looked_first, m_looked_first, runB_s, List.replicate, lk, il]

noncomputable def m_word_count : SS → RS :=
  (sSeq (sX (eCall f_letters (aCons (eV 1) aNil)))
  (sSeq (sIf (eOr (eBin ltD (eR 0) (eC (.int 1))) (eBin gtD (eR 0) (eC (.int 24)))) (sRaise 2) sNx)
  (sSeq (sSet 2 (eC (.int 1)))
  (sSeq (sFor (iRg1 (aCons (eR 0) aNil)) (gN 3) (sSet 2 (eBin mulD (eR 2) (eR 1))))
  (sRet (eV 2))))))
noncomputable def f_word_count : List D → R D := runB false 4 m_word_count
theorem word_count_ok (n k : Int) (h1 : 1 ≤ k) (h2 : k ≤ 6) (h3 : 1 ≤ n) (h4 : n ≤ 24) : f_word_count [.int n, .int k] = .ok (.int (k ^ n.toNat)) := by
  have e1 : ¬ n < 1 := by omega
  have e2 : ¬ 24 < n := by omega
  simp [f_word_count, m_word_count, runB_s, List.replicate, letters_ok k h1 h2, e1, e2]
  rw [rng1_i _ (by unfold fit62; omega)]
  simp
  refine forR_then (k := fun r => fin false (bnd r _)) (fun i s => ∃ a : Sl, s = [.sh (.int n), .sh (.int k), .sh (.int (k ^ i)), a] ∧ canS (some a) = true) ⟨_, by simp; rfl, rfl⟩ ?_ ?_
  · rintro i s hi ⟨a, rfl, ha⟩
    simp [turn_s, ha, mulD_i, show k.natAbs < 18446744073709551616 by omega, Int.pow_succ]
  · rintro s ⟨a, rfl, -⟩
    simp

noncomputable def m_is_beginning : SS → RS :=
  (sRet (eAnd (eBin leD (eCall lenD (aCons (eR 0) aNil)) (eR 1)) (eCall f_is_least (aCons (eBin addD (eR 0) (eBin mulD (eR 2) (eBin subD (eR 1) (eCall lenD (aCons (eR 0) aNil))))) aNil))))
noncomputable def f_is_beginning : List D → R D := runB false 3 m_is_beginning
theorem is_beginning_ok (t : List Nat) (n top : Nat) (h0 : 0 < n) (h : n ≤ 1000) (ht : t.length ≤ 1000) : f_is_beginning [.str t, .int n, .str [top]] = .ok (.bl (begB top n t)) := by
  have h1 : t.length ≤ SZ := le_sz (by omega)
  by_cases e : t.length ≤ n
  · have e0 : (t.length : Int) ≤ n := by omega
    have e1 : ((n : Int) - t.length).toNat = n - t.length := by omega
    have h2 : n - t.length ≤ SZ := le_sz (by omega)
    have h3 : t.length + (n - t.length) ≤ SZ := le_sz (by omega)
    simp [f_is_beginning, m_is_beginning, runB_s, h1, e0, mulD_s, e1, h2, repS_one, addD_s, h3, show (n : Int) - t.length < 9223372036854775808 by omega, show -9223372036854775808 ≤ (n : Int) - t.length by omega]
    rw [is_least_ok _ (by intro e; have := congrArg List.length e; rw [List.length_append, List.length_replicate, List.length_nil] at this; omega) (by rw [List.length_append, List.length_replicate]; omega)]
    simp [begB, e]
  · have e0 : ¬ (t.length : Int) ≤ n := by omega
    simp [f_is_beginning, m_is_beginning, runB_s, h1, e0, begB, e]

noncomputable def m_last_least : SS → RS :=
  (sSeq (sX (eCall f_looked (aCons (eV 0) (aCons (eV 1) aNil))))
  (sSeq (sSet 2 (eCall f_letters (aCons (eV 1) aNil)))
  (sSeq (sSet 3 (eV 0))
  (sSeq (sFor (iRg3 (aCons (eBin subD (eCall lenD (aCons (eR 0) aNil)) (eC (.int 1))) (aCons (eUn negD (eC (.int 1))) (aCons (eUn negD (eC (.int 1))) aNil)))) (gN 4) (sSeq (sIf (eCall f_is_least (aCons (eV 3) aNil)) sBk sNx)
  (sFor (iE (eSl (eR 2) oNo (oSo (eM "str" idxS (eR 2) (aCons (eBin ixD (eR 0) (eR 4)) aNil))))) (gN 5) (sIf (eCall f_is_beginning (aCons (eBin addD (eSl (eR 0) oNo (oSo (eV 4))) (eR 5)) (aCons (eCall lenD (aCons (eR 0) aNil)) (aCons (eBin ixD (eR 2) (eUn negD (eC (.int 1)))) aNil)))) (sSet 3 (eBin addD (eBin addD (eSl (eR 0) oNo (oSo (eV 4))) (eR 5)) (eBin mulD (eBin ixD (eR 2) (eUn negD (eC (.int 1)))) (eBin subD (eBin subD (eCall lenD (aCons (eR 0) aNil)) (eR 4)) (eC (.int 1)))))) sNx))))
  (sRet (eV 3))))))
noncomputable def f_last_least : List D → R D := runB false 6 m_last_least
theorem last_least_ok (w : List Nat) (k : Nat) (h1 : 1 ≤ k) (h2 : k ≤ 6) (hg : goodW w k = true) : ∃ f, f_last_least [.str w, .int k] = .ok (.str f) ∧ LastP 97 (96 + k) w.length w f := by
  obtain ⟨w1, w2, w3⟩ := goodW_iff.mp hg
  have hz : w.length ≤ SZ := le_sz (by omega)
  have hw0 : w ≠ [] := List.length_pos_iff.mp (by omega)
  have lk := looked_all w k (by omega) (by omega) (by omega)
  rw [if_pos hg] at lk
  have lt := letters_ok k (by omega) (by omega)
  have ng : negD (.int 1) = .ok (.int (-1)) := rfl
  have hza : (abc k).length ≤ SZ := le_sz (by rw [abc_len h2]; omega)
  have hr : ∀ x ∈ w, 97 ≤ x ∧ x ≤ 96 + k := fun x hx => by have := w3 x hx; omega
  have nk : ∀ {f : List Nat}, f ≠ [] → ((lrot f == f) = true ↔ Nk f) := fun hf => by rw [nk_iff hf]; simp
  obtain ⟨P, hP⟩ : ∃ P : Nat → SS → Prop, P = fun i s => ∃ (f : List Nat) (a b : Sl), s = [.sh (.str w), .sh (.int k), .sh (.str (abc k)), .sh (.str f), a, b] ∧ canS (some a) = true ∧ canS (some b) = true ∧
      ((f = w ∧ ∀ j' c', w.length - i ≤ j' → j' < w.length → 97 ≤ c' → c' < w.getD j' 0 → ¬ Beg (96 + k) w.length (w.take j' ++ [c'])) ∨ LastP 97 (96 + k) w.length w f) := ⟨_, rfl⟩
  obtain ⟨Y, hY⟩ : ∃ Y : R D → Prop, Y = fun r => ∃ f, r = .ok (.str f) ∧ LastP 97 (96 + k) w.length w f := ⟨_, rfl⟩
  have hYg : Y (f_last_least [.str w, .int k]) := by
    simp [f_last_least, m_last_least, runB_s, List.replicate, lk, lt, hz, ng]
    rw [rng3_i _ _ (by unfold fit62; omega) (by unfold fit62; omega)]
    simp
    refine forL_post P (fun r => Y (fin false (bnd r _))) _ _ (by rw [hP]; exact ⟨w, _, _, rfl, rfl, rfl, .inl ⟨rfl, fun j' c' a b => by omega⟩⟩) ?_ ?_
    · intro i d s hd hp
      rw [hP] at hp
      obtain ⟨f, a, b, rfl, ha, hb, hno⟩ := hp
      obtain ⟨rfl, hi⟩ := downD_get hd
      have hj : w.length - 1 - i < w.length := by omega
      have hm := w3 _ (getD_mem hj)
      have e0 := ixD_getD (i := (w.length : Int) - 1 - i) (j := w.length - 1 - i) (by omega) hj hz
      have e1 := abc_ix (k := k) h1 h2 hm.1 (by omega)
      have hfl : f.length = w.length := by
        rcases hno with ⟨rfl, -⟩ | h
        · rfl
        · exact h.1.1
      have hf0 : f ≠ [] := List.length_pos_iff.mp (by omega)
      have il := is_least_ok f hf0 (by omega)
      by_cases hfn : Nk f
      · have hl : LastP 97 (96 + k) w.length w f := by
          rcases hno with ⟨rfl, -⟩ | h
          · exact last_self ⟨rfl, hfn, hr⟩
          · exact h
        rw [(nk hf0).mpr hfn] at il
        simp [turn_s, ha, hb, il]
        rw [hY]
        exact ⟨f, rfl, hl⟩
      · have hno' := hno.resolve_right fun h => hfn h.1.2.1
        obtain ⟨rfl, hno1⟩ := hno'
        rw [show (lrot f == f) = false by rw [← Bool.not_eq_true, nk hf0]; exact hfn] at il
        generalize hjd : f.length - 1 - i = j at *
        generalize hcj : f.getD j 0 = cj at *
        simp [turn_s, ha, hb, il, e0, e1, slD_s _ _ _ hza, cutL_to _ _ (show (0 : Int) ≤ ((cj - 97 : Nat) : Int) by omega)]
        rw [← List.map_take]
        refine forL_post (fun i' s => ∃ (g : List Nat) (b : Sl), s = [.sh (.str f), .sh (.int k), .sh (.str (abc k)), .sh (.str g), .sh (.int ((f.length : Int) - 1 - i)), b] ∧ canS (some b) = true ∧
            ((g = f ∧ ∀ c', 97 ≤ c' → c' < 97 + i' → ¬ Beg (96 + k) f.length (f.take j ++ [c'])) ∨ ∃ c, 97 ≤ c ∧ c < cj ∧ Beg (96 + k) f.length (f.take j ++ [c]) ∧ g = f.take j ++ c :: List.replicate (f.length - j - 1) (96 + k) ∧ ∀ c', c < c' → c' < 97 + i' → ¬ Beg (96 + k) f.length (f.take j ++ [c'])))
          (post (P (i + 1)) fun r => Y (fin false (bnd r _))) _ _ ⟨f, _, rfl, hb, .inl ⟨rfl, fun c' a b => by omega⟩⟩ ?_ ?_
        · rintro i' d s hd ⟨g, b, rfl, hb, hno2⟩
          obtain ⟨rfl, hi', hi2⟩ := abc_take_get h2 hd
          have hcm : 97 + i' < cj := by omega
          have ht : (f.take j).length = j := by simp; omega
          have ea : (cutL f none (some ((f.length : Int) - 1 - i))) = f.take j := by
            rw [cutL_to _ _ (by omega)]
            congr 1; omega
          have hz2 : (f.take j).length + 1 ≤ SZ := le_sz (by omega)
          have as1 := is_beginning_ok (f.take j ++ [97 + i']) f.length (96 + k) (by omega) (by omega) (by simp; omega)
          have en : ((f.length : Int) - ((f.length : Int) - 1 - i) - 1).toNat = f.length - j - 1 := by omega
          have hz3 : f.length - j - 1 ≤ SZ := le_sz (by omega)
          have hz4 : (f.take j).length + 1 + (f.length - j - 1) ≤ SZ := le_sz (by omega)
          have b1 : (f.length : Int) - ((f.length : Int) - 1 - i) - 1 < 9223372036854775808 := by omega
          have b2 : -9223372036854775808 ≤ (f.length : Int) - ((f.length : Int) - 1 - i) - 1 := by omega
          have mu : mulD (.str [96 + k]) (.int ((f.length : Int) - ((f.length : Int) - 1 - i) - 1)) = .ok (.str (List.replicate (f.length - j - 1) (96 + k))) := by
            rw [mulD_s, if_pos ⟨b1, b2, by rw [en]; simpa using hz3⟩, repS_one, en]
          cases hbg : begB (96 + k) f.length (f.take j ++ [97 + i']) with
          | true =>
            have hB := (begB_iff (by omega)).mp hbg
            rw [hbg] at as1
            simp [turn_s, hb, slD_s _ _ _ hz, ea, addD_s, -List.length_take, hz2, hz, abc_last h1 h2, ng, as1, mu, hz4]
            refine ⟨_, _, ⟨rfl, rfl⟩, rfl, .inr ⟨97 + i', by omega, hcm, hB, rfl, fun c' h3 h4 => by omega⟩⟩
          | false =>
            rw [hbg] at as1
            have hB : ¬ Beg (96 + k) f.length (f.take j ++ [97 + i']) := fun h => by
              rw [(begB_iff (by omega)).mpr h] at hbg
              cases hbg
            simp [turn_s, hb, slD_s _ _ _ hz, ea, addD_s, -List.length_take, hz2, hz, abc_last h1 h2, ng, as1]
            refine ⟨_, _, ⟨rfl, rfl⟩, rfl, ?_⟩
            rcases hno2 with ⟨h3, h4⟩ | ⟨c, h3, h4, h5, h6, h7⟩
            · refine .inl ⟨h3, fun c' h5 h6 => ?_⟩
              by_cases e : c' = 97 + i'
              · subst e; exact hB
              · exact h4 c' h5 (by omega)
            · refine .inr ⟨c, h3, h4, h5, h6, fun c' h8 h9 => ?_⟩
              by_cases e : c' = 97 + i'
              · subst e; exact hB
              · exact h7 c' h8 (by omega)
        · rintro s ⟨g, b, rfl, hb, hno2⟩
          simp only [post_nx, hP]
          refine ⟨g, _, _, rfl, rfl, hb, ?_⟩
          have hlen : ((List.take (cj - 97) (abc k)).map fun c => D.str [c]).length = cj - 97 := by
            rw [List.length_map, List.length_take, abc_len h2]; omega
          rw [hlen] at hno2
          rcases hno2 with ⟨rfl, h4⟩ | ⟨c, h3, h4, h5, rfl, h7⟩
          · refine .inl ⟨rfl, fun j' c' h5 h6 h7 h8 => ?_⟩
            by_cases e : j' = j
            · subst e
              exact h4 c' h7 (by omega)
            · exact hno1 j' c' (by omega) h6 h7 h8
          · exact .inr (last_found rfl hr hfn hj (by omega) h3 h5 (fun j' c' h8 h9 h10 h11 => hno1 j' c' (by omega) h9 h10 h11) fun c' h8 h9 => h7 c' h8 (by omega))
    · intro s hp
      rw [hP] at hp
      obtain ⟨f, a, b, rfl, ha, hb, hno⟩ := hp
      simp
      rw [hY]
      refine ⟨f, rfl, ?_⟩
      rcases hno with ⟨rfl, h⟩ | h
      · exact last_self ⟨rfl, last_ex (by omega) (by omega) rfl hr fun j' c' h3 => h j' c' (by rw [downD_len]; omega) h3, hr⟩
      · exact h
  rw [hY] at hYg
  exact hYg

noncomputable def m_drops : SS → RS :=
  (sRet (eComp (iE (eV 0)) (gN 2) [2] cYes (eBin subD (eBin subD (eCall lenD (aCons (eR 1) aNil)) (eC (.int 1))) (eM "str" idxS (eR 1) (aCons (eR 2) aNil)))))
noncomputable def f_drops : List D → R D := runB false 3 m_drops
theorem drops_ok (u : List Nat) (k : Nat) (h1 : 1 ≤ k) (h2 : k ≤ 6) (hl : u.length ≤ 24) (hu : ∀ x ∈ u, 97 ≤ x ∧ x ≤ 96 + k) : f_drops [.str u, .str (abc k)] = .ok (.lst ((List.range u.length).map fun j => .int (dn k u j : Nat))) := by
  have hza : (abc k).length ≤ SZ := le_sz (by rw [abc_len h2]; omega)
  have hal : (abc (k : Int)).length = k := abc_len h2
  simp [f_drops, m_drops, runB_s, List.replicate, -rComp_ok]
  rw [comp_mapped (fun c => D.str [c]) (fun c => .int ((96 + k - c : Nat) : Int)) u (by omega) (fun c hc => by
    have hm := hu c hc
    have e := abc_ix (k := k) h1 h2 hm.1 (by omega)
    simp [cStep_s, hza, e]
    omega)]
  simp
  apply List.ext_getElem
  · simp
  · intro i h3 h4
    have hi : i < u.length := by simpa using h3
    have hm := hu _ (List.getElem_mem hi)
    have e : u.getD i 0 = u[i] := by rw [List.getD_eq_getElem?_getD, List.getElem?_eq_getElem hi]; rfl
    simp only [List.getElem_map, List.getElem_range, dn, e]
    rw [ups_len h2 hm.1 hm.2]

noncomputable def m_returns : SS → RS :=
  (sSeq (sSetO 2 (eLst (aCons (eC (.int 1)) aNil)))
  (sSeq (sFor (iRg2 (aCons (eC (.int 1)) (aCons (eR 1) aNil))) (gN 3) (sApp 2 (eCall sumD (aCons (eComp (iRg1 (aCons (eR 3) aNil)) (gN 4) [4] cYes (eBin mulD (eBin ixD (eR 0) (eR 4)) (eBin ixD (eR 2) (eBin subD (eBin subD (eR 3) (eC (.int 1))) (eR 4))))) aNil))))
  (sFrz 2 (sRet (eV 2)))))
noncomputable def f_returns : List D → R D := runB false 5 m_returns
theorem returns_ok (u : List Nat) (k : Nat) (h1 : 1 ≤ k) (h2 : k ≤ 6) (hN : Nk u) (h0 : 0 < u.length) (hl : u.length ≤ 24) (hu : ∀ x ∈ u, 97 ≤ x ∧ x ≤ 96 + k) :
    f_returns [.lst ((List.range u.length).map fun j => .int (dn k u j : Nat)), .int u.length] = .ok (.lst ((List.range u.length).map fun t => .int (cnt k t (BB u) : Nat))) := by
  have z1 : 1 ≤ SZ := le_sz (by omega)
  have hdn : ∀ j, dn k u j ≤ 6 := fun j => by
    unfold dn ups
    exact Nat.le_trans (List.length_filter_le _ _) (by rw [abc_len h2]; exact h2)
  simp [f_returns, m_returns, runB_s, List.replicate, z1]
  rw [rng2_i _ _ (by unfold fit62; omega) (by unfold fit62; omega)]
  simp
  refine forR_then (k := fun r => fin false (bnd r _)) (fun i s => ∃ a b : Sl, s = [.sh (.lst ((List.range u.length).map fun j => .int (dn k u j : Nat))), .sh (.int u.length), .ow (.lst ((List.range (i + 1)).map fun t => .int (cnt k t (BB u) : Nat))), a, b] ∧ canS (some a) = true ∧ canS (some b) = true) ⟨.no, .no, by simp [bT_zero], rfl, rfl⟩ ?_ ?_
  · rintro i s hi ⟨a, b, rfl, ha, hb⟩
    simp [turn_s, ha, hb, -rComp_ok]
    rw [rng1_i _ (by unfold fit62; omega)]
    simp only [R.bind_ok]
    rw [comp_range (fun j => .int ((dn k u j * cnt k (1 + i - 1 - j) (BB u) : Nat) : Int)) _ _ (1 + i) (by omega) (by omega) (fun j hj => by
      have hj' : j < 1 + i := by omega
      have e1 := ixD_rng (fun j => D.int (dn k u j : Nat)) (m := u.length) (i := 0 + (j : Int)) (j := j) (by omega) (by omega)
      have e2 := ixD_rng (fun t => D.int (cnt k t (BB u) : Nat)) (m := i + 1) (i := 1 + (i : Int) - 1 - (0 + (j : Int))) (j := 1 + i - 1 - j) (by omega) (by omega)
      have hd := hdn j
      have e3 : mulD (.int (dn k u j : Nat)) (.int (cnt k (1 + i - 1 - j) (BB u) : Nat)) = .ok (.int ((dn k u j * cnt k (1 + i - 1 - j) (BB u) : Nat) : Int)) := by
        rw [mulD_i, if_pos (.inl (by omega))]
        simp
      simp at e1 e2 e3
      simp [cStep_s, hb, e1, e2, e3])]
    have es := sumD_nat (fun j => dn k u j * cnt k (1 + i - 1 - j) (BB u)) (List.range (1 + i))
    have hz : i + 1 + 1 ≤ SZ := le_sz (by omega)
    have hb2 : cnt k (i + 1) (BB u) = ((List.range (1 + i)).map fun j => dn k u j * cnt k (1 + i - 1 - j) (BB u)).sum := by
      rw [bT_succ h1 h2 hN hu (by omega) (by omega), Nat.add_comm 1 i]
    rw [← hb2] at es
    simp only [R.bind_ok, es, rMut_app, List.length_map, List.length_range, hz, if_true]
    simp [es, hz]
    exact ⟨_, _, ⟨by rw [List.range_succ (n := i + 1)]; simp, rfl, rfl⟩, rfl, hb⟩
  · rintro s ⟨a, b, rfl, ha, hb⟩
    have : u.length - 1 + 1 = u.length := by omega
    simp [this]

noncomputable def m_above : SS → RS :=
  (sSeq (sSet 2 (eCall f_drops (aCons (eV 0) (aCons (eV 1) aNil))))
  (sSeq (sSet 3 (eCall f_returns (aCons (eV 2) (aCons (eCall lenD (aCons (eR 0) aNil)) aNil))))
  (sRet (eCall sumD (aCons (eComp (iRg1 (aCons (eCall lenD (aCons (eR 0) aNil)) aNil)) (gN 4) [4] cYes (eBin mulD (eBin mulD (eBin addD (eR 4) (eC (.int 1))) (eBin ixD (eR 2) (eR 4))) (eBin ixD (eR 3) (eBin subD (eBin subD (eCall lenD (aCons (eR 0) aNil)) (eC (.int 1))) (eR 4))))) aNil)))))
noncomputable def f_above : List D → R D := runB false 5 m_above
theorem above_ok (u : List Nat) (k : Nat) (h1 : 1 ≤ k) (h2 : k ≤ 6) (hN : Nk u) (h0 : 0 < u.length) (hl : u.length ≤ 24) (hu : ∀ x ∈ u, 97 ≤ x ∧ x ≤ 96 + k) :
    f_above [.str u, .str (abc k)] = .ok (.int (cnt k u.length (fun w => ∀ i, i < w.length → u < rot w i) : Nat)) := by
  have hz : u.length ≤ SZ := le_sz (by omega)
  have hdn : ∀ j, dn k u j ≤ 6 := fun j => by
    unfold dn ups
    exact Nat.le_trans (List.length_filter_le _ _) (by rw [abc_len h2]; exact h2)
  have ed := drops_ok u k h1 h2 hl hu
  have er := returns_ok u k h1 h2 hN h0 hl hu
  rw [above_count h1 h2 hN hu h0]
  simp [f_above, m_above, runB_s, List.replicate, ed, hz, er, -rComp_ok]
  rw [rng1_i _ (by unfold fit62; omega)]
  simp only [R.bind_ok]
  rw [comp_range (fun j => .int (((j + 1) * dn k u j * cnt k (u.length - 1 - j) (BB u) : Nat) : Int)) _ _ u.length (by omega) (by omega) (fun j hj => by
    have hj' : j < u.length := by omega
    have e1 := ixD_rng (fun j => D.int (dn k u j : Nat)) (m := u.length) (i := 0 + (j : Int)) (j := j) (by omega) hj'
    have e2 := ixD_rng (fun t => D.int (cnt k t (BB u) : Nat)) (m := u.length) (i := (u.length : Int) - 1 - (0 + (j : Int))) (j := u.length - 1 - j) (by omega) (by omega)
    have hd := hdn j
    have e3 : mulD (.int ((j : Int) + 1)) (.int (dn k u j : Nat)) = .ok (.int (((j + 1) * dn k u j : Nat) : Int)) := by
      rw [mulD_i, if_pos (.inl (by omega))]
      simp
    have e4 : mulD (.int (((j + 1) * dn k u j : Nat) : Int)) (.int (cnt k (u.length - 1 - j) (BB u) : Nat)) = .ok (.int (((j + 1) * dn k u j * cnt k (u.length - 1 - j) (BB u) : Nat) : Int)) := by
      have : (j + 1) * dn k u j ≤ 24 * 6 := Nat.mul_le_mul (by omega) hd
      rw [mulD_i, if_pos (.inl (by omega))]
      simp
    simp at e1 e2 e3 e4
    simp [cStep_s, hz, e1, e2, e3, e4])]
  have es := sumD_nat (fun j => (j + 1) * dn k u j * cnt k (u.length - 1 - j) (BB u)) (List.range u.length)
  simp only [R.bind_ok, es]
  simp

noncomputable def m_up_to : SS → RS :=
  (sSeq (sX (eCall f_looked (aCons (eV 0) (aCons (eV 1) aNil))))
  (sRet (eBin subD (eCall f_word_count (aCons (eCall lenD (aCons (eR 0) aNil)) (aCons (eV 1) aNil))) (eCall f_above (aCons (eCall f_last_least (aCons (eV 0) (aCons (eV 1) aNil))) (aCons (eCall f_letters (aCons (eV 1) aNil)) aNil))))))
noncomputable def f_up_to : List D → R D := runB false 2 m_up_to
theorem up_to_ok (w : List Nat) (k : Nat) (h1 : 1 ≤ k) (h2 : k ≤ 6) (hg : goodW w k = true) : f_up_to [.str w, .int k] = .ok (.int (upW k w : Nat)) := by
  obtain ⟨w1, w2, w3⟩ := goodW_iff.mp hg
  have hz : w.length ≤ SZ := le_sz (by omega)
  have h0 : w ≠ [] := List.length_pos_iff.mp (by omega)
  have lk := looked_all w k (by omega) (by omega) (by omega)
  rw [if_pos hg] at lk
  obtain ⟨f, hf, hF⟩ := last_least_ok w k h1 h2 hg
  have wc := word_count_ok (w.length : Int) k (by omega) (by omega) (by omega) (by omega)
  have lt := letters_ok k (by omega) (by omega)
  have ab := above_ok f k h1 h2 hF.1.2.1 (by have := hF.1.1; omega) (by have := hF.1.1; omega) hF.1.2.2
  have hs := upTo_last h1 h2 h0 hF
  simp [f_up_to, m_up_to, runB_s, List.replicate, lk, hf, wc, lt, ab, hz]
  have : ((k : Int) ^ w.length) = ((k ^ w.length : Nat) : Int) := by simp
  rw [this]
  omega

noncomputable def m_root : SS → RS :=
  (sSeq (sSet 1 (eC (.int 1)))
  (sSeq (sWh fuel (eOr (eBin neD (eBin modD (eCall lenD (aCons (eR 0) aNil)) (eR 1)) (eC (.int 0))) (eBin neD (eBin mulD (eSl (eR 0) oNo (oSo (eV 1))) (eBin fdivD (eCall lenD (aCons (eR 0) aNil)) (eR 1))) (eR 0))) (sSet 1 (eBin addD (eR 1) (eC (.int 1)))))
  (sRet (eSl (eR 0) oNo (oSo (eV 1))))))
noncomputable def f_root : List D → R D := runB false 2 m_root
theorem root_ok (w : List Nat) (h0 : w ≠ []) (h : w.length ≤ 1000) : f_root [.str w] = .ok (.str (rootW w)) := by
  have h1 : w.length ≤ SZ := le_sz (by omega)
  obtain ⟨r1, r2, r3⟩ := rlen_spec h0
  have rp := rlen_pos h0
  have cond : ∀ s : Nat, 0 < s → s ≤ w.length → eOr (eBin neD (eBin modD (eCall lenD (aCons (eR 0) aNil)) (eR 1)) (eC (.int 0))) (eBin neD (eBin mulD (eSl (eR 0) oNo (oSo (eV 1))) (eBin fdivD (eCall lenD (aCons (eR 0) aNil)) (eR 1))) (eR 0)) [.sh (.str w), .sh (.int s)] = .ok (.bl (!rtOk w s)) := fun s hs hs2 => by
    have hd : ((w.length : Int) / (s : Int)).toNat = w.length / s := by
      rw [← Int.natCast_ediv]; rfl
    have hd0 : 0 ≤ (w.length : Int) / (s : Int) := Int.ediv_nonneg (by omega) (by omega)
    have hdl : (w.length : Int) / (s : Int) ≤ w.length := Int.ediv_le_self _ (by omega)
    have hz : min s w.length * (w.length / s) ≤ SZ := le_sz (by
      have := Nat.mul_div_le w.length s
      have : min s w.length = s := by omega
      rw [this]
      omega)
    have hm : (((w.length : Int) % (s : Int)) == 0) = decide (w.length % s = 0) := by
      rw [Bool.beq_eq_decide_eq]
      congr 1
      rw [← Int.natCast_emod]
      exact propext ⟨fun z => by omega, fun z => by omega⟩
    simp [h1, modD_i (w.length : Int) (s : Int) (by omega), slD_s, cutL_to, fdivD_s _ (s : Int) (by omega) (by omega), mulD_s, hd, hz, show (w.length : Int) / (s : Int) < 9223372036854775808 by omega, show -9223372036854775808 ≤ (w.length : Int) / (s : Int) by omega]
    rw [hm]
    unfold rtOk
    simp [hs]
  simp [f_root, m_root, runB_s, List.replicate]
  refine whL_ind (P := fun s => ∃ n : Nat, s = [.sh (.str w), .sh (.int n)] ∧ 0 < n ∧ n ≤ rlen w) (mu := fun s => match s with | [_, .sh (.int n)] => 2000 - n.toNat | _ => 0) (Q := fun r => fin false (bnd r _) = .ok (.str (rootW w))) ?_ _ _ ⟨1, rfl, by omega, by omega⟩ ?_
  · rintro s ⟨n, rfl, hn, hn2⟩
    rw [cond n hn (by omega)]
    by_cases e : n = rlen w
    · subst e
      rw [r2]
      simp [slD_s, h1, cutL_to, rootW]
    · rw [r3 n (by omega)]
      simp
      exact ⟨⟨n + 1, by omega, by omega, by omega⟩, by omega⟩
  · rw [fuel_is]
    simp

noncomputable def m_words_below : SS → RS :=
  (sRet (eBin subD (eCall f_up_to (aCons (eV 0) (aCons (eV 1) aNil))) (eCall lenD (aCons (eCall f_root (aCons (eV 0) aNil)) aNil))))
noncomputable def f_words_below : List D → R D := runB false 2 m_words_below
theorem words_below_ok (v : List Nat) (k : Nat) (h1 : 1 ≤ k) (h2 : k ≤ 6) (hg : goodW v k = true) : f_words_below [.str v, .int k] = .ok (.int ((upW k v : Int) - (rlen v : Int))) := by
  obtain ⟨g1, g2, g3⟩ := goodW_iff.mp hg
  have h0 : v ≠ [] := List.length_pos_iff.mp (by omega)
  have up := up_to_ok v k h1 h2 hg
  have rt := root_ok v h0 (by omega)
  have hrl := root_len h0
  have hz : (rootW v).length ≤ SZ := le_sz (by have := (rlen_spec h0).1; omega)
  have hz2 : rlen v ≤ SZ := by rw [← hrl]; exact hz
  simp [f_words_below, m_words_below, runB_s, List.replicate, up, rt, hz, hz2, hrl]

noncomputable def m_ring_size : SS → RS :=
  (sSeq (sX (eCall f_looked_first (aCons (eV 0) (aCons (eV 1) aNil))))
  (sRet (eBin subD (eCall f_word_count (aCons (eCall lenD (aCons (eR 0) aNil)) (aCons (eV 1) aNil))) (eCall f_words_below (aCons (eV 0) (aCons (eV 1) aNil))))))
noncomputable def f_ring_size : List D → R D := runB false 2 m_ring_size
theorem ring_size_ok (f : List Nat) (k : Nat) (h1 : 1 ≤ k) (h2 : k ≤ 6) (hg : goodW f k = true) (hN : Nk f) : f_ring_size [.str f, .int k] = .ok (.int ((ringW k f.length f).length : Nat)) := by
  obtain ⟨g1, g2, g3⟩ := goodW_iff.mp hg
  have hG := (good_iff_goodW.mp ⟨hg, hN⟩).2.2
  have hz : f.length ≤ SZ := le_sz (by omega)
  have lf := looked_first_ok f k h1 h2 hg hN
  have wc := word_count_ok (f.length : Int) k (by omega) (by omega) (by omega) (by omega)
  rw [show ((k : Int) ^ ((f.length : Int)).toNat) = ((k ^ f.length : Nat) : Int) by simp] at wc
  have wb := words_below_ok f k h1 h2 hg
  have ht := ring_total h1 h2 g1 hG
  simp [f_ring_size, m_ring_size, runB_s, List.replicate, lf, wc, wb, hz]
  have hcast : ((k : Int) ^ f.length) = ((k ^ f.length : Nat) : Int) := by simp
  rw [hcast]
  omega
theorem ring_size_badk (f : D) (k : Int) (h : ¬ (1 ≤ k ∧ k ≤ 6)) : f_ring_size [f, .int k] = .ex 1 [] := by
  simp [f_ring_size, m_ring_size, runB_s, List.replicate, looked_first_badk f k h]
theorem ring_size_bad (f : List Nat) (k : Nat) (h1 : 1 ≤ k) (h2 : k ≤ 6) (hl : f.length ≤ 1000) (hg : goodW f k = false ∨ ¬ Nk f) : f_ring_size [.str f, .int k] = .ex 2 [] := by
  simp [f_ring_size, m_ring_size, runB_s, List.replicate, looked_first_bad f k h1 h2 hl hg]

noncomputable def m_least_at : SS → RS :=
  (sSeq (sSet 3 (eCall f_letters (aCons (eV 1) aNil)))
  (sSeq (sSet 4 (eBin addD (eCall f_words_below (aCons (eV 0) (aCons (eV 1) aNil))) (eR 2)))
  (sSeq (sSet 5 (eC (.str [])))
  (sSeq (sWh fuel (eBin ltD (eCall lenD (aCons (eR 5) aNil)) (eCall lenD (aCons (eR 0) aNil))) (sFor (iE (eV 3)) (gN 6) (sSeq (sSet 7 (eBin addD (eBin addD (eR 5) (eR 6)) (eBin mulD (eBin ixD (eR 3) (eUn negD (eC (.int 1)))) (eBin subD (eBin subD (eCall lenD (aCons (eR 0) aNil)) (eCall lenD (aCons (eR 5) aNil))) (eC (.int 1))))))
  (sIf (eAnd (eCall f_is_least (aCons (eV 7) aNil)) (eBin gtD (eCall f_up_to (aCons (eV 7) (aCons (eV 1) aNil))) (eR 4))) (sSeq (sSet 5 (eBin addD (eR 5) (eR 6)))
  sBk) sNx))))
  (sRet (eTup (aCons (eV 5) (aCons (eBin subD (eR 4) (eCall f_words_below (aCons (eV 5) (aCons (eV 1) aNil)))) aNil))))))))
noncomputable def f_least_at : List D → R D := runB false 8 m_least_at
theorem least_at_ok (f : List Nat) (k Q : Nat) (h1 : 1 ≤ k) (h2 : k ≤ 6) (hg : goodW f k = true) (hN : Nk f) (hQ : Q < (ringW k f.length f).length) :
    ∃ (i : Nat) (v : List Nat), (lsL k f.length f)[i]? = some v ∧ (YL (lsL k f.length f) i).length ≤ Q ∧ Q < (YL (lsL k f.length f) (i + 1)).length ∧ f_least_at [.str f, .int k, .int Q] = .ok (.tup [.str v, .int ((Q - (YL (lsL k f.length f) i).length : Nat) : Int)]) := by
  obtain ⟨g1, g2, g3⟩ := goodW_iff.mp hg
  have hF := (good_iff_goodW.mp ⟨hg, hN⟩).2.2
  have R := lsL_rg h1 h2 g1 hF
  obtain ⟨i, g, e, q1, q2⟩ := pos_find _ hQ
  refine ⟨i, g, e, q1, q2, ?_⟩
  have hG := R.gd e
  have hg0 := R.ne e
  have hup := fun w hw => up_place h1 h2 g1 hF e q1 q2 (w := w) hw
  have hgw : goodW g k = true := goodW_iff.mpr ⟨by have := hG.1; omega, by have := hG.1; omega, fun x hx => by have := hG.2.2 x hx; omega⟩
  have wb := words_below_ok f k h1 h2 hg
  have wg := words_below_ok g k h1 h2 hgw
  have hp := pos_up h1 h2 g1 hF i g e
  have hrf := upW_root h1 h2 (List.length_pos_iff.mp (by omega)) hF.2.1 hF.2.2
  generalize (YL (lsL k f.length f) i).length = Y at *
  have hfz : f.length ≤ SZ := le_sz (by omega)
  have lt := letters_ok k (by omega) (by omega)
  have ng : negD (.int 1) = .ok (.int (-1)) := rfl
  have z2 : 2 ≤ SZ := le_sz (by omega)
  simp [f_least_at, m_least_at, runB_s, List.replicate, lt, wb]
  generalize hnn : f.length = n at *
  have hz0 : ([] : List Nat) <+: g := List.nil_prefix
  refine whL_nx (P := fun s => ∃ (t : List Nat) (a b : Sl), s = [.sh (.str f), .sh (.int k), .sh (.int Q), .sh (.str (abc k)), .sh (.int ((upW k f : Int) - (rlen f : Int) + Q)), .sh (.str t), a, b] ∧ t <+: g ∧ canS (some a) = true ∧ canS (some b) = true) (mu := fun s => match s with | [_, _, _, _, _, .sh (.str t), _, _] => n - t.length | _ => 0)
    (Q := fun r => fin false (bnd r _) = .ok (.tup [.str g, .int ((Q - Y : Nat) : Int)])) ?_ _ _ ⟨[], _, _, rfl, hz0, rfl, rfl⟩ ?_
  · rintro s ⟨t, a, b, rfl, hp, ha, hb⟩
    have htl : t.length ≤ n := by rw [← hG.1]; exact hp.length_le
    have zt : t.length ≤ SZ := le_sz (by omega)
    refine ⟨decide ((t.length : Int) < n), by simp [zt, hnn, hfz], fun hlt => ?_, fun hlt => ?_⟩
    · have hlt : t.length < n := by have := of_decide_eq_true hlt; omega
      have hcm : g.getD t.length 0 ∈ g := getD_mem (by rw [hG.1]; exact hlt)
      have hc2 := hG.2.2 _ hcm
      have happ := toward_app hp (by rw [hG.1]; exact hlt)
      have htw := fun c hc => toward (c := c) hG hp hlt hc
      generalize hcs : g.getD t.length 0 = cs at *
      have htr : ∀ x ∈ t, 97 ≤ x ∧ x ≤ 96 + k := fun x hx => hG.2.2 x (hp.subset hx)
      have m1 : n - t.length - 1 < n := by omega
      obtain ⟨Y2, hQ⟩ : ∃ Y2 : RS → Prop, Y2 = fun r => ∃ s' : SS, r = .nx s' ∧ (∃ (t : List Nat) (a b : Sl), s' = [.sh (.str f), .sh (.int k), .sh (.int Q), .sh (.str (abc k)), .sh (.int ((upW k f : Int) - (rlen f : Int) + Q)), .sh (.str t), a, b] ∧ t <+: g ∧ canS (some a) = true ∧ canS (some b) = true) ∧ (match s' with | [_, _, _, _, _, .sh (.str t), _, _] => n - t.length | _ => 0) < n - t.length := ⟨_, rfl⟩
      have goalQ : Y2 (forL (turn (gN 6) (sSeq (sSet 7 (eBin addD (eBin addD (eR 5) (eR 6)) (eBin mulD (eBin ixD (eR 3) (eUn negD (eC (.int 1)))) (eBin subD (eBin subD (eCall lenD (aCons (eR 0) aNil)) (eCall lenD (aCons (eR 5) aNil))) (eC (.int 1))))))
  (sIf (eAnd (eCall f_is_least (aCons (eV 7) aNil)) (eBin gtD (eCall f_up_to (aCons (eV 7) (aCons (eV 1) aNil))) (eR 4))) (sSeq (sSet 5 (eBin addD (eR 5) (eR 6)))
  sBk) sNx))) ((abc k).map fun c => .str [c]) [.sh (.str f), .sh (.int k), .sh (.int Q), .sh (.str (abc k)), .sh (.int ((upW k f : Int) - (rlen f : Int) + Q)), .sh (.str t), a, b]) := by
        refine forL_post (fun j s => ∃ a b : Sl, s = [.sh (.str f), .sh (.int k), .sh (.int Q), .sh (.str (abc k)), .sh (.int ((upW k f : Int) - (rlen f : Int) + Q)), .sh (.str t), a, b] ∧ canS (some a) = true ∧ canS (some b) = true ∧ 97 + j ≤ cs) Y2 _ _ ⟨a, b, rfl, ha, hb, hc2.1⟩ ?_ ?_
        · rintro j d s hd ⟨a, b, rfl, ha, hb, hj⟩
          rw [List.getElem?_map] at hd
          cases hq : (abc k)[j]? with
          | none => rw [hq] at hd; cases hd
          | some c =>
            rw [hq] at hd
            cases hd
            obtain ⟨rfl, hjk⟩ := abc_get h2 hq
            obtain ⟨t1, t2⟩ := htw (97 + j) (by omega)
            have hc97 : 97 ≤ 97 + j := by omega
            have hck : 97 + j ≤ 96 + k := by omega
            have hjj : 97 + (j + 1) ≤ cs ↔ 97 + j < cs := by omega
            generalize hcj : 97 + j = c at *
            have z1 : t.length + 1 ≤ SZ := le_sz (by omega)
            have z3 : n - t.length - 1 ≤ SZ := le_sz (by omega)
            have z4 : t.length + 1 + (n - t.length - 1) ≤ SZ := le_sz (by omega)
            have mu2 : mulD (.str [96 + k]) (.int ((n : Int) - t.length - 1)) = .ok (.str (List.replicate (n - t.length - 1) (96 + k))) := by
              have en : ((n : Int) - t.length - 1).toNat = n - t.length - 1 := by omega
              rw [mulD_s, if_pos ⟨by omega, by omega, by rw [en]; simpa using z3⟩, repS_one, en]
            have ad : addD (.str (t ++ [c])) (.str (List.replicate (n - t.length - 1) (96 + k))) = .ok (.str (t ++ c :: List.replicate (n - t.length - 1) (96 + k))) := by
              rw [addD_s, if_pos (by simpa using z4)]
              simp
            have ad1 : addD (.str t) (.str [c]) = .ok (.str (t ++ [c])) := by
              rw [addD_s, if_pos (by simpa using z1)]
            have hll : (t ++ c :: List.replicate (n - t.length - 1) (96 + k)).length = n := by simp; omega
            generalize hlast : t ++ c :: List.replicate (n - t.length - 1) (96 + k) = last at *
            have hl0 : last ≠ [] := List.length_pos_iff.mp (by omega)
            have hlg : goodW last k = true := by
              refine goodW_iff.mpr ⟨by omega, by omega, fun x hx => ?_⟩
              rw [← hlast] at hx
              rcases List.mem_append.mp hx with h | h
              · have := htr x h; omega
              · rcases List.mem_cons.mp h with rfl | h
                · omega
                · rw [List.eq_of_mem_replicate h]; omega
            have il := is_least_ok last hl0 (by omega)
            have up := up_to_ok last k h1 h2 hlg
            have hs := hup last hll
            generalize upW k last = N at up hs
            by_cases e : c = cs
            · obtain ⟨n1, n2⟩ := t1 e
              rw [show (lrot last == last) = true by simpa using (nk_iff hl0).mp n1] at il
              have hs2 := hs.mpr n2
              have hs3 : (upW k f : Int) - (rlen f : Int) + Q < N := by omega
              simp [turn_s, ha, hb, zt, hnn, hfz, ad1, mu2, abc_last h1 h2, ng, ad, il, up, hs3]
              rw [hQ]
              refine ⟨_, rfl, ⟨_, _, _, rfl, by rw [e]; exact happ, rfl, rfl⟩, ?_⟩
              simp
              omega
            · have hlt2 := t2 (by omega)
              have hs2 : ¬ (upW k f : Int) - (rlen f : Int) + Q < N := fun z => (hs.mp (by omega)) hlt2
              cases hb2 : (lrot last == last) with
              | true =>
                rw [hb2] at il
                simp [turn_s, ha, hb, zt, hnn, hfz, ad1, mu2, abc_last h1 h2, ng, ad, il, up, hs2]
                exact ⟨_, _, ⟨rfl, rfl⟩, rfl, rfl, by omega⟩
              | false =>
                rw [hb2] at il
                simp [turn_s, ha, hb, zt, hnn, hfz, ad1, mu2, abc_last h1 h2, ng, ad, il]
                exact ⟨_, _, ⟨rfl, rfl⟩, rfl, rfl, by omega⟩
        · rintro s ⟨a, b, rfl, ha, hb, hj⟩
          rw [List.length_map, abc_len h2] at hj
          omega
      rw [hQ] at goalQ
      obtain ⟨s', e1, e2, e3⟩ := goalQ
      exact ⟨s', by simpa using e1, e2, e3⟩
    · have hlt : ¬ t.length < n := by have := of_decide_eq_false hlt; omega
      have := pre_full hp (by rw [hG.1]; omega)
      subst this
      simp [wg, z2]
      omega
  · rw [fuel_is]
    simp
    omega

noncomputable def m_letter_again : SS → RS :=
  (sSeq (sSet 1 (eC (.int 1)))
  (sSeq (sWh fuel (eBin neD (eSl (eR 0) (oSo (eV 1)) oNo) (eSl (eR 0) oNo (oSo (eBin subD (eCall lenD (aCons (eR 0) aNil)) (eR 1))))) (sSet 1 (eBin addD (eR 1) (eC (.int 1)))))
  (sRet (eBin ixD (eR 0) (eBin subD (eCall lenD (aCons (eR 0) aNil)) (eR 1))))))
noncomputable def f_letter_again : List D → R D := runB false 2 m_letter_again
theorem letter_again_ok (t : List Nat) (h0 : t ≠ []) (ht : t.length ≤ 1000) : f_letter_again [.str t] = .ok (.str [agn t]) := by
  have h1 : t.length ≤ SZ := le_sz (by omega)
  obtain ⟨r1, r2, r3, r4⟩ := lper_spec h0
  have cond : ∀ n : Nat, n ≤ t.length → eBin neD (eSl (eR 0) (oSo (eV 1)) oNo) (eSl (eR 0) oNo (oSo (eBin subD (eCall lenD (aCons (eR 0) aNil)) (eR 1)))) [.sh (.str t), .sh (.int n)] = .ok (.bl (!decide (t.drop n = t.take (t.length - n)))) := fun n hn => by
    have e1 : ((t.length : Int) - n).toNat = t.length - n := by omega
    simp [h1, slD_s, cutL_from _ _ (show (0 : Int) ≤ n by omega), cutL_to _ _ (show (0 : Int) ≤ (t.length : Int) - n by omega), e1]
    rw [Bool.beq_eq_decide_eq]
  simp [f_letter_again, m_letter_again, runB_s, List.replicate]
  refine whL_ind (P := fun s => ∃ n : Nat, s = [.sh (.str t), .sh (.int n)] ∧ 0 < n ∧ n ≤ lper t) (mu := fun s => match s with | [_, .sh (.int n)] => 2000 - n.toNat | _ => 0) (Q := fun r => fin false (bnd r _) = .ok (.str [agn t])) ?_ _ _ ⟨1, rfl, by omega, by omega⟩ ?_
  · rintro s ⟨n, rfl, hn, hn2⟩
    rw [cond n (by omega)]
    by_cases e : n = lper t
    · subst e
      have hi : t.length - lper t < t.length := by omega
      simp [r3, h1]
      rw [ixD_s _ _ (by omega) (agn t) h1 (by
        rw [show ((t.length : Int) - (lper t : Int)).toNat = t.length - lper t by omega]
        unfold agn
        rw [List.getD_eq_getElem?_getD, List.getElem?_eq_getElem hi]
        rfl)]
      simp
    · have := r4 n (by omega) (by omega)
      simp [this]
      exact ⟨⟨n + 1, by omega, by omega, by omega⟩, by omega⟩
  · rw [fuel_is]
    simp

noncomputable def m_filled_least : SS → RS :=
  (sSeq (sWh fuel (eBin ltD (eCall lenD (aCons (eR 0) aNil)) (eR 1)) (sSeq (sSet 3 (eBin ixD (eR 2) (eC (.int 0))))
  (sSeq (sIf (eBin neD (eR 0) (eC (.str []))) (sSet 3 (eCall f_letter_again (aCons (eV 0) aNil))) sNx)
  (sSeq (sIf (eNot (eCall f_is_beginning (aCons (eBin addD (eR 0) (eR 3)) (aCons (eV 1) (aCons (eBin ixD (eR 2) (eUn negD (eC (.int 1)))) aNil))))) (sSet 3 (eBin ixD (eR 2) (eBin addD (eM "str" idxS (eR 2) (aCons (eR 3) aNil)) (eC (.int 1))))) sNx)
  (sSet 0 (eBin addD (eR 0) (eR 3)))))))
  (sRet (eV 0)))
noncomputable def f_filled_least : List D → R D := runB false 4 m_filled_least
theorem filled_least_ok (t0 : List Nat) (n k : Nat) (h1 : 1 ≤ k) (h2 : k ≤ 6) (h3 : 0 < n) (h4 : n ≤ 900) (hB : Beg (96 + k) n t0) (hL : ∀ x ∈ t0, 97 ≤ x ∧ x ≤ 96 + k) : ∃ r, f_filled_least [.str t0, .int n, .str (abc k)] = .ok (.str r) ∧ Good 97 (96 + k) n r ∧ t0 <+: r ∧ ∀ w, Good 97 (96 + k) n w → t0 <+: w → ¬ w < r := by
  simp [f_filled_least, m_filled_least, runB_s, List.replicate]
  refine whL_ind (P := fun s => ∃ (t : List Nat) (a : Sl), s = [.sh (.str t), .sh (.int n), .sh (.str (abc k)), a] ∧ canS (some a) = true ∧ Fil 97 (96 + k) n t0 t) (mu := fun s => match s with | .sh (.str t) :: _ => 2000 - t.length | _ => 0) (Q := fun R => ∃ r, fin false (bnd R _) = .ok (.str r) ∧ Good 97 (96 + k) n r ∧ t0 <+: r ∧ ∀ w, Good 97 (96 + k) n w → t0 <+: w → ¬ w < r) ?_ _ _ ⟨t0, _, rfl, rfl, Fil.start hB hL⟩ ?_
  · rintro s ⟨t, a, rfl, ha, F⟩
    have hl := F.beg.1
    have hz : t.length ≤ SZ := le_sz (by omega)
    have hz1 : t.length + 1 ≤ SZ := le_sz (by omega)
    by_cases e : t.length < n
    · have e0 : (t.length : Int) < n := by omega
      obtain ⟨F1, n1, n2, n3⟩ := F.step (by omega) e
      have hr := firstL_ran F.let_ (show 97 ≤ 96 + k by omega)
      have at0 : ixD (.str (abc k)) (.int 0) = .ok (.str [97]) := by simpa using abc_at (c := 0) h1 h2 (by omega)
      have ng : negD (.int 1) = .ok (.int (-1)) := rfl
      have as1 : f_is_beginning [.str (t ++ [firstL 97 t]), .int n, .str [96 + k]] = .ok (.bl (begB (96 + k) n (t ++ [firstL 97 t]))) := is_beginning_ok (t ++ [firstL 97 t]) n (96 + k) h3 (by omega) (by simp; omega)
      have as2 := abc_ix h1 h2 hr.1 (by omega : firstL 97 t < 97 + k)
      have as3 : begB (96 + k) n (t ++ [firstL 97 t]) = false → ixD (.str (abc k)) (.int (((firstL 97 t - 97 : Nat) : Int) + 1)) = .ok (.str [firstL 97 t + 1]) := fun hb => by
        have := n3 hb
        have h := abc_at (c := firstL 97 t - 97 + 1) h1 h2 (by omega)
        rw [show 97 + (firstL 97 t - 97 + 1) = firstL 97 t + 1 by omega] at h
        simpa using h
      have nW : nextW 97 (96 + k) n t = if begB (96 + k) n (t ++ [firstL 97 t]) = true then firstL 97 t else firstL 97 t + 1 := rfl
      have hf0 : t = [] → firstL 97 t = 97 := fun e => by unfold firstL; rw [if_pos e]
      have hf1 : t ≠ [] → f_letter_again [.str t] = .ok (.str [firstL 97 t]) := fun e => by
        unfold firstL
        rw [if_neg e]
        exact letter_again_ok t e (by omega)
      have hz0 : 1 ≤ SZ := le_sz (by omega)
      generalize hb : begB (96 + k) n (t ++ [firstL 97 t]) = b at as1 as3 nW n3
      generalize firstL 97 t = c at as1 as2 as3 nW n3 hf0 hf1 hr hb
      rw [nW] at F1
      by_cases ht : t = []
      · have := hf0 ht
        subst this
        subst ht
        cases b with
        | true =>
          have as1' : f_is_beginning [.str [97], .int n, .str [96 + k]] = .ok (.bl true) := as1
          simp [h3, ha, at0, addD_s, abc_last h1 h2, ng, hz0, as1']
          exact ⟨_, _, ⟨rfl, rfl⟩, rfl, F1⟩
        | false =>
          have as1' : f_is_beginning [.str [97], .int n, .str [96 + k]] = .ok (.bl false) := as1
          have as3' := as3 rfl
          simp at as3' as2
          simp [h3, ha, at0, addD_s, abc_last h1 h2, ng, hz0, as1', as2, as3']
          exact ⟨_, _, ⟨rfl, rfl⟩, rfl, F1⟩
      · have hf1' := hf1 ht
        cases b with
        | true =>
          simp [e0, ht, ha, at0, addD_s, abc_last h1 h2, ng, hz, hz1, as1, hf1']
          exact ⟨⟨_, _, ⟨rfl, rfl⟩, rfl, F1⟩, by omega⟩
        | false =>
          have as3' := as3 rfl
          simp [e0, ht, ha, at0, addD_s, abc_last h1 h2, ng, hz, hz1, as1, hf1', as2, as3']
          exact ⟨⟨_, _, ⟨rfl, rfl⟩, rfl, F1⟩, by omega⟩
    · have e0 : ¬ (t.length : Int) < n := by omega
      simp [hz, e0]
      exact F.done (by omega)
  · rw [fuel_is]
    simp
    omega

noncomputable def m_next_least : SS → RS :=
  (sSeq (sX (eCall f_looked (aCons (eV 0) (aCons (eV 1) aNil))))
  (sSeq (sSet 2 (eCall f_letters (aCons (eV 1) aNil)))
  (sSeq (sFor (iRg3 (aCons (eBin subD (eCall lenD (aCons (eR 0) aNil)) (eC (.int 1))) (aCons (eUn negD (eC (.int 1))) (aCons (eUn negD (eC (.int 1))) aNil)))) (gN 3) (sFor (iE (eSl (eR 2) (oSo (eBin addD (eM "str" idxS (eR 2) (aCons (eBin ixD (eR 0) (eR 3)) aNil)) (eC (.int 1)))) oNo)) (gN 4) (sIf (eCall f_is_beginning (aCons (eBin addD (eSl (eR 0) oNo (oSo (eV 3))) (eR 4)) (aCons (eCall lenD (aCons (eR 0) aNil)) (aCons (eBin ixD (eR 2) (eUn negD (eC (.int 1)))) aNil)))) (sRet (eCall f_filled_least (aCons (eBin addD (eSl (eR 0) oNo (oSo (eV 3))) (eR 4)) (aCons (eCall lenD (aCons (eR 0) aNil)) (aCons (eV 2) aNil))))) sNx)))
  (sRet (eC .non)))))
noncomputable def f_next_least : List D → R D := runB false 5 m_next_least
theorem next_least_ok (w : List Nat) (k : Nat) (h1 : 1 ≤ k) (h2 : k ≤ 6) (hg : goodW w k = true) : ∃ o, f_next_least [.str w, .int k] = .ok (nextV o) ∧ NextP 97 (96 + k) w.length w o := by
  obtain ⟨w1, w2, w3⟩ := goodW_iff.mp hg
  have hz : w.length ≤ SZ := le_sz (by omega)
  have lk := looked_all w k (by omega) (by omega) (by omega)
  rw [if_pos hg] at lk
  have lt := letters_ok k (by omega) (by omega)
  have ng : negD (.int 1) = .ok (.int (-1)) := rfl
  have hza : (abc k).length ≤ SZ := le_sz (by rw [abc_len h2]; omega)
  obtain ⟨P, hP⟩ : ∃ P : Nat → SS → Prop, P = fun i s => ∃ a b : Sl, s = [.sh (.str w), .sh (.int k), .sh (.str (abc k)), a, b] ∧ canS (some a) = true ∧ canS (some b) = true ∧
      ∀ j' c', w.length - i ≤ j' → j' < w.length → w.getD j' 0 < c' → c' ≤ 96 + k → ¬ Beg (96 + k) w.length (w.take j' ++ [c']) := ⟨_, rfl⟩
  obtain ⟨Y, hY⟩ : ∃ Y : R D → Prop, Y = fun r => ∃ o, r = .ok (nextV o) ∧ NextP 97 (96 + k) w.length w o := ⟨_, rfl⟩
  have hYg : Y (f_next_least [.str w, .int k]) := by
    simp [f_next_least, m_next_least, runB_s, List.replicate, lk, lt, hz, ng]
    rw [rng3_i _ _ (by unfold fit62; omega) (by unfold fit62; omega)]
    simp
    refine forL_post P (fun r => Y (fin false (bnd r _))) _ _ (by rw [hP]; exact ⟨_, _, rfl, rfl, rfl, fun j' c' a b => by omega⟩) ?_ ?_
    · intro i d s hd hp
      rw [hP] at hp
      obtain ⟨a, b, rfl, ha, hb, hno⟩ := hp
      obtain ⟨rfl, hi⟩ := downD_get hd
      have hj : w.length - 1 - i < w.length := by omega
      have hm := w3 _ (getD_mem hj)
      have e0 := ixD_getD (i := (w.length : Int) - 1 - i) (j := w.length - 1 - i) (by omega) hj hz
      have e1 := abc_ix (k := k) h1 h2 hm.1 (by omega)
      generalize hjd : w.length - 1 - i = j at *
      generalize hcj : w.getD j 0 = cj at *
      have en : (((cj - 97 : Nat) : Int) + 1).toNat = cj - 97 + 1 := by omega
      simp [turn_s, ha, hb, e0, e1, slD_s _ _ _ hza, cutL_from _ _ (show (0 : Int) ≤ ((cj - 97 : Nat) : Int) + 1 by omega)]
      rw [← List.map_drop]
      refine forL_post (fun i' s => ∃ b : Sl, s = [.sh (.str w), .sh (.int k), .sh (.str (abc k)), .sh (.int ((w.length : Int) - 1 - i)), b] ∧ canS (some b) = true ∧
          ∀ c', cj < c' → c' ≤ cj + i' → ¬ Beg (96 + k) w.length (w.take j ++ [c'])) (post (P (i + 1)) fun r => Y (fin false (bnd r _))) _ _ ⟨_, rfl, hb, fun c' a b => by omega⟩ ?_ ?_
      · rintro i' d s hd ⟨b, rfl, hb, hno2⟩
        obtain ⟨rfl, hi'⟩ := abc_drop_get h2 hd
        have hc : 97 + (cj - 97 + 1 + i') = cj + 1 + i' := by omega
        rw [hc]
        have hcm : cj + 1 + i' ≤ 96 + k := by omega
        generalize hcd : cj + 1 + i' = c at *
        have ht : (w.take j).length = j := by simp; omega
        have ea : (cutL w none (some ((w.length : Int) - 1 - i))) = w.take j := by
          rw [cutL_to _ _ (by omega)]
          congr 1; omega
        have hz2 : (w.take j).length + 1 ≤ SZ := le_sz (by omega)
        have as1 := is_beginning_ok (w.take j ++ [c]) w.length (96 + k) (by omega) (by omega) (by simp; omega)
        cases hbg : begB (96 + k) w.length (w.take j ++ [c]) with
        | true =>
          have hB := (begB_iff (by omega)).mp hbg
          rw [hbg] at as1
          obtain ⟨r, hr, r1, r2, r3⟩ := filled_least_ok (w.take j ++ [c]) w.length k h1 h2 (by omega) (by omega) hB (fun x hx => by
            rcases List.mem_append.mp hx with h | h
            · have := w3 x (List.mem_of_mem_take h); omega
            · rw [List.mem_singleton.mp h]; omega)
          simp [turn_s, hb, slD_s _ _ _ hz, ea, addD_s, -List.length_take, hz2, hz, abc_last h1 h2, ng, as1, hr]
          rw [hY]
          refine ⟨some r, rfl, r1, next_found (c := c) rfl hj (by omega) (fun j' c' h3 h4 h5 h6 => hno j' c' (by omega) h4 h5 h6) (fun c' h3 h4 => hno2 c' (by omega) (by omega)) r2 r3⟩
        | false =>
          rw [hbg] at as1
          simp [turn_s, hb, slD_s _ _ _ hz, ea, addD_s, -List.length_take, hz2, hz, abc_last h1 h2, ng, as1]
          intro c' h3 h4
          by_cases e : c' = c
          · subst e
            intro hB
            rw [(begB_iff (by omega)).mpr hB] at hbg
            cases hbg
          · exact hno2 c' h3 (by omega)
      · rintro s ⟨b, rfl, hb, hno2⟩
        simp only [post_nx, hP]
        refine ⟨_, _, rfl, rfl, hb, fun j' c' h3 h4 h5 h6 => ?_⟩
        by_cases e : j' = j
        · subst e
          refine hno2 c' (by omega) ?_
          rw [List.length_map, List.length_drop, abc_len h2]
          omega
        · exact hno j' c' (by omega) h4 h5 h6
    · intro s hp
      rw [hP] at hp
      obtain ⟨a, b, rfl, ha, hb, hno⟩ := hp
      simp only [bnd_nx, sRet_s, eC_s, rE_ok, fin_rt]
      rw [hY]
      refine ⟨none, by simp [nextV], next_none rfl fun j' c' h3 h4 h5 => hno j' c' ?_ h3 h4 h5⟩
      rw [downD_len]
      omega
  rw [hY] at hYg
  exact hYg

noncomputable def m_piece_from : SS → RS :=
  (sSeq (sAsg (gT [(gN 4), (gN 5)]) (eCall f_least_at (aCons (eV 0) (aCons (eV 1) (aCons (eV 2) aNil)))))
  (sSeq (sSet 6 (eSl (eCall f_root (aCons (eV 4) aNil)) (oSo (eV 5)) oNo))
  (sSeq (sWh fuel (eBin ltD (eCall lenD (aCons (eR 6) aNil)) (eR 3)) (sSeq (sSet 4 (eCall f_next_least (aCons (eV 4) (aCons (eV 1) aNil))))
  (sSeq (sIf (eBin (isN false) (eR 4) (eC .non)) (sSet 4 (eV 0)) sNx)
  (sSet 6 (eBin addD (eR 6) (eCall f_root (aCons (eV 4) aNil)))))))
  (sRet (eSl (eR 6) oNo (oSo (eV 3)))))))
noncomputable def f_piece_from : List D → R D := runB false 7 m_piece_from
theorem piece_from_ok (f : List Nat) (k Q m : Nat) (h1 : 1 ≤ k) (h2 : k ≤ 6) (hg : goodW f k = true) (hN : Nk f) (hQ : Q < (ringW k f.length f).length) (hm : m ≤ 200) : f_piece_from [.str f, .int k, .int Q, .int m] = .ok (.str (cyc (ringW k f.length f) Q m)) := by
  obtain ⟨g1, g2, g3⟩ := goodW_iff.mp hg
  have hF := (good_iff_goodW.mp ⟨hg, hN⟩).2.2
  have R := lsL_rg h1 h2 g1 hF
  obtain ⟨i, v, e, q1, q2, la⟩ := least_at_ok f k Q h1 h2 hg hN hQ
  have hv0 := R.ne e
  have hvl := (R.gd e).1
  have rt := root_ok v hv0 (by omega)
  have hrl := root_len hv0
  have hrz : (rootW v).length ≤ SZ := le_sz (by have := (rlen_spec hv0).1; omega)
  have hy := congrArg List.length (yl_succ e)
  rw [List.length_append] at hy
  have hr0 : ringW k f.length f = XL (lsL k f.length f) 0 := rfl
  have hrp := root_part e (a := Q - (YL (lsL k f.length f) i).length) (by omega)
  rw [show (YL (lsL k f.length f) i).length + (Q - (YL (lsL k f.length f) i).length) = Q by omega] at hrp
  rw [hr0] at hQ ⊢
  have hfl : f.length ≤ 24 := g2
  have hfr := R.first
  have hstep : ∀ (i : Nat) (v : List Nat), (lsL k f.length f)[i]? = some v → ∃ o, f_next_least [.str v, .int k] = .ok (nextV o) ∧ o = (lsL k f.length f)[i + 1]? := fun i v e => by
    have hG := R.gd e
    have hgw : goodW v k = true := goodW_iff.mpr ⟨by have := hG.1; omega, by have := hG.1; omega, fun x hx => by have := hG.2.2 x hx; omega⟩
    obtain ⟨o, ho, hO⟩ := next_least_ok v k h1 h2 hgw
    rw [hG.1] at hO
    exact ⟨o, ho, hO.uniq (R.next i v e)⟩
  have hroot : ∀ (i : Nat) (v : List Nat), (lsL k f.length f)[i]? = some v → f_root [.str v] = .ok (.str (rootW v)) ∧ 1 ≤ (rootW v).length ∧ (rootW v).length ≤ 24 := fun i v e => by
    have hG := R.gd e
    have h0 := R.ne e
    have := rlen_pos h0
    have := (rlen_spec h0).1
    have := root_len h0
    exact ⟨root_ok v h0 (by have := hG.1; omega), by omega, by have := hG.1; omega⟩
  generalize hLL : lsL k f.length f = L at *
  generalize hYY : (YL L i).length = Y at *
  simp [f_piece_from, m_piece_from, runB_s, List.replicate, la, rt, slD_s _ _ _ hrz, cutL_from]
  refine whL_nx (P := fun s => ∃ (i : Nat) (v : List Nat) (b : Sl) (c : Nat), s = [.sh (.str f), .sh (.int k), .sh (.int Q), .sh (.int m), .sh (.str v), b, .sh (.str (cyc (XL L 0) Q c))] ∧ canS (some b) = true ∧ L[i]? = some v ∧ (Q + c) % (XL L 0).length = (YL L (i + 1)).length % (XL L 0).length ∧ c ≤ 300) (mu := fun s => match s with | [_, _, _, _, _, _, .sh (.str t)] => 1000 - t.length | _ => 0)
    (Q := fun r => fin false (bnd r _) = .ok (.str (cyc (XL L 0) Q m))) ?_ _ _ ⟨i, v, _, (rootW v).length - (Q - Y), by rw [hrp], rfl, e, by congr 1; omega, by have := (hroot i v e).2.2; omega⟩ ?_
  · rintro s ⟨i, v, b, c, rfl, hb, e, hc, hc3⟩
    have hcl : (cyc (XL L 0) Q c).length = c := cyc_len _ _ _
    have hcz : (cyc (XL L 0) Q c).length ≤ SZ := le_sz (by omega)
    have hcz2 : c ≤ SZ := le_sz (by omega)
    refine ⟨decide ((c : Int) < m), by simp [hcz, hcl, hcz2], fun hlt => ?_, fun hlt => ?_⟩
    · have hlt : c < m := by have := of_decide_eq_true hlt; omega
      obtain ⟨o, ho, hO⟩ := hstep i v e
      have hpos : (YL L (i + 1)).length ≤ (XL L 0).length := by have := ring_len L (i + 1); omega
      cases q : L[i + 1]? with
      | some z =>
        rw [q] at hO
        subst hO
        have hnv : nextV (some z) = .str z := rfl
        rw [hnv] at ho
        obtain ⟨r1, r2, r3⟩ := hroot _ _ q
        have hlt2 : (YL L (i + 1)).length < (XL L 0).length := by
          have := ring_len L (i + 1)
          rw [xl_cons q, List.length_append] at this
          omega
        rw [Nat.mod_eq_of_lt hlt2] at hc
        have hadd := cyc_add (r := XL L 0) (P := Q) (a := c) (b := (rootW z).length)
        rw [hc, root_there q] at hadd
        have hz : c + (rootW z).length ≤ SZ := le_sz (by omega)
        have ad : addD (.str (cyc (XL L 0) Q c)) (.str (rootW z)) = .ok (.str (cyc (XL L 0) Q (c + (rootW z).length))) := by
          rw [addD_s, if_pos (by rw [hcl]; exact hz), hadd]
        simp [ho, isN, isNone, r1, ad]
        have hy2 := congrArg List.length (yl_succ q)
        rw [List.length_append] at hy2
        refine ⟨⟨i + 1, z, b, c + (rootW z).length, ⟨rfl, rfl, rfl⟩, hb, q, ?_, by omega⟩, ?_⟩
        · rw [← Nat.add_assoc, ← Nat.mod_add_mod, hc, hy2]
        · rw [cyc_len, cyc_len]; omega
      | none =>
        rw [q] at hO
        subst hO
        have hnv : nextV none = .non := rfl
        rw [hnv] at ho
        obtain ⟨r1, r2, r3⟩ := hroot _ _ hfr
        have hend : (YL L (i + 1)).length = (XL L 0).length := by
          have := yx L (i + 1)
          have hx : XL L (i + 1) = [] := by
            unfold XL
            rw [List.drop_of_length_le (List.getElem?_eq_none_iff.mp q)]
            rfl
          rw [hx, List.append_nil] at this
          rw [this]
        rw [hend, Nat.mod_self] at hc
        have hadd := cyc_add (r := XL L 0) (P := Q) (a := c) (b := (rootW f).length)
        have h00 : (YL L 0).length = 0 := by simp [YL]
        have hrt0 := root_there hfr
        rw [h00] at hrt0
        rw [hc, hrt0] at hadd
        have hz : c + (rootW f).length ≤ SZ := le_sz (by omega)
        have ad : addD (.str (cyc (XL L 0) Q c)) (.str (rootW f)) = .ok (.str (cyc (XL L 0) Q (c + (rootW f).length))) := by
          rw [addD_s, if_pos (by rw [hcl]; exact hz), hadd]
        simp [ho, isN, isNone, r1, ad]
        have hy2 := congrArg List.length (yl_succ hfr)
        rw [List.length_append, h00] at hy2
        refine ⟨⟨0, f, b, c + (rootW f).length, ⟨rfl, rfl, rfl⟩, hb, hfr, ?_, by omega⟩, ?_⟩
        · rw [← Nat.add_assoc, ← Nat.mod_add_mod, hc, hy2]
        · rw [cyc_len, cyc_len]; omega
    · have hge : m ≤ c := by have := of_decide_eq_false hlt; omega
      simp [slD_s _ _ _ hcz, cutL_to, cyc_take hge]
  · rw [fuel_is]
    simp
    omega

noncomputable def m_piece_at : SS → RS :=
  (sSeq (sSet 4 (eCall f_ring_size (aCons (eV 0) (aCons (eV 1) aNil))))
  (sSeq (sIf (eBin gtD (eR 3) (eC (.int 200))) (sRaise 3) sNx)
  (sSeq (sIf (eBin ltD (eR 3) (eC (.int 0))) (sRaise 5) sNx)
  (sRet (eCall f_piece_from (aCons (eV 0) (aCons (eV 1) (aCons (eBin modD (eR 2) (eR 4)) (aCons (eV 3) aNil)))))))))
noncomputable def f_piece_at : List D → R D := runB false 5 m_piece_at
theorem ring_pos2 {k : Nat} {f : List Nat} (h1 : 1 ≤ k) (h2 : k ≤ 6) (hg : goodW f k = true) (hN : Nk f) : 0 < (ringW k f.length f).length := by
  obtain ⟨g1, g2, g3⟩ := goodW_iff.mp hg
  have hF := (good_iff_goodW.mp ⟨hg, hN⟩).2.2
  obtain ⟨P, hP, -⟩ := word_stands h1 h2 g1 hF hF.1 hF.2.2 (by rw [(nk_iff (List.length_pos_iff.mp (by omega))).mp hF.2.1]; exact List.lt_irrefl _)
  omega
theorem piece_at_ok (f : List Nat) (k m : Nat) (x : Int) (h1 : 1 ≤ k) (h2 : k ≤ 6) (hg : goodW f k = true) (hN : Nk f) (hm : m ≤ 200) : f_piece_at [.str f, .int k, .int x, .int m] = .ok (.str (cyc (ringW k f.length f) (x % ((ringW k f.length f).length : Nat)).toNat m)) := by
  have hp := ring_pos2 h1 h2 hg hN
  have rs := ring_size_ok f k h1 h2 hg hN
  have a := Int.emod_nonneg x (show (((ringW k f.length f).length : Nat) : Int) ≠ 0 by omega)
  have b := Int.emod_lt_of_pos x (show (0 : Int) < ((ringW k f.length f).length : Nat) by omega)
  have pf := piece_from_ok f k (x % ((ringW k f.length f).length : Nat)).toNat m h1 h2 hg hN (by omega) hm
  rw [show (((x % ((ringW k f.length f).length : Nat)).toNat : Nat) : Int) = x % ((ringW k f.length f).length : Nat) by omega] at pf
  have md := modD_i x ((ringW k f.length f).length : Nat) (by omega)
  have c1 : ¬ ((200 : Int) < m) := by omega
  have c1' : ¬ (200 < m) := by omega
  have c2 : ¬ ((m : Int) < 0) := by omega
  generalize (ringW k f.length f) = rg at *
  simp [f_piece_at, m_piece_at, runB_s, List.replicate, rs, md, pf, c1, c1', c2]
theorem piece_at_many (f : List Nat) (k : Nat) (x m : Int) (h1 : 1 ≤ k) (h2 : k ≤ 6) (hg : goodW f k = true) (hN : Nk f) (hm : 200 < m) : f_piece_at [.str f, .int k, .int x, .int m] = .ex 3 [] := by
  have rs := ring_size_ok f k h1 h2 hg hN
  simp [f_piece_at, m_piece_at, runB_s, List.replicate, rs, hm]
theorem piece_at_badk' (f x m : D) (k : Int) (h : ¬ (1 ≤ k ∧ k ≤ 6)) : f_piece_at [f, .int k, x, m] = .ex 1 [] := by
  simp [f_piece_at, m_piece_at, runB_s, List.replicate, ring_size_badk f k h]
theorem piece_at_bad' (f : List Nat) (x m : D) (k : Nat) (h1 : 1 ≤ k) (h2 : k ≤ 6) (hl : f.length ≤ 1000) (hg : goodW f k = false ∨ ¬ Nk f) : f_piece_at [.str f, .int k, x, m] = .ex 2 [] := by
  simp [f_piece_at, m_piece_at, runB_s, List.replicate, ring_size_bad f k h1 h2 hl hg]

noncomputable def m_turn_by : SS → RS :=
  (sRet (eM "list" idxL (eCall f_turns_of (aCons (eV 0) aNil)) (aCons (eCall f_least_turn (aCons (eV 0) aNil)) aNil)))
noncomputable def f_turn_by : List D → R D := runB false 1 m_turn_by
theorem turn_by_ok (w : List Nat) (h0 : w ≠ []) (h : w.length ≤ 100000) : f_turn_by [.str w] = .ok (.int ((rots w).findIdx (· == lrot w) : Nat)) := by
  simp [f_turn_by, m_turn_by, runB_s, List.replicate, turns_ok w h, least_turn_ok w h0 h, idxL_str (lrot_spec h0).1]

noncomputable def m_tops_behind : SS → RS :=
  (sSeq (sSet 2 (eC (.int 0)))
  (sSeq (sWh fuel (eAnd (eBin ltD (eR 2) (eCall lenD (aCons (eR 0) aNil))) (eBin eqD (eBin ixD (eR 0) (eBin subD (eBin subD (eCall lenD (aCons (eR 0) aNil)) (eR 2)) (eC (.int 1)))) (eR 1))) (sSet 2 (eBin addD (eR 2) (eC (.int 1)))))
  (sRet (eV 2))))
noncomputable def f_tops_behind : List D → R D := runB false 3 m_tops_behind
theorem tops_behind_ok (t : List Nat) (top j : Nat) (hl : t.length ≤ 1000) (hj : LastB top t j) : f_tops_behind [.str t, .str [top]] = .ok (.int ((t.length - 1 - j : Nat) : Int)) := by
  obtain ⟨j1, j2, j3⟩ := hj
  have hz : t.length ≤ SZ := le_sz (by omega)
  simp [f_tops_behind, m_tops_behind, runB_s, List.replicate]
  refine whL_nx (P := fun s => ∃ c : Nat, s = [.sh (.str t), .sh (.str [top]), .sh (.int c)] ∧ c ≤ t.length - 1 - j) (mu := fun s => match s with | [_, _, .sh (.int c)] => 2000 - c.toNat | _ => 0)
    (Q := fun r => fin false (bnd r _) = .ok (.int ((t.length - 1 - j : Nat) : Int))) ?_ _ _ ⟨0, rfl, by omega⟩ ?_
  · rintro s ⟨c, rfl, hc⟩
    have hcl : (c : Int) < t.length := by omega
    have ix := ixD_getD (w := t) (j := t.length - 1 - c) (i := (t.length : Int) - c - 1) (by omega) (by omega) hz
    by_cases e : c = t.length - 1 - j
    · have hjj : t.length - 1 - c = j := by omega
      rw [hjj] at ix
      have hne : (t.getD j 0 == top) = false := by rw [beq_eq_false_iff_ne]; omega
      generalize t.getD j 0 = x at *
      refine ⟨false, by simp [hz, hcl, ix, hne], (fun z => by cases z), fun _ => ?_⟩
      simp [e]
    · have hx := j3 (t.length - 1 - c) (by omega) (by omega)
      rw [hx] at ix
      refine ⟨true, by simp [hz, hcl, ix], fun _ => ?_, (fun z => by cases z)⟩
      simp
      exact ⟨⟨c + 1, by omega, by omega⟩, by omega⟩
  · rw [fuel_is]
    simp

noncomputable def m_least_beginning : SS → RS :=
  (sSeq (sX (eCall f_word_count (aCons (eV 1) (aCons (eV 2) aNil))))
  (sSeq (sIf (eBin neD (eR 0) (eC (.str []))) (sX (eCall f_looked (aCons (eV 0) (aCons (eV 2) aNil)))) sNx)
  (sSeq (sSet 3 (eCall f_letters (aCons (eV 2) aNil)))
  (sSeq (sIf (eNot (eCall f_is_beginning (aCons (eV 0) (aCons (eV 1) (aCons (eBin ixD (eR 3) (eUn negD (eC (.int 1)))) aNil))))) (sRet (eC .non)) sNx)
  (sRet (eCall f_filled_least (aCons (eV 0) (aCons (eV 1) (aCons (eV 3) aNil)))))))))
noncomputable def f_least_beginning : List D → R D := runB false 4 m_least_beginning
theorem least_beginning_yes (t : List Nat) (n k : Nat) (h1 : 1 ≤ k) (h2 : k ≤ 6) (h3 : 1 ≤ n) (h4 : n ≤ 24) (ht : t = [] ∨ goodW t k = true) (hb : begB (96 + k) n t = true) : ∃ r, f_least_beginning [.str t, .int n, .int k] = .ok (.str r) ∧ Good 97 (96 + k) n r ∧ t <+: r ∧ ∀ w, Good 97 (96 + k) n w → t <+: w → ¬ w < r := by
  obtain ⟨r, hr, hr2⟩ := filled_least_ok t n k h1 h2 (by omega) (by omega) ((begB_iff (by omega)).mp hb) (fun x hx => by
    rcases ht with rfl | h
    · cases hx
    · have := (goodW_iff.mp h).2.2 x hx
      omega)
  refine ⟨r, ?_, hr2⟩
  have ng : negD (.int 1) = .ok (.int (-1)) := rfl
  have hl : t.length ≤ 24 := by
    rcases ht with rfl | h
    · simp
    · exact (goodW_iff.mp h).2.1
  have as1 := is_beginning_ok t n (96 + k) (by omega) (by omega) (by omega)
  rw [hb] at as1
  have wc := word_count_ok n k (by omega) (by omega) (by omega) (by omega)
  have hz : t.length ≤ SZ := le_sz (by omega)
  have lt := letters_ok k (by omega) (by omega)
  by_cases e : t = []
  · subst e
    simp [f_least_beginning, m_least_beginning, runB_s, List.replicate, wc, lt, abc_last h1 h2, ng, as1, hr]
  · have hg := ht.resolve_left e
    have lk := looked_all t k (by omega) (by omega) (by omega)
    rw [if_pos hg] at lk
    simp [f_least_beginning, m_least_beginning, runB_s, List.replicate, wc, lt, abc_last h1 h2, ng, as1, lk, e, hr]

noncomputable def m_least_from : SS → RS :=
  (sSeq (sIf (eBin eqD (eR 2) (eSl (eR 0) oNo (oSo (eCall lenD (aCons (eR 2) aNil))))) (sRet (eV 0)) sNx)
  (sSeq (sIf (eBin ltD (eR 2) (eR 0)) (sRet (eC .non)) sNx)
  (sRet (eCall f_least_beginning (aCons (eV 2) (aCons (eCall lenD (aCons (eR 0) aNil)) (aCons (eV 1) aNil)))))))
noncomputable def f_least_from : List D → R D := runB false 3 m_least_from
theorem least_from_ok (f v t : List Nat) (k : Nat) (h1 : 1 ≤ k) (h2 : k ≤ 6) (hg : goodW f k = true) (hN : Nk f) (hv : Good 97 (96 + k) f.length v) (hvf : ¬ v < f) (htv : t <+: v) (hl : t.length < f.length) (ht0 : t ≠ []) :
    ∃ z, f_least_from [.str f, .int k, .str t] = .ok (.str z) ∧ Good 97 (96 + k) f.length z ∧ ¬ z < f ∧ t <+: z ∧ ∀ g, Good 97 (96 + k) f.length g → ¬ g < f → t <+: g → ¬ g < z := by
  obtain ⟨g1, g2, g3⟩ := goodW_iff.mp hg
  have hF := (good_iff_goodW.mp ⟨hg, hN⟩).2.2
  have hz : f.length ≤ SZ := le_sz (by omega)
  have htz : t.length ≤ SZ := le_sz (by omega)
  by_cases hp : t <+: f
  · have e := List.prefix_iff_eq_take.mp hp
    refine ⟨f, ?_, hF, List.lt_irrefl _, hp, fun g _ h _ => h⟩
    have hb : (t == f.take t.length) = true := by simpa using e
    simp [f_least_from, m_least_from, runB_s, List.replicate, htz, slD_s _ _ _ hz, cutL_to, hb, ← e]
  · have hb : (t == f.take t.length) = false := by
      rw [beq_eq_false_iff_ne]
      exact fun e => hp (List.prefix_iff_eq_take.mpr e)
    have htr : ∀ x ∈ t, 97 ≤ x ∧ x ≤ 96 + k := fun x hx => hv.2.2 x (htv.subset hx)
    have hB : Beg (96 + k) f.length t := by
      obtain ⟨s, rfl⟩ := htv
      exact hv.beg
    have hgt : goodW t k = true := goodW_iff.mpr ⟨List.length_pos_iff.mpr ht0, by omega, fun x hx => by have := htr x hx; omega⟩
    obtain ⟨r, r1, r2, r3, r4⟩ := least_beginning_yes t f.length k h1 h2 g1 g2 (.inr hgt) ((begB_iff (by omega)).mpr hB)
    obtain ⟨a1, a2⟩ := after_facts hl hvf htv hp r3
    have c1 : ltS t f = false := by simpa [ltS] using a1
    refine ⟨r, ?_, r2, a2, r3, fun g hg _ hgp => r4 g hg hgp⟩
    simp [f_least_from, m_least_from, runB_s, List.replicate, htz, hz, slD_s _ _ _ hz, cutL_to, hb, c1, r1]

noncomputable def m_place_of : SS → RS :=
  (sSeq (sSet 3 (eCall f_ring_size (aCons (eV 0) (aCons (eV 1) aNil))))
  (sSeq (sX (eCall f_looked (aCons (eV 2) (aCons (eV 1) aNil))))
  (sSeq (sIf (eBin neD (eCall lenD (aCons (eR 2) aNil)) (eCall lenD (aCons (eR 0) aNil))) (sRaise 2) sNx)
  (sSeq (sSet 4 (eCall f_least_turn (aCons (eV 2) aNil)))
  (sSeq (sIf (eBin ltD (eR 4) (eR 0)) (sRaise 5) sNx)
  (sSeq (sSet 5 (eCall f_root (aCons (eV 4) aNil)))
  (sSeq (sSet 6 (eBin ixD (eCall f_letters (aCons (eV 1) aNil)) (eUn negD (eC (.int 1)))))
  (sSeq (sIf (eBin eqD (eR 5) (eR 6)) (sRet (eBin modD (eBin subD (eR 3) (eCall lenD (aCons (eR 2) aNil))) (eR 3))) sNx)
  (sSeq (sSet 7 (eBin modD (eBin subD (eCall lenD (aCons (eR 5) aNil)) (eCall f_turn_by (aCons (eV 2) aNil))) (eCall lenD (aCons (eR 5) aNil))))
  (sSeq (sSet 8 (eCall f_words_below (aCons (eV 0) (aCons (eV 1) aNil))))
  (sSeq (sIf (eBin ltD (eR 7) (eBin subD (eCall lenD (aCons (eR 5) aNil)) (eCall f_tops_behind (aCons (eV 5) (aCons (eV 6) aNil))))) (sRet (eBin addD (eBin subD (eCall f_words_below (aCons (eV 4) (aCons (eV 1) aNil))) (eR 8)) (eR 7))) sNx)
  (sSeq (sSet 9 (eCall f_least_from (aCons (eV 0) (aCons (eV 1) (aCons (eSl (eR 2) (oSo (eBin subD (eCall lenD (aCons (eR 5) aNil)) (eR 7))) oNo) aNil)))))
  (sRet (eBin modD (eBin addD (eBin subD (eBin subD (eCall f_words_below (aCons (eV 9) (aCons (eV 1) aNil))) (eR 8)) (eCall lenD (aCons (eR 5) aNil))) (eR 7)) (eR 3)))))))))))))))
noncomputable def f_place_of : List D → R D := runB false 10 m_place_of
theorem place_of_such (f w : List Nat) (k : Nat) (h1 : 1 ≤ k) (h2 : k ≤ 6) (hg : goodW f k = true) (hN : Nk f) (hw : goodW w k = true) (hl : w.length = f.length) (hlt : lrot w < f) : f_place_of [.str f, .int k, .str w] = .ex 5 [] := by
  obtain ⟨g1, g2, g3⟩ := goodW_iff.mp hg
  have rs := ring_size_ok f k h1 h2 hg hN
  have lk := looked_all w k (by omega) (by omega) (by omega)
  rw [if_pos hw] at lk
  have hz : f.length ≤ SZ := le_sz (by omega)
  have hw0 : w ≠ [] := List.length_pos_iff.mp (by omega)
  have lt := least_turn_ok w hw0 (by omega)
  have c1 : ltS (lrot w) f = true := by simpa [ltS] using hlt
  simp [f_place_of, m_place_of, runB_s, List.replicate, rs, lk, hz, hl, lt, c1]
theorem place_of_ok (f w : List Nat) (k : Nat) (h1 : 1 ≤ k) (h2 : k ≤ 6) (hg : goodW f k = true) (hN : Nk f) (hw : goodW w k = true) (hl : w.length = f.length) (hge : ¬ lrot w < f) :
    ∃ P, P < (ringW k f.length f).length ∧ f_place_of [.str f, .int k, .str w] = .ok (.int (P : Nat)) ∧ cyc (ringW k f.length f) P f.length = w := by
  obtain ⟨g1, g2, g3⟩ := goodW_iff.mp hg
  obtain ⟨w1, w2, w3⟩ := goodW_iff.mp hw
  have hF := (good_iff_goodW.mp ⟨hg, hN⟩).2.2
  have R := lsL_rg h1 h2 g1 hF
  have rs := ring_size_ok f k h1 h2 hg hN
  have lk := looked_all w k (by omega) (by omega) (by omega)
  rw [if_pos hw] at lk
  have hz : f.length ≤ SZ := le_sz (by omega)
  have hw0 : w ≠ [] := List.length_pos_iff.mp (by omega)
  have lt := least_turn_ok w hw0 (by omega)
  have c1 : ltS (lrot w) f = false := by simpa [ltS] using hge
  have hwr : ∀ x ∈ w, 97 ≤ x ∧ x ≤ 96 + k := fun x hx => by have := w3 x hx; omega
  have hv := good_lrot hw0 hwr
  rw [hl] at hv
  have hv0 := lrot_nil hw0
  have rt := root_ok (lrot w) hv0 (by have := hv.1; omega)
  have hrl := root_len hv0
  have hs := rlen_spec hv0
  have hp := rlen_pos hv0
  rw [hv.1] at hs
  have hrz : (rootW (lrot w)).length ≤ SZ := le_sz (by omega)
  have hrz2 : rlen (lrot w) ≤ SZ := le_sz (by omega)
  have lts := letters_ok k (by omega) (by omega)
  have ng : negD (.int 1) = .ok (.int (-1)) := rfl
  have tb := turn_by_ok w hw0 (by omega)
  obtain ⟨i, hi, hie⟩ := List.mem_iff_getElem.mp ((mem_lsL (k := k) (n := f.length) (f := f) h1 h2).mpr ⟨hv, hge⟩)
  have e : (lsL k f.length f)[i]? = some (lrot w) := by rw [List.getElem?_eq_getElem hi, hie]
  have hN0 : 0 < (ringW k f.length f).length := by
    obtain ⟨P, hP, -⟩ := word_stands h1 h2 g1 hF hl hwr hge
    omega
  by_cases htop : lrot w = List.replicate f.length (96 + k)
  · -- all tops
    have hrt : rootW (lrot w) = [96 + k] := (root_top_iff hv g1).mpr htop
    have hwt : w = List.replicate f.length (96 + k) := by
      obtain ⟨m, hm, hwm⟩ := lrot_back hw0
      rw [htop, rot_top] at hwm
      exact hwm
    rw [hrt] at rt
    have md : modD (.int (((ringW k f.length f).length : Nat) - (f.length : Int))) (.int ((ringW k f.length f).length : Nat)) = .ok (.int ((((ringW k f.length f).length : Nat) - (f.length : Int)) % ((ringW k f.length f).length : Nat))) := modD_i _ _ (by omega)
    by_cases h3 : 2 ≤ (lsL k f.length f).length
    · obtain ⟨t1, t2⟩ := R.placeT h3
      have hr0 : ringW k f.length f = XL (lsL k f.length f) 0 := rfl
      rw [← hr0] at t1 t2
      refine ⟨(ringW k f.length f).length - f.length, by omega, ?_, by rw [t1, hwt.symm]⟩
      have he : ((((ringW k f.length f).length : Nat) - (f.length : Int)) % ((ringW k f.length f).length : Nat)) = (((ringW k f.length f).length - f.length : Nat) : Int) := by
        rw [Int.emod_eq_of_lt (by omega) (by omega)]
        omega
      rw [he] at md
      generalize ringW k f.length f = rg at *
      simp [f_place_of, m_place_of, runB_s, List.replicate, rs, lk, hz, hl, lt, c1, rt, lts, abc_last h1 h2, ng, md]
    · have hL1 : (lsL k f.length f).length = 1 := by omega
      have e0 := xl_cons e
      have hi0 : i = 0 := by omega
      subst hi0
      have hx : XL (lsL k f.length f) (0 + 1) = [] := by
        unfold XL
        rw [List.drop_of_length_le (by omega)]
        rfl
      rw [hx, List.append_nil, hrt] at e0
      have hr0 : ringW k f.length f = [96 + k] := e0
      rw [hr0] at rs md ⊢
      refine ⟨0, by simp, ?_, ?_⟩
      · have he : (((([96 + k] : List Nat).length : Nat) - (f.length : Int)) % ((([96 + k] : List Nat).length : Nat) : Int)) = 0 := by
          show ((1 : Int) - f.length) % 1 = 0
          exact Int.emod_one _
        rw [he] at md
        simp at md rs
        simp [f_place_of, m_place_of, runB_s, List.replicate, rs, lk, hz, hl, lt, c1, rt, lts, abc_last h1 h2, ng, md]
      · conv => lhs; rw [← hl]
        refine cyc_ext fun j hj => ?_
        rw [hwt, List.length_singleton, Nat.mod_one, List.getD_eq_getElem?_getD, List.getD_eq_getElem?_getD, List.getElem?_replicate, if_pos (by omega)]
        rfl
  · have hne : (rootW (lrot w) == [96 + k]) = false := by
      rw [beq_eq_false_iff_ne]
      exact fun z => htop ((root_top_iff hv g1).mp z)
    obtain ⟨j, hj⟩ := lastB_ex hv htop
    obtain ⟨hj2, hj3⟩ := root_lastB hv g1 hj
    have tops := tops_behind_ok (rootW (lrot w)) (96 + k) _ (by omega) hj2
    have hjn := hj.1
    rw [hv.1] at hjn
    obtain ⟨tf1, tf2⟩ := turn_facts hw0 _ rfl
    generalize (rots w).findIdx (· == lrot w) = tbn at *
    have ha : (rlen (lrot w) - tbn) % rlen (lrot w) < rlen (lrot w) := Nat.mod_lt _ hp
    have md1 : modD (.int ((rlen (lrot w) : Int) - tbn)) (.int (rlen (lrot w) : Nat)) = .ok (.int (((rlen (lrot w) - tbn) % rlen (lrot w) : Nat) : Int)) := by
      rw [modD_i _ _ (by omega)]
      congr 2
      rw [Int.natCast_emod, Int.natCast_sub (by omega)]
    generalize (rlen (lrot w) - tbn) % rlen (lrot w) = a at *
    have wb := words_below_ok f k h1 h2 hg
    have hvg : goodW (lrot w) k = true := goodW_iff.mpr ⟨by have := hv.1; omega, by have := hv.1; omega, fun x hx => by have := hv.2.2 x hx; omega⟩
    have wbv := words_below_ok (lrot w) k h1 h2 hvg
    have hpos := pos_up h1 h2 g1 hF i _ e
    have hcond : (a : Int) < (rlen (lrot w) : Int) - (((rootW (lrot w)).length - 1 - (j - (f.length - rlen (lrot w))) : Nat) : Int) ↔ f.length - rlen (lrot w) + a ≤ j := by
      rw [hrl]
      omega
    rw [hrl] at tops hcond
    by_cases hb : f.length - rlen (lrot w) + a ≤ j
    · obtain ⟨t1, t2⟩ := R.placeB e htop hj ha hb
      have hr0 : ringW k f.length f = XL (lsL k f.length f) 0 := rfl
      rw [← hr0] at t1 t2
      have hc2 := hcond.mpr hb
      refine ⟨_, t2, ?_, by rw [t1]; exact tf2.symm⟩
      generalize (rlen (lrot w) - 1 - (j - (f.length - rlen (lrot w)))) = TT at *
      simp [f_place_of, m_place_of, runB_s, List.replicate, rs, lk, hz, hl, lt, c1, rt, lts, abc_last h1 h2, ng, hne, hrz, hrz2, hrl, tb, md1, wb, tops, hc2, wbv]
      omega
    · have hc2 : ¬ _ := fun z => hb (hcond.mp z)
      obtain ⟨tt1, tt2, tt3⟩ := turn_tops hv g1 hj ha hb
      have htake : (lrot w).take (f.length - (rlen (lrot w) - a)) <+: lrot w := List.take_prefix _ _
      have htl : ((lrot w).take (f.length - (rlen (lrot w) - a))).length = f.length - (rlen (lrot w) - a) := by rw [List.length_take, hv.1]; omega
      obtain ⟨z, z1, z2, z3, z4, z5⟩ := least_from_ok f (lrot w) _ k h1 h2 hg hN hv hge htake (by rw [htl]; omega) (List.length_pos_iff.mp (by rw [htl]; omega))
      obtain ⟨i', hi', hie'⟩ := List.mem_iff_getElem.mp ((mem_lsL (k := k) (n := f.length) (f := f) h1 h2).mpr ⟨z2, z3⟩)
      have ez : (lsL k f.length f)[i']? = some z := by rw [List.getElem?_eq_getElem hi', hie']
      have hs' := lsL_sorted (n := f.length) (f := f) h1 h2
      obtain ⟨d1, d2, d3⟩ := R.placeD e htop hj ha hb ez z4 (fun i0 y hi0 hy hpy => by
        have hym := (mem_lsL h1 h2).mp (List.mem_of_getElem? hy)
        obtain ⟨hi0l, hye⟩ := List.getElem?_eq_some_iff.mp hy
        have := List.pairwise_iff_getElem.mp hs' i0 i' hi0l hi' hi0
        rw [hye, hie'] at this
        exact z5 y hym.1 hym.2 hpy this)
      have hr0 : ringW k f.length f = XL (lsL k f.length f) 0 := rfl
      rw [← hr0] at d1 d2 d3
      refine ⟨_, d2, ?_, by rw [d1]; exact tf2.symm⟩
      have hzg : goodW z k = true := goodW_iff.mpr ⟨by have := z2.1; omega, by have := z2.1; omega, fun x hx => by have := z2.2.2 x hx; omega⟩
      have wbz := words_below_ok z k h1 h2 hzg
      have hpz := pos_up h1 h2 g1 hF i' _ ez
      have hdrop : w.drop (rlen (lrot w) - a) = (lrot w).take (f.length - (rlen (lrot w) - a)) := by
        have key : ∀ (W A B : List Nat) (s : Nat), W = A ++ B → A.length = s → W.drop s = B := by
          rintro W A B s rfl rfl
          exact List.drop_left
        exact key w _ _ _ (tf2.trans tt1) (by simp)
      have hwz : w.length ≤ SZ := le_sz (by omega)
      have sl : slD (.str w) (some ((rlen (lrot w) : Int) - a)) none = .ok (.str ((lrot w).take (f.length - (rlen (lrot w) - a)))) := by
        rw [slD_s _ _ _ hwz, cutL_from _ _ (by omega), show ((rlen (lrot w) : Int) - a).toNat = rlen (lrot w) - a by omega, hdrop]
      have mdf : modD (.int ((((upW k z : Int) - (rlen z : Int)) - ((upW k f : Int) - (rlen f : Int))) - (rlen (lrot w) : Int) + a)) (.int ((ringW k f.length f).length : Nat)) = .ok (.int ((((YL (lsL k f.length f) i').length + (ringW k f.length f).length - (rlen (lrot w) - a)) % (ringW k f.length f).length : Nat) : Int)) := by
        rw [modD_i _ _ (by omega)]
        congr 2
        have h5 : (((upW k z : Int) - (rlen z : Int)) - ((upW k f : Int) - (rlen f : Int))) - (rlen (lrot w) : Int) + a = (((YL (lsL k f.length f) i').length + (ringW k f.length f).length - (rlen (lrot w) - a) : Nat) : Int) - ((ringW k f.length f).length : Nat) := by omega
        rw [h5, Int.natCast_emod, Int.sub_emod_right]
      generalize ((YL (lsL k f.length f) i').length + (ringW k f.length f).length - (rlen (lrot w) - a)) % (ringW k f.length f).length = PP at *
      generalize (rlen (lrot w) - 1 - (j - (f.length - rlen (lrot w)))) = TT at *
      generalize (lrot w).take (f.length - (rlen (lrot w) - a)) = tk at *
      generalize ringW k f.length f = rg at *
      simp [f_place_of, m_place_of, runB_s, List.replicate, rs, lk, hz, hl, lt, c1, rt, lts, abc_last h1 h2, ng, hne, hrz, hrz2, hrl, tb, md1, wb, tops, hc2, sl, z1, wbz, mdf]
theorem place_of_badk (f w : D) (k : Int) (h : ¬ (1 ≤ k ∧ k ≤ 6)) : f_place_of [f, .int k, w] = .ex 1 [] := by
  simp [f_place_of, m_place_of, runB_s, List.replicate, ring_size_badk f k h]
theorem place_of_bad (f : List Nat) (w : D) (k : Nat) (h1 : 1 ≤ k) (h2 : k ≤ 6) (hl : f.length ≤ 1000) (hg : goodW f k = false ∨ ¬ Nk f) : f_place_of [.str f, .int k, w] = .ex 2 [] := by
  simp [f_place_of, m_place_of, runB_s, List.replicate, ring_size_bad f k h1 h2 hl hg]
theorem place_of_badw (f w : List Nat) (k : Nat) (h1 : 1 ≤ k) (h2 : k ≤ 6) (hg : goodW f k = true) (hN : Nk f) (hl : w.length ≤ 1000) (hw : goodW w k = false) : f_place_of [.str f, .int k, .str w] = .ex 2 [] := by
  have rs := ring_size_ok f k h1 h2 hg hN
  have lk := looked_all w k (by omega) (by omega) (by omega)
  rw [hw, if_neg (by decide)] at lk
  simp [f_place_of, m_place_of, runB_s, List.replicate, rs, lk]
theorem place_of_badl (f w : List Nat) (k : Nat) (h1 : 1 ≤ k) (h2 : k ≤ 6) (hg : goodW f k = true) (hN : Nk f) (hw : goodW w k = true) (hl : w.length ≠ f.length) : f_place_of [.str f, .int k, .str w] = .ex 2 [] := by
  obtain ⟨g1, g2, g3⟩ := goodW_iff.mp hg
  obtain ⟨w1, w2, w3⟩ := goodW_iff.mp hw
  have rs := ring_size_ok f k h1 h2 hg hN
  have lk := looked_all w k (by omega) (by omega) (by omega)
  rw [if_pos hw] at lk
  have hz : f.length ≤ SZ := le_sz (by omega)
  have hz2 : w.length ≤ SZ := le_sz (by omega)
  have hl2 : ¬ ((w.length : Int) = f.length) := by omega
  simp [f_place_of, m_place_of, runB_s, List.replicate, rs, lk, hz, hz2, hl, hl2]

noncomputable def m_law_due : SS → RS :=
  (sSeq (sSet 1 (eC (.str [])))
  (sSeq (sTryM [(1, (sSet 1 (eC (.str [114, 101, 102, 117, 115, 101, 100, 32, 66, 97, 100, 75, 105, 110, 100, 115])))), (2, (sSet 1 (eC (.str [114, 101, 102, 117, 115, 101, 100, 32, 66, 97, 100, 87, 111, 114, 100])))), (3, (sSet 1 (eC (.str [114, 101, 102, 117, 115, 101, 100, 32, 84, 111, 111, 77, 97, 110, 121])))), (5, (sSet 1 (eC (.str [114, 101, 102, 117, 115, 101, 100, 32, 78, 111, 83, 117, 99, 104])))), (0, (sSet 1 (eC (.str [111, 116, 104, 101, 114]))))] (sIf (eBin eqD (eBin ixD (eR 0) (eC (.int 0))) (eC (.str [112, 105, 101, 99, 101]))) (sSet 1 (eCall f_piece_at (aCons (eBin ixD (eR 0) (eC (.int 1))) (aCons (eCall intY (aCons (eBin ixD (eR 0) (eC (.int 2))) aNil)) (aCons (eCall intY (aCons (eBin ixD (eR 0) (eC (.int 3))) aNil)) (aCons (eCall intY (aCons (eBin ixD (eR 0) (eC (.int 4))) aNil)) aNil)))))) (sSet 1 (eCall strD (aCons (eCall f_place_of (aCons (eBin ixD (eR 0) (eC (.int 1))) (aCons (eCall intY (aCons (eBin ixD (eR 0) (eC (.int 2))) aNil)) (aCons (eBin ixD (eR 0) (eC (.int 3))) aNil)))) aNil)))))
  (sRet (eV 1))))
noncomputable def f_law_due : List D → R D := runB false 2 m_law_due

noncomputable def m_far_told : SS → RS :=
  (sSeq (sIf (eBin eqD (eBin ixD (eR 0) (eC (.int 0))) (eC (.str [112, 105, 101, 99, 101]))) (sRet (eCall f_piece_at (aCons (eBin ixD (eR 0) (eC (.int 1))) (aCons (eCall intY (aCons (eBin ixD (eR 0) (eC (.int 2))) aNil)) (aCons (eCall intY (aCons (eBin ixD (eR 0) (eC (.int 3))) aNil)) (aCons (eCall intY (aCons (eBin ixD (eR 0) (eC (.int 4))) aNil)) aNil)))))) sNx)
  (sRet (eCall strD (aCons (eCall f_place_of (aCons (eBin ixD (eR 0) (eC (.int 1))) (aCons (eCall intY (aCons (eBin ixD (eR 0) (eC (.int 2))) aNil)) (aCons (eBin ixD (eR 0) (eC (.int 3))) aNil)))) aNil))))
noncomputable def f_far_told : List D → R D := runB false 1 m_far_told

noncomputable def m_refused_name : SS → RS :=
  (sSeq (sIf (eUn (isxD 2) (eR 0)) (sRet (eC (.str [66, 97, 100, 87, 111, 114, 100]))) sNx)
  (sSeq (sIf (eUn (isxD 3) (eR 0)) (sRet (eC (.str [84, 111, 111, 77, 97, 110, 121]))) sNx)
  (sSeq (sIf (eUn (isxD 5) (eR 0)) (sRet (eC (.str [78, 111, 83, 117, 99, 104]))) sNx)
  (sRet (eC (.str [66, 97, 100, 75, 105, 110, 100, 115]))))))
noncomputable def f_refused_name : List D → R D := runB false 1 m_refused_name

noncomputable def m_far_answer : SS → RS :=
  (sTry 1 0 (sRet (eCall f_far_told (aCons (eV 0) aNil))) (sRet (eBin addD (eC (.str [114, 101, 102, 117, 115, 101, 100, 32])) (eCall f_refused_name (aCons (eV 1) aNil)))))
noncomputable def f_far_answer : List D → R D := runB false 2 m_far_answer

noncomputable def m_answered : SS → RS :=
  (sSeq (sIf (eOr (eBin eqD (eBin ixD (eR 1) (eC (.int 0))) (eC (.str [112, 105, 101, 99, 101]))) (eBin eqD (eBin ixD (eR 1) (eC (.int 0))) (eC (.str [112, 108, 97, 99, 101])))) (sRet (eCall f_far_answer (aCons (eV 1) aNil))) sNx)
  (sSeq sBad
  (sSeq sBad
  (sSeq sBad
  (sSeq sBad
  (sSeq sBad
  sBad))))))
noncomputable def f_answered : List D → R D := runB false 2 m_answered

noncomputable def m_is_number : SS → RS :=
  (sSeq (sIf (eOr (eBin ltD (eCall lenD (aCons (eR 0) aNil)) (eC (.int 1))) (eBin gtD (eCall lenD (aCons (eR 0) aNil)) (eC (.int 60)))) (sRet (eC (.bl false))) sNx)
  (sSeq (sFor (iE (eV 0)) (gN 1) (sIf (eBin (inD true) (eR 1) (eC (.str [48, 49, 50, 51, 52, 53, 54, 55, 56, 57]))) (sRet (eC (.bl false))) sNx))
  (sRet (eOr (eBin eqD (eR 0) (eC (.str [48]))) (eBin neD (eBin ixD (eR 0) (eC (.int 0))) (eC (.str [48])))))))
noncomputable def f_is_number : List D → R D := runB false 2 m_is_number

noncomputable def m_is_text : SS → RS :=
  (sSeq (sIf (eOr (eBin ltD (eCall lenD (aCons (eR 0) aNil)) (eC (.int 1))) (eBin gtD (eCall lenD (aCons (eR 0) aNil)) (eC (.int 200)))) (sRet (eC (.bl false))) sNx)
  (sSeq (sFor (iE (eV 0)) (gN 1) (sIf (eBin (inD true) (eR 1) (eC (.str [97, 98, 99, 100, 101, 102]))) (sRet (eC (.bl false))) sNx))
  (sRet (eC (.bl true)))))
noncomputable def f_is_text : List D → R D := runB false 2 m_is_text

noncomputable def m_are_of : SS → RS :=
  (sSeq (sIf (eBin neD (eCall lenD (aCons (eR 0) aNil)) (eCall lenD (aCons (eR 1) aNil))) (sRet (eC (.bl false))) sNx)
  (sSeq (sFor (i_zip (aCons (eV 0) (aCons (eV 1) aNil))) (gT [(gN 2), (gN 3)]) (sIf (eOr (eAnd (eBin eqD (eR 3) (eC (.str [110]))) (eNot (eCall f_is_number (aCons (eV 2) aNil)))) (eAnd (eBin eqD (eR 3) (eC (.str [116]))) (eNot (eCall f_is_text (aCons (eV 2) aNil))))) (sRet (eC (.bl false))) sNx))
  (sRet (eC (.bl true)))))
noncomputable def f_are_of : List D → R D := runB false 4 m_are_of

noncomputable def m_is_ask : SS → RS :=
  (sSeq (sSet 1 (eSl (eR 0) (oSo (eC (.int 1))) oNo))
  (sSeq (sIf (eOr (eBin eqD (eBin ixD (eR 0) (eC (.int 0))) (eC (.str [114, 105, 110, 103]))) (eBin eqD (eBin ixD (eR 0) (eC (.int 0))) (eC (.str [114, 111, 119])))) (sRet (eOr (eBin eqD (eCall lenD (aCons (eR 1) aNil)) (eC (.int 0))) (eCall f_are_of (aCons (eV 1) (aCons (eC (.str [110])) aNil))))) sNx)
  (sRet (eAnd (eUn (inTD [([114, 105, 110, 103, 115], []), ([114, 111, 119, 115], []), ([110, 117, 109, 98, 101, 114], [116]), ([108, 101, 97, 100], [116, 116]), ([112, 105, 101, 99, 101], [116, 110, 110, 110]), ([112, 108, 97, 99, 101], [116, 110, 116])]) (eBin ixD (eR 0) (eC (.int 0)))) (eCall f_are_of (aCons (eV 1) (aCons (eUn (ixTD [([114, 105, 110, 103, 115], []), ([114, 111, 119, 115], []), ([110, 117, 109, 98, 101, 114], [116]), ([108, 101, 97, 100], [116, 116]), ([112, 105, 101, 99, 101], [116, 110, 110, 110]), ([112, 108, 97, 99, 101], [116, 110, 116])]) (eBin ixD (eR 0) (eC (.int 0)))) aNil)))))))
noncomputable def f_is_ask : List D → R D := runB false 2 m_is_ask

noncomputable def m_row_kind : SS → RS :=
  (sSeq (sSet 1 (eSl (eR 0) (oSo (eC (.int 1))) oNo))
  (sSeq (sIf (eAnd (eBin eqD (eBin ixD (eR 0) (eC (.int 0))) (eC (.str [97, 108, 108]))) (eCall f_are_of (aCons (eV 1) (aCons (eC (.str [110, 110])) aNil)))) (sRet (eC (.str [97, 108, 108]))) sNx)
  (sSeq (sIf (eAnd (eBin eqD (eBin ixD (eR 0) (eC (.int 0))) (eC (.str [119, 111, 114, 100, 115]))) (eAnd (eBin gtD (eCall lenD (aCons (eR 1) aNil)) (eC (.int 0))) (eCall f_are_of (aCons (eV 1) (aCons (eBin mulD (eC (.str [116])) (eCall lenD (aCons (eR 1) aNil))) aNil))))) (sRet (eC (.str [119, 111, 114, 100, 115]))) sNx)
  (sSeq (sIf (eAnd (eBin eqD (eBin ixD (eR 0) (eC (.int 0))) (eC (.str [98, 97, 114]))) (eCall f_are_of (aCons (eV 1) (aCons (eC (.str [116])) aNil)))) (sRet (eC (.str [98, 97, 114]))) sNx)
  (sSeq (sIf (eCall f_is_ask (aCons (eV 0) aNil)) (sRet (eC (.str [97, 115, 107]))) sNx)
  (sRet (eC (.str []))))))))
noncomputable def f_row_kind : List D → R D := runB false 2 m_row_kind

noncomputable def m_may_follow : SS → RS :=
  (sSeq (sIf (eBin eqD (eR 1) (eC (.str []))) (sRet (eOr (eBin eqD (eR 0) (eC (.str [97, 108, 108]))) (eBin eqD (eR 0) (eC (.str [119, 111, 114, 100, 115]))))) sNx)
  (sSeq (sIf (eBin eqD (eR 0) (eC (.str [97, 108, 108]))) (sRet (eC (.bl false))) sNx)
  (sSeq (sIf (eBin eqD (eR 0) (eC (.str [119, 111, 114, 100, 115]))) (sRet (eBin eqD (eR 1) (eC (.str [119, 111, 114, 100, 115])))) sNx)
  (sSeq (sIf (eBin eqD (eR 0) (eC (.str [98, 97, 114]))) (sRet (eBin neD (eR 1) (eC (.str [97, 115, 107])))) sNx)
  (sRet (eBin eqD (eR 0) (eC (.str [97, 115, 107]))))))))
noncomputable def f_may_follow : List D → R D := runB false 2 m_may_follow

noncomputable def m_rows_read : SS → RS :=
  (sSeq (sSetO 1 (eLst aNil))
  (sSeq (sSet 2 (eC (.str [])))
  (sSeq (sFor (i_enumerate (aCons (eUn (splitD 10) (eR 0)) aNil)) (gT [(gN 3), (gN 4)]) (sSeq (sSet 5 (eUn (splitD 32) (eR 4)))
  (sSeq (sSet 6 (eCall f_row_kind (aCons (eV 5) aNil)))
  (sSeq (sIf (eNot (eCall f_may_follow (aCons (eV 6) (aCons (eV 2) aNil)))) (sRaiseF 9 (eBin addD (eR 3) (eC (.int 1)))) sNx)
  (sSeq (sApp 1 (eTup (aCons (eV 6) (aCons (eSl (eR 5) (oSo (eC (.int 1))) oNo) (aCons (eV 5) aNil)))))
  (sSet 2 (eV 6)))))))
  (sFrz 1 (sRet (eV 1))))))
noncomputable def f_rows_read : List D → R D := runB false 7 m_rows_read

noncomputable def m_count_of : SS → RS :=
  (sSeq (sX (eCall f_letters (aCons (eV 1) aNil)))
  (sSeq (sIf (eOr (eBin ltD (eR 0) (eC (.int 1))) (eBin gtD (eR 0) (eC (.int 24)))) (sRaise 2) sNx)
  (sSeq (sSet 2 (eC (.int 1)))
  (sSeq (sFor (iRg1 (aCons (eR 0) aNil)) (gN 3) (sSet 2 (eBin mulD (eR 2) (eR 1))))
  (sRet (eV 2))))))
noncomputable def f_count_of : List D → R D := runB false 4 m_count_of
noncomputable def m_word_of : SS → RS :=
  (sSeq (sSet 3 (eCall f_count_of (aCons (eV 1) (aCons (eV 2) aNil))))
  (sSeq (sIf (eOr (eBin ltD (eR 0) (eC (.int 0))) (eBin geD (eR 0) (eR 3))) (sRaise 5) sNx)
  (sSeq (sSetO 4 (eLst aNil))
  (sSeq (sFor (iRg1 (aCons (eR 1) aNil)) (gN 5) (sSeq (sApp 4 (eBin ixD (eC (.str [97, 98, 99, 100, 101, 102])) (eBin modD (eR 0) (eR 2))))
  (sSet 0 (eBin fdivD (eR 0) (eR 2)))))
  (sRet (eM "str" joinRevM2 (eC (.str [])) (aCons (eR 4) aNil)))))))
noncomputable def f_word_of : List D → R D := runB false 6 m_word_of
noncomputable def m_all_words : SS → RS :=
  (sSeq (sSet 2 (eCall f_count_of (aCons (eV 0) (aCons (eV 1) aNil))))
  (sSeq (sIf (eBin gtD (eR 2) (eC (.int 4096))) (sRaise 3) sNx)
  (sRetF (eComp (iRg1 (aCons (eR 2) aNil)) (gN 3) [3] cYes (eCall f_word_of (aCons (eV 3) (aCons (eV 0) (aCons (eV 1) aNil))))))))
noncomputable def f_all_words : List D → R D := runB true 4 m_all_words
noncomputable def m_all_told : SS → RS :=
  (sSeq (sX (eCall f_letters (aCons (eV 1) aNil)))
  (sSeq (sIf (eOr (eBin ltD (eR 0) (eC (.int 1))) (eBin gtD (eR 0) (eC (.int 8)))) (sRaise 2) sNx)
  (sSeq (sIf (eBin gtD (eCall f_word_count (aCons (eV 0) (aCons (eV 1) aNil))) (eC (.int 64))) (sRaise 3) sNx)
  (sRet (eCall f_all_words (aCons (eV 0) (aCons (eV 1) aNil)))))))
noncomputable def f_all_told : List D → R D := runB false 2 m_all_told

noncomputable def m_read_page : SS → RS :=
  (sSeq (sSet 1 (eCall f_rows_read (aCons (eV 0) aNil)))
  (sSeq (sSet 2 (eLst aNil))
  (sSeq (sSetO 3 (eLst aNil))
  (sSeq (sFor (iE (eV 1)) (gT [(gN 4), (gN 5), (gN 6)]) (sIf (eBin eqD (eR 4) (eC (.str [97, 108, 108]))) (sSet 2 (eCall f_all_told (aCons (eCall intY (aCons (eBin ixD (eR 5) (eC (.int 0))) aNil)) (aCons (eCall intY (aCons (eBin ixD (eR 5) (eC (.int 1))) aNil)) aNil)))) (sIf (eBin eqD (eR 4) (eC (.str [119, 111, 114, 100, 115]))) (sSet 2 (eBin addD (eR 2) (eR 5))) (sIf (eBin eqD (eR 4) (eC (.str [98, 97, 114]))) (sSet 2 (eComp (iE (eV 2)) (gN 7) [7] (eBin (inD true) (eBin ixD (eR 5) (eC (.int 0))) (eR 7)) (eV 7))) (sApp 3 (eCall tupleD (aCons (eR 6) aNil)))))))
  (sFrz 3 (sRet (eTup (aCons (eMk 2 f_Web (aCons (eV 2) aNil)) (aCons (eV 3) aNil)))))))))
noncomputable def f_read_page : List D → R D := runB false 8 m_read_page

noncomputable def m_answers : SS → RS :=
  (sSeq (sAsg (gT [(gN 1), (gN 2)]) (eCall f_read_page (aCons (eV 0) aNil)))
  (sRet (eComp (iE (eV 2)) (gN 3) [3] cYes (eCall f_answered (aCons (eV 1) (aCons (eV 3) aNil))))))
noncomputable def f_answers : List D → R D := runB false 4 m_answers

noncomputable def m_law : SS → RS :=
  (sSeq (sSet 1 (eMk 2 f_Web (aCons (eLst (aCons (eC (.str [97, 98])) (aCons (eC (.str [98, 97])) aNil))) aNil)))
  (sSeq (sSet 2 (eBin addD (eComp (iE (eSl (eR 0) oNo (oSo (eC (.int 5))))) (gN 7) [7] cYes (eCall f_law_ask (aCons (eV 7) (aCons (eC (.bl false)) aNil)))) (eLst (aCons (eCall f_law_ask (aCons (eCall sumD (aCons (eR 0) aNil)) (aCons (eC (.bl true)) aNil))) aNil))))
  (sSeq (sSet 3 (eComp (iE (eV 2)) (gN 4) [4] cYes (eCall f_law_due (aCons (eV 4) aNil))))
  (sSeq (sFor (i_zip (aCons (eV 2) (aCons (eV 3) aNil))) (gT [(gN 4), (gN 5)]) (sSeq (sSet 6 (eCall f_answered (aCons (eV 1) (aCons (eV 4) aNil))))
  (sIf (eOr (eNot (eUn (isiD "str") (eR 6))) (eBin neD (eR 6) (eR 5))) (sRet (eC (.bl false))) sNx)))
  (sRet (eBin eqD (eCall f_answers (aCons (eM "str" joinM (eC (.str [10])) (aCons (eBin addD (eLst (aCons (eC (.str [119, 111, 114, 100, 115, 32, 97, 98])) (aCons (eC (.str [119, 111, 114, 100, 115, 32, 98, 97])) aNil))) (eComp (iE (eV 2)) (gN 4) [4] cYes (eM "str" joinT (eC (.str [32])) (aCons (eR 4) aNil)))) aNil)) aNil)) (eR 3)))))))
noncomputable def f_law : List D → R D := runB false 8 m_law
theorem all_q {α : Type} {c : α → D} {p : α → Bool} {I : SS → Prop} {step : D → SS → RS} {Q : RS → Prop} : ∀ {xs : List α} {s : SS}, I s →
    (∀ a ∈ xs, ∀ s, I s → (p a = true → ∃ s', step (c a) s = .nx s' ∧ I s') ∧ (p a = false → step (c a) s = .rt false (.bl false))) →
    (xs.all p = true → ∀ s', I s' → Q (.nx s')) → (xs.all p = false → Q (.rt false (.bl false))) → Q (forL step (xs.map c) s)
  | [], s, h0, _, ht, _ => ht rfl s h0
  | a :: xs, s, h0, hs, ht, hf => by
    obtain ⟨h1, h2⟩ := hs a (List.mem_cons_self ..) s h0
    rw [List.map_cons]
    cases q : p a with
    | true =>
      obtain ⟨s', e, hi⟩ := h1 q
      rw [forL_step e]
      exact all_q hi (fun b hb => hs b (List.mem_cons_of_mem _ hb)) (fun h => ht (by rw [List.all_cons, q, h]; rfl)) (fun h => hf (by rw [List.all_cons, q, h]; rfl))
    | false =>
      have e := h2 q
      unfold forL
      rw [e]
      exact hf (by rw [List.all_cons, q]; rfl)
def digB (c : Nat) : Bool := decide (48 ≤ c ∧ c ≤ 57)
def abcB (c : Nat) : Bool := decide (97 ≤ c ∧ c ≤ 102)
def numB (w : List Nat) : Bool := decide (1 ≤ w.length ∧ w.length ≤ 60) && (w.all digB && (decide (w = [48]) || decide (w.headD 0 ≠ 48)))
def txtB (w : List Nat) : Bool := decide (1 ≤ w.length ∧ w.length ≤ 200) && w.all abcB
theorem digB_mem (c : Nat) : decide (c ∈ ([48, 49, 50, 51, 52, 53, 54, 55, 56, 57] : List Nat)) = digB c := by
  unfold digB
  rw [decide_eq_decide]
  simp
  omega
theorem abcB_mem (c : Nat) : decide (c ∈ ([97, 98, 99, 100, 101, 102] : List Nat)) = abcB c := by
  unfold abcB
  rw [decide_eq_decide]
  simp
  omega
theorem inDt (c : Nat) (y : List Nat) : inD true (.str [c]) (.str y) = .ok (.bl (!decide (c ∈ y))) := by
  have : inD true (.str [c]) (.str y) = .ok (.bl (!inS [c] y)) := by simp
  rw [this, inS_one]
theorem ixD_s0 {c : Nat} {r : List Nat} (h : (c :: r).length ≤ SZ) : ixD (.str (c :: r)) (.int 0) = .ok (.str [c]) := by
  unfold ixD
  have e : atI (c :: r) 0 = some c := by rw [atI_int _ _ (by omega)]; rfl
  simp only [e, if_pos h]
theorem is_number_ok (w : List Nat) (hw : w.length ≤ 1000000) : f_is_number [.str w] = .ok (.bl (numB w)) := by
  have hz : w.length ≤ SZ := le_sz (by omega)
  by_cases e : w.length < 1 ∨ 60 < w.length
  · have hs : numB w = false := by unfold numB; simp; intro h; omega
    rw [hs]
    rcases e with e | e
    · have e' : (w.length : Int) < 1 := by omega
      have e0 : w = [] := List.length_eq_zero_iff.mp (by omega)
      subst e0
      simp [f_is_number, m_is_number, runB_s, List.replicate]
    · have e' : (60 : Int) < w.length := by omega
      have e1 : ¬ (w.length : Int) < 1 := by omega
      simp [f_is_number, m_is_number, runB_s, List.replicate, hz, e', e1]
  · have e1 : ¬ (w.length : Int) < 1 := by omega
    have e2 : ¬ (60 : Int) < w.length := by omega
    have e3 : decide (1 ≤ w.length ∧ w.length ≤ 60) = true := by simp; omega
    obtain ⟨c, r, rfl⟩ : ∃ c r, w = c :: r := by cases w with | nil => simp at e | cons c r => exact ⟨c, r, rfl⟩
    have x0 := ixD_s0 (c := c) (r := r) hz
    generalize hw0 : c :: r = w at *
    have hd : w.headD 0 = c := by rw [← hw0]; rfl
    simp [f_is_number, m_is_number, runB_s, List.replicate, hz, e1, e2, x0]
    refine all_q (p := digB) (I := fun s => ∃ a : Sl, s = [.sh (.str w), a] ∧ canS (some a) = true) (Q := fun r => fin false (bnd r _) = .ok (.bl (numB w))) ⟨_, rfl, rfl⟩ ?_ ?_ ?_
    · rintro d hd s ⟨a, rfl, ha⟩
      have := inDt d [48, 49, 50, 51, 52, 53, 54, 55, 56, 57]
      rw [digB_mem] at this
      cases q : digB d <;> rw [q] at this <;> simp [turn_s, ha, this, -inD_st]
    · rintro hall s ⟨a, rfl, ha⟩
      have e4 : numB w = ((w == [48]) || !(([c] : List Nat) == [48])) := by
        unfold numB
        rw [e3, hall, hd]
        rw [Bool.eq_iff_iff]
        simp
      rw [e4]
      cases q : (w == [48]) <;> simp [x0, q]
    · intro hall
      have e4 : numB w = false := by unfold numB; rw [hall]; simp
      rw [e4]
      rfl
theorem is_text_ok (w : List Nat) (hw : w.length ≤ 1000000) : f_is_text [.str w] = .ok (.bl (txtB w)) := by
  have hz : w.length ≤ SZ := le_sz (by omega)
  by_cases e : w.length < 1 ∨ 200 < w.length
  · have hs : txtB w = false := by unfold txtB; simp; intro h; omega
    rw [hs]
    rcases e with e | e
    · have e' : (w.length : Int) < 1 := by omega
      have e0 : w = [] := List.length_eq_zero_iff.mp (by omega)
      subst e0
      simp [f_is_text, m_is_text, runB_s, List.replicate]
    · have e' : (200 : Int) < w.length := by omega
      have e1 : ¬ (w.length : Int) < 1 := by omega
      simp [f_is_text, m_is_text, runB_s, List.replicate, hz, e', e1]
  · have e1 : ¬ (w.length : Int) < 1 := by omega
    have e2 : ¬ (200 : Int) < w.length := by omega
    have e3 : decide (1 ≤ w.length ∧ w.length ≤ 200) = true := by simp; omega
    have e4 : txtB w = w.all abcB := by unfold txtB; rw [e3]; rfl
    rw [e4]
    simp [f_is_text, m_is_text, runB_s, List.replicate, hz, e1, e2]
    refine all_q (p := abcB) (I := fun s => ∃ a : Sl, s = [.sh (.str w), a] ∧ canS (some a) = true) (Q := fun r => fin false (bnd r _) = .ok (.bl (w.all abcB))) ⟨_, rfl, rfl⟩ ?_ ?_ ?_
    · rintro d hd s ⟨a, rfl, ha⟩
      have := inDt d [97, 98, 99, 100, 101, 102]
      rw [abcB_mem] at this
      cases q : abcB d <;> rw [q] at this <;> simp [turn_s, ha, this, -inD_st]
    · rintro hall s ⟨a, rfl, ha⟩
      rw [hall]
      simp
    · intro hall
      rw [hall]
      rfl
def okB (p : List Nat × Nat) : Bool := !((p.2 == 110 && !numB p.1) || (p.2 == 116 && !txtB p.1))
def fitsB (ws : List (List Nat)) (form : List Nat) : Bool := decide (ws.length = form.length) && (ws.zip form).all okB
theorem zip_pr : ∀ (ws : List (List Nat)) (form : List Nat), zipW (ws.map .str) (form.map fun c => .str [c]) = (ws.zip form).map fun p => .tup [.str p.1, .str [p.2]]
  | [], _ => by simp [zipW]
  | _ :: _, [] => by simp [zipW]
  | w :: ws, c :: form => by
    have ih := zip_pr ws form
    unfold zipW at ih ⊢
    simp at ih ⊢
    exact ih
theorem fits_loop {step : D → SS → RS} {ws : List (List Nat)} {form : List Nat} {g h : Sl} (hl : decide (ws.length = form.length) = true)
    (hs : ∀ p ∈ ws.zip form, ∀ a b : Sl, canS (some a) = true ∧ canS (some b) = true → step (.tup [.str p.1, .str [p.2]]) [g, h, a, b] = if okB p = true then .nx [g, h, .sh (.str p.1), .sh (.str [p.2])] else .rt false (.bl false)) :
    fin false (bnd (forL step (zipW (ws.map .str) (form.map fun c => .str [c])) [g, h, .no, .no]) (sRet (eC (.bl true)))) = .ok (.bl (fitsB ws form)) := by
  unfold fitsB
  rw [hl, Bool.true_and, zip_pr]
  refine all_q (p := okB) (I := fun s => ∃ (a b : Sl), s = [g, h, a, b] ∧ canS (some a) = true ∧ canS (some b) = true) (Q := fun r => fin false (bnd r _) = .ok (.bl ((ws.zip form).all okB))) ⟨_, _, rfl, rfl, rfl⟩ ?_ ?_ ?_
  · rintro p hp s ⟨a, b, rfl, ha, hb⟩
    have := hs p hp a b ⟨ha, hb⟩
    refine ⟨fun q => ⟨_, by rw [this, if_pos q], _, _, rfl, rfl, rfl⟩, fun q => by rw [this, if_neg (by rw [q]; simp)]⟩
  · rintro hall s ⟨a, b, rfl, ha, hb⟩
    rw [hall]
    simp
  · intro hall
    rw [hall]
    rfl
theorem are_of_ok (ws : List (List Nat)) (form : List Nat) (hw : ∀ w ∈ ws, w.length ≤ 1000000) (hf : form.length ≤ 1000000) : f_are_of [.lst (ws.map .str), .str form] = .ok (.bl (fitsB ws form)) := by
  have hz : form.length ≤ SZ := le_sz (by omega)
  cases e : decide (ws.length = form.length) with
  | false =>
    have e1 : ((ws.length : Int) == (form.length : Int)) = false := by simp at e ⊢; omega
    have e2 : fitsB ws form = false := by unfold fitsB; rw [e]; rfl
    simp [f_are_of, m_are_of, runB_s, List.replicate, hz, e1, e2]
  | true =>
    have e1 : ((ws.length : Int) == (form.length : Int)) = true := by simp at e ⊢; omega
    simp [f_are_of, m_are_of, runB_s, List.replicate, hz, e1]
    refine fits_loop e ?_
    rintro ⟨w, k⟩ hp a b ⟨ha, hb⟩
    have hwm := hw w (List.of_mem_zip hp).1
    have n1 := is_number_ok w hwm
    have t1 := is_text_ok w hwm
    unfold okB
    have b1 : (([k] : List Nat) == [110]) = (k == 110) := by rw [Bool.eq_iff_iff]; simp
    have b2 : (([k] : List Nat) == [116]) = (k == 116) := by rw [Bool.eq_iff_iff]; simp
    cases q1 : (k == 110) <;> cases q2 : (k == 116) <;> cases q3 : numB w <;> cases q4 : txtB w <;> simp [turn_s, ha, hb, n1, t1, b1, b2, q1, q2, q3, q4, gT, gN, setS_s]
abbrev sAll : List Nat := [97, 108, 108]
abbrev sWords : List Nat := [119, 111, 114, 100, 115]
abbrev sBar : List Nat := [98, 97, 114]
abbrev sRing : List Nat := [114, 105, 110, 103]
abbrev sRow : List Nat := [114, 111, 119]
abbrev sAsk : List Nat := [97, 115, 107]
def frm (n : Nat) : List (List Nat × List (List Nat)) := [(sAll, [[110, 110]]), (sWords, [repS [116] (max 1 n)]), (sBar, [[116]]), (sRing, [[], [110]]), (sRow, [[], [110]]), ([114, 105, 110, 103, 115], [[]]), ([114, 111, 119, 115], [[]]), ([110, 117, 109, 98, 101, 114], [[116]]), ([108, 101, 97, 100], [[116, 116]]), ([112, 105, 101, 99, 101], [[116, 110, 110, 110]]), ([112, 108, 97, 99, 101], [[116, 110, 116]])]
def frmOf (n : Nat) (w : List Nat) : List (List Nat) := (((frm n).find? fun p => decide (p.1 = w)).map (·.2)).getD []
def codeOf (w : List Nat) : Nat := if w = sAll then 0 else if w = sWords then 1 else if w = sBar then 2 else 3
def kindW (w : List Nat) (r : List (List Nat)) : Nat := if (frmOf r.length w).any (fitsB r) = true then codeOf w else 9
def nameK : Nat → List Nat
  | 0 => sAll
  | 1 => sWords
  | 2 => sBar
  | 3 => sAsk
  | _ => []
theorem kindW_all (r : List (List Nat)) : kindW sAll r = if fitsB r [110, 110] = true then 0 else 9 := by
  unfold kindW
  have e : frmOf r.length sAll = [[110, 110]] := rfl
  rw [e]
  simp [codeOf]
theorem kindW_words (r : List (List Nat)) : kindW sWords r = if fitsB r (repS [116] (max 1 r.length)) = true then 1 else 9 := by
  unfold kindW
  have e : frmOf r.length sWords = [repS [116] (max 1 r.length)] := rfl
  rw [e]
  simp [codeOf]
theorem kindW_bar (r : List (List Nat)) : kindW sBar r = if fitsB r [116] = true then 2 else 9 := by
  unfold kindW
  have e : frmOf r.length sBar = [[116]] := rfl
  rw [e]
  simp [codeOf]
theorem kindW_ring {w : List Nat} (hw : w = sRing ∨ w = sRow) (r : List (List Nat)) : kindW w r = if fitsB r [] = true ∨ fitsB r [110] = true then 3 else 9 := by
  unfold kindW
  have e : frmOf r.length w = [[], [110]] := by rcases hw with rfl | rfl <;> rfl
  have c : codeOf w = 3 := by rcases hw with rfl | rfl <;> rfl
  rw [e, c]
  simp
def fT : List (List Nat × List Nat) := [([114, 105, 110, 103, 115], []), ([114, 111, 119, 115], []), ([110, 117, 109, 98, 101, 114], [116]), ([108, 101, 97, 100], [116, 116]), ([112, 105, 101, 99, 101], [116, 110, 110, 110]), ([112, 108, 97, 99, 101], [116, 110, 116])]
theorem look_find : ∀ (l : List (List Nat × List Nat)) (w : List Nat), (((l.map fun p => (p.1, [p.2])).find? fun p => decide (p.1 = w)).map (·.2)).getD [] = match lookT l w with
    | some f => [f]
    | none => []
  | [], _ => rfl
  | p :: l, w => by
    have ih := look_find l w
    unfold lookT
    rw [List.map_cons]
    by_cases h : p.1 = w
    · rw [List.find?_cons_of_pos (by simp [h]), if_pos h]
      rfl
    · rw [List.find?_cons_of_neg (by simp [h]), if_neg h]
      exact ih
theorem kindW_other {w : List Nat} (h1 : w ≠ sAll) (h2 : w ≠ sWords) (h3 : w ≠ sBar) (h4 : w ≠ sRing) (h5 : w ≠ sRow) (r : List (List Nat)) : kindW w r = match lookT fT w with
    | some f => if fitsB r f = true then 3 else 9
    | none => 9 := by
  unfold kindW
  have e : frmOf r.length w = match lookT fT w with
    | some f => [f]
    | none => [] := by
    rw [← look_find]
    unfold frmOf frm
    rw [List.find?_cons_of_neg (by simpa using h1.symm), List.find?_cons_of_neg (by simpa using h2.symm), List.find?_cons_of_neg (by simpa using h3.symm), List.find?_cons_of_neg (by simpa using h4.symm), List.find?_cons_of_neg (by simpa using h5.symm)]
    rfl
  have c : codeOf w = 3 := by unfold codeOf; rw [if_neg h1, if_neg h2, if_neg h3]
  rw [e, c]
  cases lookT fT w <;> simp
def askB (w : List Nat) (r : List (List Nat)) : Bool := if w = sRing ∨ w = sRow then (fitsB r [] || fitsB r [110]) else match lookT fT w with
  | some f => fitsB r f
  | none => false
theorem fits_nil (r : List (List Nat)) : fitsB r [] = decide (r.length = 0) := by
  unfold fitsB
  simp
theorem lookT_ok {w f : List Nat} (h : lookT fT w = some f) : f.length ≤ 4 ∧ okS f = true := by
  have key : ∀ (l : List (List Nat × List Nat)), (∀ p ∈ l, p.2.length ≤ 4 ∧ okS p.2 = true) → lookT l w = some f → f.length ≤ 4 ∧ okS f = true := by
    intro l
    induction l with
    | nil => intro _ h; cases h
    | cons p l ih =>
      intro hp h
      unfold lookT at h
      by_cases q : p.1 = w
      · rw [if_pos q] at h
        cases h
        exact hp p (List.mem_cons_self ..)
      · rw [if_neg q] at h
        exact ih (fun q hq => hp q (List.mem_cons_of_mem _ hq)) h
  exact key fT (by decide) h
theorem inTD_s (tbl : List (List Nat × List Nat)) (z : List Nat) : inTD tbl (.str z) = .ok (.bl (lookT tbl z).isSome) := rfl
theorem ixTD_s {tbl : List (List Nat × List Nat)} {z f : List Nat} (h : lookT tbl z = some f) (hf : okS f = true) : ixTD tbl (.str z) = .ok (.str f) := by
  unfold ixTD
  dsimp only
  rw [h]
  exact if_pos hf
theorem is_ask_ok (w : List Nat) (r : List (List Nat)) (hw : ∀ x ∈ w :: r, x.length ≤ 1000000) : f_is_ask [.lst ((w :: r).map .str)] = .ok (.bl (askB w r)) := by
  have hr : ∀ x ∈ r, x.length ≤ 1000000 := fun x hx => hw x (List.mem_cons_of_mem _ hx)
  have ao := fun (f : List Nat) (hf : f.length ≤ 1000000) => are_of_ok r f hr hf
  have cl : cutL (.str w :: r.map .str) (some 1) none = r.map D.str := cutL_1 _
  have a1 := ao [110] (by simp)
  unfold askB
  by_cases c : w = sRing ∨ w = sRow
  · rw [if_pos c, fits_nil]
    have e1 : ((r.length : Int) == 0) = decide (r.length = 0) := by rw [Bool.eq_iff_iff]; simp
    have c1 : ((w == [114, 105, 110, 103]) || (w == [114, 111, 119])) = true := by simpa using c
    cases q1 : (w == [114, 105, 110, 103]) <;> cases q2 : (w == [114, 111, 119]) <;> rw [q1, q2] at c1 <;> first | (cases c1; done) | (cases q3 : decide (r.length = 0) <;> rw [q3] at e1 <;> simp [f_is_ask, m_is_ask, runB_s, List.replicate, cl, q1, q2, e1, a1])
  · rw [if_neg c]
    have q1 : (w == [114, 105, 110, 103]) = false := by simpa using fun e => c (.inl e)
    have q2 : (w == [114, 111, 119]) = false := by simpa using fun e => c (.inr e)
    cases q : lookT fT w with
    | none =>
      have t1 : inTD fT (.str w) = .ok (.bl false) := by rw [inTD_s, q]; rfl
      unfold fT at t1
      simp [f_is_ask, m_is_ask, runB_s, List.replicate, cl, q1, q2, t1]
    | some f =>
      obtain ⟨fl, fo⟩ := lookT_ok q
      have t1 : inTD fT (.str w) = .ok (.bl true) := by rw [inTD_s, q]; rfl
      have t2 : ixTD fT (.str w) = .ok (.str f) := ixTD_s q fo
      unfold fT at t1 t2
      have a2 := ao f (by omega)
      simp [f_is_ask, m_is_ask, runB_s, List.replicate, cl, q1, q2, t1, t2, a2]
theorem kindW_ask (w : List Nat) (r : List (List Nat)) : kindW w r = if w = sAll then (if fitsB r [110, 110] = true then 0 else 9) else if w = sWords then (if fitsB r (repS [116] (max 1 r.length)) = true then 1 else 9) else if w = sBar then (if fitsB r [116] = true then 2 else 9) else (if askB w r = true then 3 else 9) := by
  by_cases h1 : w = sAll
  · subst h1; rw [kindW_all, if_pos rfl]
  · rw [if_neg h1]
    by_cases h2 : w = sWords
    · subst h2; rw [kindW_words, if_pos rfl]
    · rw [if_neg h2]
      by_cases h3 : w = sBar
      · subst h3; rw [kindW_bar, if_pos rfl]
      · rw [if_neg h3]
        unfold askB
        by_cases h4 : w = sRing ∨ w = sRow
        · rw [kindW_ring h4, if_pos h4]
          simp
        · rw [kindW_other h1 h2 h3 (fun e => h4 (.inl e)) (fun e => h4 (.inr e)), if_neg h4]
          cases lookT fT w <;> simp
theorem fits_len {r : List (List Nat)} {f : List Nat} (h : fitsB r f = true) : r.length = f.length := by
  unfold fitsB at h
  simp at h
  exact h.1
theorem row_kind_ok (w : List Nat) (r : List (List Nat)) (hw : ∀ x ∈ w :: r, x.length ≤ 1000000) (hl : r.length ≤ 1000000) : f_row_kind [.lst ((w :: r).map .str)] = .ok (.str (nameK (kindW w r))) := by
  have hr : ∀ x ∈ r, x.length ≤ 1000000 := fun x hx => hw x (List.mem_cons_of_mem _ hx)
  have ao := fun (f : List Nat) (hf : f.length ≤ 1000000) => are_of_ok r f hr hf
  have cl : cutL (.str w :: r.map .str) (some 1) none = r.map D.str := cutL_1 _
  have a0 := is_ask_ok w r hw
  rw [List.map_cons] at a0
  have a1 := ao [110, 110] (by simp)
  have a3 := ao [116] (by simp)
  have a2 := ao (repS [116] r.length) (by unfold repS; simp; omega)
  have mu : mulD (.str [116]) (.int (r.length : Int)) = .ok (.str (repS [116] r.length)) := by
    rw [mulD_s, if_pos ⟨by omega, by omega, le_sz (by simp; omega)⟩]
    congr 3
  rw [kindW_ask]
  by_cases h1 : w = sAll
  · subst h1
    have ab : askB sAll r = false := rfl
    rw [ab] at a0
    rw [if_pos rfl]
    cases q : fitsB r [110, 110] <;> rw [q] at a1 <;> simp [f_row_kind, m_row_kind, runB_s, List.replicate, cl, a1, a0, nameK]
  · rw [if_neg h1]
    have b1 : (w == [97, 108, 108]) = false := by simpa using h1
    by_cases h2 : w = sWords
    · subst h2
      have ab : askB sWords r = false := rfl
      rw [ab] at a0
      rw [if_pos rfl]
      cases hr0 : decide (0 < (r.length : Int)) with
      | false =>
        have r0 : r = [] := by simpa using hr0
        subst r0
        have f0 : fitsB [] (repS [116] (max 1 ([] : List (List Nat)).length)) = false := rfl
        rw [f0]
        rw [List.map_nil] at a0
        simp [f_row_kind, m_row_kind, runB_s, List.replicate, a0, nameK, (cutL_1 [D.str sWords])]
      | true =>
        have m1 : max 1 r.length = r.length := by simp at hr0; omega
        rw [m1]
        cases q : fitsB r (repS [116] r.length) <;> rw [q] at a2 <;> simp [f_row_kind, m_row_kind, runB_s, List.replicate, cl, a2, a0, nameK, mu]
        all_goals (rintro rfl; simp at hr0)
    · rw [if_neg h2]
      have b2 : (w == [119, 111, 114, 100, 115]) = false := by simpa using h2
      by_cases h3 : w = sBar
      · subst h3
        have ab : askB sBar r = false := rfl
        rw [ab] at a0
        rw [if_pos rfl]
        cases q : fitsB r [116] <;> rw [q] at a3 <;> simp [f_row_kind, m_row_kind, runB_s, List.replicate, cl, a3, a0, nameK]
      · rw [if_neg h3]
        have b3 : (w == [98, 97, 114]) = false := by simpa using h3
        cases q : askB w r <;> rw [q] at a0 <;> simp [f_row_kind, m_row_kind, runB_s, List.replicate, cl, b1, b2, b3, a0, nameK]
def lastK : Option Nat → List Nat
  | none => []
  | some k => nameK k
def mayB (k : Nat) : Option Nat → Bool
  | none => k == 0 || k == 1
  | some l => (k == 1 && l == 1) || (k == 2 && l != 3) || k == 3
theorem may_ok (k : Nat) (hk : k = 0 ∨ k = 1 ∨ k = 2 ∨ k = 3 ∨ k = 9) (l : Option Nat) (hl : ∀ x, l = some x → x ≤ 3) : f_may_follow [.str (nameK k), .str (lastK l)] = .ok (.bl (mayB k l)) := by
  cases l with
  | none => rcases hk with rfl | rfl | rfl | rfl | rfl <;> simp [f_may_follow, m_may_follow, runB_s, List.replicate, nameK, lastK, mayB]
  | some x =>
    have := hl x rfl
    have hx : x = 0 ∨ x = 1 ∨ x = 2 ∨ x = 3 := by omega
    rcases hk with rfl | rfl | rfl | rfl | rfl <;> rcases hx with rfl | rfl | rfl | rfl <;> simp [f_may_follow, m_may_follow, runB_s, List.replicate, nameK, lastK, mayB]
def wds (row : List Nat) : List (List Nat) := splL 32 row
def kd (row : List Nat) : Nat := match wds row with
  | w :: r => kindW w r
  | [] => 9
def dueF : List (List Nat) → Nat → Option Nat → Nat
  | [], _, _ => 0
  | row :: rows, k, l => if mayB (kd row) l = true then dueF rows (k + 1) (some (kd row)) else k + 1
theorem spl_len {c : Nat} : ∀ {l : List Nat}, ∀ p ∈ splL c l, p.length ≤ l.length
  | [], p, hp => by rw [List.mem_singleton.mp hp]; exact Nat.le_refl _
  | a :: r, p, hp => by
    obtain ⟨p0, q0, e⟩ := splL_ne c r
    by_cases hc : a = c
    · subst hc
      rw [splL_pos] at hp
      rcases List.mem_cons.mp hp with rfl | hp
      · exact Nat.zero_le _
      · have := spl_len (l := r) p hp
        rw [List.length_cons]; omega
    · rw [splL_neg hc e] at hp
      rcases List.mem_cons.mp hp with rfl | hp
      · have := spl_len (l := r) p0 (by rw [e]; exact List.mem_cons_self ..)
        rw [List.length_cons, List.length_cons]; omega
      · have := spl_len (l := r) p (by rw [e]; exact List.mem_cons_of_mem _ hp)
        rw [List.length_cons]; omega
theorem spl_sum (c : Nat) : ∀ l : List Nat, ((splL c l).map fun p => p.length + 1).sum = l.length + 1
  | [] => rfl
  | a :: r => by
    have ih := spl_sum c r
    obtain ⟨p0, q0, e⟩ := splL_ne c r
    by_cases hc : a = c
    · subst hc
      rw [splL_pos, List.map_cons, List.sum_cons, ih, List.length_cons]
      simp
      omega
    · rw [splL_neg hc e]
      rw [e] at ih
      rw [List.map_cons, List.sum_cons] at ih ⊢
      rw [List.length_cons, List.length_cons]
      omega
theorem spl_count (c : Nat) (l : List Nat) : (splL c l).length ≤ l.length + 1 := by
  have h := spl_sum c l
  have : ∀ xs : List (List Nat), xs.length ≤ (xs.map fun p => p.length + 1).sum := by
    intro xs
    induction xs with
    | nil => simp
    | cons a xs ih => rw [List.map_cons, List.sum_cons, List.length_cons]; omega
  have := this (splL c l)
  omega
theorem kindW_cases (w : List Nat) (r : List (List Nat)) : kindW w r = 0 ∨ kindW w r = 1 ∨ kindW w r = 2 ∨ kindW w r = 3 ∨ kindW w r = 9 := by
  rw [kindW_ask]
  repeat' split
  all_goals simp
theorem kd_cases (row : List Nat) : kd row = 0 ∨ kd row = 1 ∨ kd row = 2 ∨ kd row = 3 ∨ kd row = 9 := by
  unfold kd
  split
  · exact kindW_cases _ _
  · simp
theorem row_words (row : List Nat) : ∃ w r, wds row = w :: r := splL_ne 32 row
theorem row_kind_row (row : List Nat) (h : row.length ≤ 900000) : f_row_kind [.lst ((splL 32 row).map .str)] = .ok (.str (nameK (kd row))) := by
  obtain ⟨w, r, e⟩ := row_words row
  have hl := fun p hp => spl_len (c := 32) (l := row) p hp
  have hc := spl_count 32 row
  unfold kd
  have e' : splL 32 row = w :: r := e
  rw [e'] at hl hc ⊢
  rw [e]
  exact row_kind_ok w r (fun x hx => by have := hl x hx; omega) (by rw [List.length_cons] at hc; omega)
theorem may_le {k : Nat} (hk : k = 0 ∨ k = 1 ∨ k = 2 ∨ k = 3 ∨ k = 9) {l : Option Nat} (h : mayB k l = true) : k ≤ 3 := by
  rcases hk with rfl | rfl | rfl | rfl | rfl
  · omega
  · omega
  · omega
  · omega
  · cases l <;> simp [mayB] at h
theorem due_le : ∀ {rows : List (List Nat)} {k : Nat} {l : Option Nat}, dueF rows k l = 0 → ∀ row ∈ rows, kd row ≤ 3
  | row :: rows, k, l, h, x, hx => by
    unfold dueF at h
    by_cases c : mayB (kd row) l = true
    · rw [if_pos c] at h
      rcases List.mem_cons.mp hx with rfl | hx
      · exact may_le (kd_cases _) c
      · exact due_le h x hx
    · rw [if_neg c] at h
      cases h
theorem due_step {rows : List (List Nat)} {i : Nat} {row : List Nat} {l : Option Nat} (h : rows[i]? = some row) : dueF (rows.drop i) i l = if mayB (kd row) l = true then dueF (rows.drop (i + 1)) (i + 1) (some (kd row)) else i + 1 := by
  obtain ⟨hi, e⟩ := List.getElem?_eq_some_iff.mp h
  rw [List.drop_eq_getElem_cons hi, e]
  rfl
def rowD (row : List Nat) : D := .tup [.str (nameK (kd row)), .lst ((wds row).tail.map .str), .lst ((wds row).map .str)]
theorem rows_read_ok (x : List Nat) (hx : x.length ≤ 800000) : f_rows_read [.str x] = if dueF (splL 10 x) 0 none = 0 then .ok (.lst ((splL 10 x).map rowD)) else .ex 9 [.int (dueF (splL 10 x) 0 none : Nat)] := by
  have hs := splitD_s 10 x (by omega) (by omega)
  have hl := fun p hp => spl_len (c := 10) (l := x) p hp
  have hc := spl_count 10 x
  generalize splL 10 x = rows at *
  have z0 : (0 : Nat) ≤ SZ := le_sz (by omega)
  simp [f_rows_read, m_rows_read, runB_s, List.replicate, hs, z0]
  obtain ⟨due, hd⟩ : ∃ due, due = dueF rows 0 none := ⟨_, rfl⟩
  rw [← hd]
  obtain ⟨res, hres⟩ : ∃ res : R D, res = if due = 0 then .ok (.lst (rows.map rowD)) else .ex 9 [.int (due : Nat)] := ⟨_, rfl⟩
  rw [← hres]
  obtain ⟨g, hg⟩ : ∃ g : Nat → List D, g = fun i => (rows.take i).map rowD := ⟨_, rfl⟩
  have g0 : g 0 = [] := by rw [hg]; rfl
  have ge : g rows.length = rows.map rowD := by rw [hg]; dsimp only; rw [List.take_of_length_le (Nat.le_refl _)]
  have gl : ∀ i, (g i).length ≤ i := fun i => by rw [hg]; dsimp only; rw [List.length_map, List.length_take]; omega
  have gs : ∀ i row, rows[i]? = some row → g (i + 1) = g i ++ [rowD row] := fun i row h => by rw [hg]; dsimp only; rw [List.take_add_one, h, List.map_append]; rfl
  clear hg
  rw [← ge] at hres
  have e0 : D.lst [] = .lst (g 0) := by rw [g0]
  rw [e0]
  refine forL_post (fun i s => ∃ (l : Option Nat) (a b c e : Sl), s = [.sh (.str x), .ow (.lst (g i)), .sh (.str (lastK l)), a, b, c, e] ∧ canS (some a) = true ∧ canS (some b) = true ∧ canS (some c) = true ∧ canS (some e) = true ∧ due = dueF (rows.drop i) i l ∧ ∀ k, l = some k → k ≤ 3)
    (fun r => fin false (bnd r _) = res) _ _ ⟨none, _, _, _, _, rfl, rfl, rfl, rfl, rfl, hd, fun k h => by cases h⟩ ?_ ?_
  · rintro i d s hi ⟨l, a, b, c, e, rfl, ha, hb, hc, he, hdue, hl3⟩
    rw [List.getElem?_mapIdx, List.getElem?_map] at hi
    cases hrow : rows[i]? with
    | none => rw [hrow] at hi; cases hi
    | some row =>
      rw [hrow] at hi
      cases hi
      have hi2 := (List.getElem?_eq_some_iff.mp hrow).1
      have hrl := hl row (List.mem_of_getElem? hrow)
      have x2 := splitD_s 32 row (by omega) (by omega)
      have x3 := row_kind_row row (by omega)
      have x4 := may_ok (kd row) (kd_cases row) l hl3
      have hk := kd_cases row
      have tz : (g i).length + 1 ≤ SZ := le_sz (by have := gl i; omega)
      have cl : cutL ((splL 32 row).map D.str) (some 1) none = (wds row).tail.map D.str := by rw [cutL_1, List.map_tail]; rfl
      have gs := gs i row hrow
      unfold rowD at gs
      have wd : (wds row).map D.str = (splL 32 row).map D.str := rfl
      rw [wd] at gs
      generalize (wds row).tail.map D.str = tl at *
      generalize (splL 32 row).map D.str = tw at *
      rw [due_step hrow] at hdue
      have f2 : mayB (kd row) l = false → R.ex 9 [D.int ((i : Nat) + 1)] = res := by
        intro q
        rw [if_neg (by rw [q]; simp)] at hdue
        rw [hres, hdue, if_neg (by omega)]
        simp
      cases q : mayB (kd row) l with
      | true =>
        rw [q] at x4
        rw [if_pos q] at hdue
        have kl := may_le hk q
        rw [gs]
        simp [turn_s, ha, hb, hc, he, gT, gN, setS_s, x2, x3, x4, tz, cl]
        refine ⟨some (kd row), _, _, _, _, ⟨rfl, rfl, rfl, rfl, rfl⟩, rfl, rfl, rfl, rfl, hdue, fun z hz => by cases hz; exact kl⟩
      | false =>
        have f2 := f2 q
        rw [q] at x4
        simp [turn_s, ha, hb, hc, he, gT, gN, setS_s, x2, x3, x4, tz, cl, f2]
  · rintro s ⟨l, a, b, c, e, rfl, ha, hb, hc, he, hdue, hl3⟩
    have e0 : ((rows.map D.str).mapIdx fun i x => D.tup [.int (i : Nat), x]).length = rows.length := by simp
    rw [e0] at hdue ⊢
    rw [List.drop_eq_nil_of_le (Nat.le_refl _)] at hdue
    rw [hres, hdue]
    simp [dueF]
theorem fits_t {r : List (List Nat)} (h : fitsB r [116] = true) : ∃ u, r = [u] ∧ txtB u = true := by
  have hl := fits_len h
  match r, hl with
  | [u], _ =>
    refine ⟨u, rfl, ?_⟩
    simpa [fitsB, okB] using h
theorem kind_2 {w : List Nat} {r : List (List Nat)} (h : kindW w r = 2) : ∃ u, r = [u] ∧ txtB u = true := by
  rw [kindW_ask] at h
  repeat' split at h
  all_goals first | (cases h; done) | (rename_i h2; exact fits_t h2) | skip
def stepW (st : List (List Nat) × List (List (List Nat))) (row : List Nat) : List (List Nat) × List (List (List Nat)) :=
  if kd row = 1 then (st.1 ++ (wds row).tail, st.2) else if kd row = 2 then (st.1.filter (fun p => !inS ((wds row).tail.headD []) p), st.2) else (st.1, st.2 ++ [wds row])
def readW (rows : List (List Nat)) : List (List Nat) × List (List (List Nat)) := rows.foldl stepW ([], [])
def askD (ws : List (List Nat)) : D := .tup (ws.map .str)
theorem read_page_exact (x : List Nat) (hx : x.length ≤ 800000) (h0 : dueF (splL 10 x) 0 none = 0) (hna : ∀ row ∈ splL 10 x, kd row ≠ 0) :
    f_read_page [.str x] = (f_Web [.lst ((readW (splL 10 x)).1.map .str)]).bind fun vs => .ok (.tup [.obj 2 vs, .lst ((readW (splL 10 x)).2.map askD)]) := by
  have rr := rows_read_ok x hx
  have hk := due_le h0
  rw [if_pos h0] at rr
  have hl := fun p hp => spl_len (c := 10) (l := x) p hp
  have hc := spl_count 10 x
  have hsum := spl_sum 10 x
  generalize splL 10 x = rows at *
  have z0 : (0 : Nat) ≤ SZ := le_sz (by omega)
  obtain ⟨cnt, hcnt⟩ : ∃ cnt : Nat → Nat, cnt = fun i => ((rows.take i).map fun p => p.length + 1).sum := ⟨_, rfl⟩
  have cs : ∀ i row, rows[i]? = some row → cnt (i + 1) = cnt i + (row.length + 1) := fun i row h => by
    rw [hcnt]; dsimp only; rw [List.take_add_one, h, List.map_append, List.sum_append]; simp
  have c0 : cnt 0 = 0 := by rw [hcnt]; rfl
  have ce : ∀ i, i ≤ rows.length → cnt i ≤ x.length + 1 := fun i hi => by
    rw [← hsum, hcnt]
    dsimp only
    have e : rows.take i ++ rows.drop i = rows := List.take_append_drop i rows
    have : ((rows.take i ++ rows.drop i).map fun p : List Nat => p.length + 1).sum = (rows.map fun p : List Nat => p.length + 1).sum := by rw [e]
    rw [List.map_append, List.sum_append] at this
    omega
  clear hcnt
  obtain ⟨g, hg⟩ : ∃ g : Nat → List (List Nat) × List (List (List Nat)), g = fun i => (rows.take i).foldl stepW ([], []) := ⟨_, rfl⟩
  have g0 : g 0 = ([], []) := by rw [hg]; rfl
  have ge : g rows.length = readW rows := by rw [hg]; dsimp only; rw [List.take_of_length_le (Nat.le_refl _)]; rfl
  have gs : ∀ i row, rows[i]? = some row → g (i + 1) = stepW (g i) row := fun i row h => by rw [hg]; dsimp only; rw [List.take_add_one, h, List.foldl_append]; rfl
  clear hg
  obtain ⟨RD, hRD⟩ : ∃ RD, RD = rows.map rowD := ⟨_, rfl⟩
  rw [← hRD] at rr
  simp [f_read_page, m_read_page, runB_s, List.replicate, rr, z0]
  rw [hRD, ← ge]
  obtain ⟨P, hP⟩ : ∃ P : Nat → SS → Prop, P = fun i s => ∃ (a b c e : Sl), s = [.sh (.str x), .sh (.lst RD), .sh (.lst ((g i).1.map .str)), .ow (.lst ((g i).2.map askD)), a, b, c, e] ∧ canS (some a) = true ∧ canS (some b) = true ∧ canS (some c) = true ∧ canS (some e) = true ∧ (g i).2.length ≤ i ∧ (g i).1.length ≤ cnt i := ⟨_, rfl⟩
  have hPi : ∀ i s, P i s ↔ ∃ (a b c e : Sl), s = [.sh (.str x), .sh (.lst RD), .sh (.lst ((g i).1.map .str)), .ow (.lst ((g i).2.map askD)), a, b, c, e] ∧ canS (some a) = true ∧ canS (some b) = true ∧ canS (some c) = true ∧ canS (some e) = true ∧ (g i).2.length ≤ i ∧ (g i).1.length ≤ cnt i := fun i s => by rw [hP]
  clear hP
  refine forM_then (c := rowD) (xs := rows) (k := fun r => fin false (bnd r _)) P ((hPi _ _).mpr ⟨_, _, _, _, by rw [g0, hRD]; rfl, rfl, rfl, rfl, rfl, by rw [g0]; exact Nat.zero_le _, by rw [g0]; exact Nat.zero_le _⟩) ?_ ?_
  · intro i row s hrow hp0
    obtain ⟨a, b, c, e, rfl, ha, hb, hc, he, hal, hwl⟩ := (hPi _ _).mp hp0
    have hi2 := (List.getElem?_eq_some_iff.mp hrow).1
    have hm := List.mem_of_getElem? hrow
    have hrl := hl row hm
    have hk3 := hk row hm
    have hk0 := hna row hm
    have csr := cs i row hrow
    have cei := ce (i + 1) hi2
    have gsr := gs i row hrow
    have sc := spl_count 32 row
    obtain ⟨w, r, ew⟩ := row_words row
    have ew' : splL 32 row = w :: r := ew
    have ekd : kd row = kindW w r := by unfold kd; rw [ew]
    rw [ew', List.length_cons] at sc
    unfold stepW at gsr
    rw [ew, List.tail_cons] at gsr
    have fin1 : ∀ (a b c e : Sl), canS (some a) = true ∧ canS (some b) = true ∧ canS (some c) = true ∧ canS (some e) = true → (g (i + 1)).2.length ≤ i + 1 → (g (i + 1)).1.length ≤ cnt (i + 1) → P (i + 1) [.sh (.str x), .sh (.lst RD), .sh (.lst ((g (i + 1)).1.map .str)), .ow (.lst ((g (i + 1)).2.map askD)), a, b, c, e] :=
      fun a b c e ⟨h1, h2, h3, h4⟩ h5 h6 => (hPi _ _).mpr ⟨a, b, c, e, rfl, h1, h2, h3, h4, h5, h6⟩
    unfold rowD
    rw [ew, List.tail_cons]
    generalize g (i + 1) = g1 at *
    generalize g i = gi at *
    generalize kd row = k at *
    have hk4 : k = 1 ∨ k = 2 ∨ k = 3 := by omega
    rcases hk4 with rfl | rfl | rfl
    · rw [if_pos rfl] at gsr
      subst gsr
      have ad : addD (.lst (gi.1.map .str)) (.lst (r.map .str)) = .ok (.lst ((gi.1 ++ r).map .str)) := by
        rw [addD_l, if_pos (le_sz (by rw [List.length_map, List.length_map]; omega)), List.map_append]
      have f1 := fun a b c => fin1 a b c e
      dsimp only at f1
      generalize hq : gi.1 ++ r = ws2 at *
      have hq2 : ws2.length = gi.1.length + r.length := by rw [← hq, List.length_append]
      refine ⟨_, by simp [turn_s, ha, hb, hc, he, gT, gN, setS_s, nameK, ad], f1 (.sh (.str sWords)) (.sh (.lst (r.map .str))) (.sh (.lst (.str w :: r.map .str))) ⟨rfl, rfl, rfl, he⟩ (by omega) (by omega)⟩
    · rw [if_neg (by omega), if_pos rfl] at gsr
      obtain ⟨u, rfl, hu⟩ := kind_2 ekd.symm
      rw [List.headD_cons] at gsr
      subst gsr
      have cm : rComp (mapD (cStep (gN 7) [7] (eBin (inD true) (eBin ixD (eR 5) (eC (.int 0))) (eR 7)) (eV 7) [.sh (.str x), .sh (.lst RD), .sh (.lst (gi.1.map .str)), .ow (.lst (gi.2.map askD)), .sh (.str sBar), .sh (.lst [.str u]), .sh (.lst (.str w :: [.str u])), e]) (gi.1.map .str)) = .ok (.lst ((gi.1.filter fun p => !inS u p).map .str)) := by
        rw [comp_filterM (p := fun p => !inS u p) D.str D.str gi.1 (by omega) (fun p hp => by
          cases q : inS u p <;> simp [cStep_s, he, gN, setS_s, q])]
      have f1 := fun a b c => fin1 a b c e
      dsimp only at f1
      have fl := List.length_filter_le (fun p => !inS u p) gi.1
      generalize gi.1.filter (fun p => !inS u p) = ws2 at *
      refine ⟨_, by simp [turn_s, ha, hb, hc, he, gT, gN, setS_s, nameK, -rComp_ok]; rw [cm]; simp, f1 (.sh (.str sBar)) (.sh (.lst [.str u])) (.sh (.lst (.str w :: [.str u]))) ⟨rfl, rfl, rfl, he⟩ (by omega) (by omega)⟩
    · rw [if_neg (by omega), if_neg (by omega)] at gsr
      subst gsr
      have tz : gi.2.length + 1 ≤ SZ := le_sz (by omega)
      have f1 := fun a b c => fin1 a b c e
      have ea : (gi.2.map askD) ++ [askD (w :: r)] = (gi.2 ++ [w :: r]).map askD := by rw [List.map_append]; rfl
      have ed : D.tup (.str w :: r.map D.str) = askD (w :: r) := rfl
      dsimp only at f1
      rw [← ea] at f1
      refine ⟨_, by simp [turn_s, ha, hb, hc, he, gT, gN, setS_s, nameK, tz, tupleD, ed], f1 (.sh (.str sAsk)) (.sh (.lst (r.map .str))) (.sh (.lst (.str w :: r.map .str))) ⟨rfl, rfl, rfl, he⟩ (by simp; omega) (by omega)⟩
  · intro s hp0
    obtain ⟨a, b, c, e, rfl, ha, hb, hc, he, hal, hwl⟩ := (hPi _ _).mp hp0
    simp
    have z2 : (2 : Nat) ≤ SZ := le_sz (by omega)
    cases f_Web [.lst ((g rows.length).1.map .str)] <;> first | (simp [z2]; done) | rfl
theorem spl_join (c : Nat) : ∀ ws : List (List Nat), ws ≠ [] → (∀ w ∈ ws, c ∉ w) → splL c (TL.joinL [c] ws) = ws
  | [], h, _ => (h rfl).elim
  | [w], _, h => splL_none (h w (List.mem_cons_self ..))
  | w :: v :: r, _, h => by
    have ih := spl_join c (v :: r) (by simp) fun x hx => h x (List.mem_cons_of_mem _ hx)
    have e : TL.joinL [c] (w :: v :: r) = w ++ c :: TL.joinL [c] (v :: r) := rfl
    rw [e, splL_app (h w (List.mem_cons_self ..)), ih]
def wsum (ws : List (List Nat)) : Nat := (ws.map fun p => p.length + 1).sum
@[simp] theorem wsum_nil : wsum [] = 0 := rfl
@[simp] theorem wsum_cons (a : List Nat) (ws : List (List Nat)) : wsum (a :: ws) = a.length + 1 + wsum ws := by unfold wsum; simp
@[simp] theorem wsum_app (a b : List (List Nat)) : wsum (a ++ b) = wsum a + wsum b := by unfold wsum; simp
theorem join_len (c : Nat) : ∀ ws : List (List Nat), (TL.joinL [c] ws).length ≤ wsum ws
  | [] => Nat.zero_le _
  | [p] => by simp [TL.joinL]
  | p :: q :: r => by
    have ih := join_len c (q :: r)
    simp only [TL.joinL, List.length_append, List.length_cons, List.length_nil]
    rw [wsum_cons]
    omega
theorem wsum_lens : ∀ ws : List (List Nat), (ws.map (·.length)).sum + ws.length = wsum ws
  | [] => rfl
  | p :: r => by
    have ih := wsum_lens r
    simp only [List.map_cons, List.sum_cons, List.length_cons, wsum_cons]
    omega
theorem wsum_le : ∀ (ws : List (List Nat)) (B : Nat), (∀ w ∈ ws, w.length ≤ B) → wsum ws ≤ ws.length * (B + 1)
  | [], _, _ => Nat.zero_le _
  | p :: r, B, h => by
    have ih := wsum_le r B fun w hw => h w (List.mem_cons_of_mem _ hw)
    have := h p (List.mem_cons_self ..)
    rw [wsum_cons, List.length_cons, Nat.succ_mul]
    omega
theorem joinM_sp (c : Nat) (ws : List (List Nat)) (h : wsum ws ≤ 16777216) : joinM (.str [c]) [.lst (ws.map .str)] = .ok (.str (TL.joinL [c] ws)) := by
  unfold joinM joinD
  dsimp only
  rw [strsD_map]
  dsimp only
  rw [if_pos (le_sz (by have := wsum_lens ws; simp; omega))]
theorem numB_dg {n : Nat} (h : n < 10 ^ 60) : numB (dg n) = true := by
  have hl : (dg n).length ≤ 60 := dg_len (by omega) h
  have h0 : (dg n).length ≠ 0 := fun e => dg_ne n (List.length_eq_zero_iff.mp e)
  have ha := dg_all n
  unfold numB
  rw [Bool.and_eq_true, Bool.and_eq_true]
  refine ⟨by simp; omega, ?_, ?_⟩
  · rw [List.all_eq_true]
    intro c hc
    have := ha c hc
    simpa [digB] using this
  · rcases dg_head n with e | ⟨c, r, e, hc⟩
    · obtain ⟨c, ec⟩ := List.length_eq_one_iff.mp e
      rw [ec]
      by_cases q : c = 48
      · subst q; rfl
      · simp [q]
    · rw [e]
      simp
      right
      omega
def Txt (f : List Nat) : Prop := 1 ≤ f.length ∧ f.length ≤ 60 ∧ ∀ c ∈ f, 97 ≤ c ∧ c ≤ 102
theorem Txt.B {f : List Nat} (h : Txt f) : txtB f = true := by
  unfold txtB
  rw [Bool.and_eq_true, List.all_eq_true]
  refine ⟨by simp; have := h.1; have := h.2.1; omega, fun c hc => ?_⟩
  simpa [abcB] using h.2.2 c hc
theorem law_text_ok (n : Int) (s k : Nat) (hs : 1 ≤ s ∧ s ≤ 30) (hk : 1 ≤ k ∧ k ≤ 6) : ∃ t, f_law_text [.int n, .int s, .int k] = .ok (.str t) ∧ t.length = s ∧ Txt t := by
  have st : ∀ j : Nat, j < s → ∃ c : Nat, 97 ≤ c ∧ c ≤ 102 ∧ ((((f_law_stir [.int n, .int j]).bind fun x => fdivD x (.int 7)).bind fun x => modD x (.int k)).bind fun x => ixD (.str [97, 98, 99, 100, 101, 102]) x) = .ok (.str [c]) := fun j hj => by
    obtain ⟨z, hz, hz0⟩ := law_stir_ok n j (by omega)
    have b1 := Int.emod_nonneg (z / 7) (show (k : Int) ≠ 0 by omega)
    have b2 := Int.emod_lt_of_pos (z / 7) (show 0 < (k : Int) by omega)
    refine ⟨97 + (z / 7 % (k : Int)).toNat, by omega, by omega, ?_⟩
    simp [hz, fdivD_s z 7 (by omega) (by omega), modD_i (z / 7) (k : Int) (by omega)]
    exact letter_ok _ b1 (by omega)
  obtain ⟨g, hg⟩ : ∃ g : Nat → Nat, ∀ j, j < s → 97 ≤ g j ∧ g j ≤ 102 ∧ ((((f_law_stir [.int n, .int j]).bind fun x => fdivD x (.int 7)).bind fun x => modD x (.int k)).bind fun x => ixD (.str [97, 98, 99, 100, 101, 102]) x) = .ok (.str [g j]) := by
    refine ⟨fun j => if h : j < s then Classical.choose (st j h) else 97, fun j hj => ?_⟩
    dsimp only
    rw [dif_pos hj]
    exact Classical.choose_spec (st j hj)
  refine ⟨(List.range s).map g, ?_, by simp, by simp; omega, by simp; omega, fun c hc => ?_⟩
  · simp [f_law_text, m_law_text, runB_s, List.replicate]
    rw [rng1_i _ (by unfold fit62; omega)]
    simp [-rComp_ok]
    rw [comp_range (fun j => .str [g j]) _ _ s (by simp) (by omega) (fun j hj => by
      have := (hg j (by omega)).2.2
      simp [cStep_s, this])]
    have e : ((List.range s).map fun j => D.str [g j]) = (((List.range s).map g).map fun c => [c]).map .str := by simp
    simp only [e]
    have := joinM_ch ((List.range s).map g) (by simp; omega)
    simp only [R.bind, this]
    rfl
  · obtain ⟨j, hj, rfl⟩ := List.mem_map.mp hc
    have := hg j (List.mem_range.mp hj)
    exact ⟨this.1, this.2.1⟩
inductive AskOk : List (List Nat) → Prop
  | piece (f : List Nat) (k p m : Nat) : Txt f → k < 10 ^ 60 → p < 10 ^ 60 → m < 10 ^ 60 → AskOk [[112, 105, 101, 99, 101], f, dg k, dg p, dg m]
  | place (f w : List Nat) (k : Nat) : Txt f → Txt w → k < 10 ^ 60 → AskOk [[112, 108, 97, 99, 101], f, dg k, w]
theorem str60 {n : Nat} (h : n < 10 ^ 60) : strD [.int (n : Nat)] = .ok (.str (dg n)) := strD_n n (by rw [bigN_is]; exact Nat.lt_trans h (Nat.pow_lt_pow_right (by decide) (by decide)))
theorem Txt.lrot {f : List Nat} (h : Txt f) : Txt (lrot f) := by
  obtain ⟨h1, h2, h3⟩ := h
  have h0 : f ≠ [] := by intro e; subst e; simp at h1
  exact ⟨by rw [lrot_len h0]; exact h1, by rw [lrot_len h0]; exact h2, fun c hc => h3 c (lrot_mem h0 hc)⟩
theorem stir_b (x : Int) (k : Int) (hk : 0 ≤ k ∧ k ≤ 100000) : ∃ z : Int, f_law_stir [.int x, .int k] = .ok (.int z) ∧ 0 ≤ z ∧ z < 2147483629 := by
  have mu : ∀ p q : Int, p.natAbs < 18446744073709551616 → mulD (.int p) (.int q) = .ok (.int (p * q)) := fun p q h => by rw [mulD_i, if_pos (.inl h)]
  have m1 := modD_i x 1000000007 (by omega)
  have hx : 0 ≤ x % 1000000007 ∧ x % 1000000007 < 1000000007 := ⟨Int.emod_nonneg _ (by omega), Int.emod_lt_of_pos _ (by omega)⟩
  generalize x % 1000000007 = y at *
  have u1 := mu y 48271 (by omega)
  have u2 := mu (k + 1) (k + 1) (by omega)
  have hkk : 0 ≤ (k + 1) * (k + 1) ∧ (k + 1) * (k + 1) ≤ 100001 * 100001 := ⟨Int.mul_nonneg (by omega) (by omega), Int.mul_le_mul (by omega) (by omega) (by omega) (by omega)⟩
  generalize (k + 1) * (k + 1) = kk at *
  have u3 := mu kk 69621 (by omega)
  have m2 := modD_i (y * 48271 + kk * 69621) 2147483647 (by omega)
  have hm : 0 ≤ (y * 48271 + kk * 69621) % 2147483647 ∧ (y * 48271 + kk * 69621) % 2147483647 < 2147483647 := ⟨Int.emod_nonneg _ (by omega), Int.emod_lt_of_pos _ (by omega)⟩
  generalize (y * 48271 + kk * 69621) % 2147483647 = m at *
  have u4 := mu m m (by omega)
  have m3 := modD_i (m * m) 2147483629 (by omega)
  refine ⟨m * m % 2147483629, ?_, Int.emod_nonneg _ (by omega), Int.emod_lt_of_pos _ (by omega)⟩
  generalize m * m = mm at *
  simp [f_law_stir, m_law_stir, runB_s, List.replicate, m1, u1, u2, u3, m2, u4, m3]
noncomputable def gA_10 : SS → RS := (sSeq (sIf (eBin eqD (eBin modD (eBin fdivD (eR 2) (eC (.int 6000))) (eC (.int 6))) (eC (.int 0))) (sSet 10 (eBin addD (eR 10) (eC (.str [97])))) sNx)
  (sSeq (sIf (eAnd (eBin eqD (eBin modD (eBin fdivD (eR 2) (eC (.int 6000))) (eC (.int 6))) (eC (.int 1))) (eBin gtD (eR 5) (eC (.int 1)))) (sSet 10 (eSl (eR 10) (oSo (eC (.int 1))) oNo)) sNx)
  (sSeq (sIf (eBin eqD (eBin modD (eBin fdivD (eR 2) (eC (.int 6000))) (eC (.int 6))) (eC (.int 2))) (sSet 10 (eBin addD (eSl (eR 7) (oSo (eC (.int 1))) oNo) (eSl (eR 7) oNo (oSo (eC (.int 1)))))) sNx)
  (sRet (eTup (aCons (eC (.str [112, 108, 97, 99, 101])) (aCons (eV 7) (aCons (eCall strD (aCons (eR 4) aNil)) (aCons (eV 10) aNil)))))))))
noncomputable def gA_9 : SS → RS := (sSeq (sSet 10 (eCall f_law_text (aCons (eCall f_law_stir (aCons (eV 0) (aCons (eC (.int 43)) aNil))) (aCons (eV 5) (aCons (eV 6) aNil)))))
  gA_10)
noncomputable def gA_8 : SS → RS := (sSeq (sIf (eBin eqD (eBin modD (eBin fdivD (eR 2) (eC (.int 3000))) (eC (.int 2))) (eC (.int 0))) (sSeq (sSet 8 (eBin ixD (eLst (aCons (eBin fdivD (eR 2) (eC (.int 6000))) (aCons (eBin modD (eR 0) (eBin powD (eC (.int 10)) (eC (.int 60)))) aNil))) (eBin modD (eBin fdivD (eR 2) (eC (.int 6000))) (eC (.int 2)))))
  (sSeq (sSet 9 (eBin ixD (eLst (aCons (eC (.int 0)) (aCons (eC (.int 1)) (aCons (eC (.int 7)) (aCons (eC (.int 30)) (aCons (eC (.int 200)) (aCons (eC (.int 201)) (aCons (eBin addD (eC (.int 201)) (eR 3)) aNil)))))))) (eBin modD (eBin fdivD (eR 2) (eC (.int 12000))) (eC (.int 7)))))
  (sRet (eTup (aCons (eC (.str [112, 105, 101, 99, 101])) (aCons (eV 7) (aCons (eCall strD (aCons (eR 4) aNil)) (aCons (eCall strD (aCons (eR 8) aNil)) (aCons (eCall strD (aCons (eR 9) aNil)) aNil))))))))) sNx)
  gA_9)
noncomputable def gA_5 : SS → RS := (sSeq (sSet 6 (eCall max2D (aCons (eC (.int 1)) (aCons (eCall min2D (aCons (eC (.int 6)) (aCons (eR 4) aNil))) aNil))))
  (sSeq (sSet 7 (eCall f_law_text (aCons (eCall f_law_stir (aCons (eV 0) (aCons (eC (.int 42)) aNil))) (aCons (eV 5) (aCons (eV 6) aNil)))))
  (sSeq (sIf (eBin gtD (eBin modD (eBin fdivD (eR 2) (eC (.int 600))) (eC (.int 5))) (eC (.int 0))) (sSet 7 (eCall f_law_least (aCons (eV 7) aNil))) sNx)
  gA_8)))
noncomputable def gA_4 : SS → RS := (sSeq (sIf (eV 1) (sSeq (sSet 5 (eBin ixD (eLst (aCons (eBin addD (eC (.int 9)) (eBin modD (eBin fdivD (eR 2) (eC (.int 10))) (eC (.int 4)))) (aCons (eC (.int 25)) (aCons (eC (.int 26)) aNil)))) (eBin modD (eBin fdivD (eR 2) (eC (.int 300))) (eC (.int 3)))))
  (sIf (eAnd (eBin ltD (eR 5) (eC (.int 25))) (eChain ltD ltD (eC (.int 2)) (eR 4) (eC (.int 7)))) (sSet 4 (eC (.int 2))) sNx)) sNx)
  gA_5)
theorem m_cutA : m_law_ask = (sSeq (sSet 2 (eBin fdivD (eCall f_law_stir (aCons (eV 0) (aCons (eC (.int 41)) aNil))) (eC (.int 7))))
  (sSeq (sSet 3 (eBin modD (eR 0) (eBin powD (eC (.int 10)) (eC (.int 59)))))
  (sSeq (sSet 4 (eBin ixD (eLst (aCons (eC (.int 1)) (aCons (eC (.int 2)) (aCons (eC (.int 3)) (aCons (eC (.int 4)) (aCons (eC (.int 5)) (aCons (eC (.int 6)) (aCons (eC (.int 2)) (aCons (eC (.int 3)) (aCons (eC (.int 0)) (aCons (eC (.int 7)) (aCons (eBin addD (eC (.int 7)) (eR 3)) aNil)))))))))))) (eBin modD (eR 2) (eC (.int 11)))))
  (sSeq (sSet 5 (eBin addD (eC (.int 1)) (eBin modD (eBin fdivD (eR 2) (eC (.int 10))) (eBin ixD (eLst (aCons (eC (.int 8)) (aCons (eC (.int 8)) (aCons (eC (.int 6)) (aCons (eC (.int 5)) (aCons (eC (.int 4)) (aCons (eC (.int 4)) (aCons (eC (.int 8)) (aCons (eC (.int 6)) (aCons (eC (.int 8)) (aCons (eC (.int 8)) (aCons (eC (.int 8)) aNil)))))))))))) (eBin modD (eR 2) (eC (.int 11)))))))
  gA_4)))) := rfl

def OkA (r : R D) : Prop := ∃ ask, r = .ok (askD ask) ∧ AskOk ask
theorem addT (a b : List Nat) (h : a.length + b.length ≤ 1000) : addD (.str a) (.str b) = .ok (.str (a ++ b)) := by
  have hz : a.length + b.length ≤ SZ := le_sz (by omega)
  unfold addD
  simp [hz]
theorem pick_nat (xs : List Int) (n i : Int) (hl : (xs.length : Int) = n) (h : 0 < n) (B : Int) (hB : ∀ v ∈ xs, 0 ≤ v ∧ v < B) : ∃ x : Nat, (x : Int) ∈ xs ∧ (x : Int) < B ∧ ixD (.lst (xs.map .int)) (.int (i % n)) = .ok (.int (x : Nat)) := by
  obtain ⟨v, hv, e⟩ := pick_int xs n i hl h
  have := hB v hv
  refine ⟨v.toNat, ?_, by omega, ?_⟩
  · rw [show ((v.toNat : Nat) : Int) = v by omega]; exact hv
  · rw [show ((v.toNat : Nat) : Int) = v by omega]; exact e
theorem ask_10 (x b n far : Int) (bb : Bool) (kinds size many : Nat) (f w : List Nat) (hf : Txt f) (hw : Txt w) (hwl : w.length = size) (hn : 0 ≤ n) (hk : kinds < 10 ^ 60) (hs : 1 ≤ size ∧ size ≤ 30) :
    OkA (fin false (gA_10 [.sh (.int x), .sh (.bl bb), .sh (.int n), .sh (.int far), .sh (.int kinds), .sh (.int size), .sh (.int many), .sh (.str f), .no, .no, .sh (.str w)])) := by
  have f6 := fdivD_s n 6000 (by omega) (by omega)
  have m6 := modD_i (n / 6000) 6 (by omega)
  have sk := str60 hk
  have z4 : (4 : Nat) ≤ SZ := le_sz (by omega)
  have aw := addT w [97] (by have := hw.2.1; simp; omega)
  have sw := slD_s w (some 1) none (le_sz (by have := hw.2.1; omega))
  have s1 := slD_s f (some 1) none (le_sz (by have := hf.2.1; omega))
  have s2 := slD_s f none (some 1) (le_sz (by have := hf.2.1; omega))
  rw [cutL_1] at sw s1
  rw [cutL_to _ _ (by omega)] at s2
  have ff := addT f.tail (f.take 1) (by have := hf.2.1; simp; omega)
  have w1 : Txt (w ++ [97]) := by
    refine ⟨by simp, by simp; omega, fun c hc => ?_⟩
    rcases List.mem_append.mp hc with hc | hc
    · exact hw.2.2 c hc
    · rw [List.mem_singleton.mp hc]; omega
  have w2 : 1 < size → Txt w.tail := fun h => ⟨by rw [List.length_tail]; omega, by rw [List.length_tail]; omega, fun c hc => hw.2.2 c (List.mem_of_mem_tail hc)⟩
  have w3 : Txt (f.tail ++ f.take 1) := by
    have := hf.1
    have := hf.2.1
    refine ⟨by simp; omega, by simp; omega, fun c hc => ?_⟩
    rcases List.mem_append.mp hc with hc | hc
    · exact hf.2.2 c (List.mem_of_mem_tail hc)
    · exact hf.2.2 c (List.mem_of_mem_take hc)
  have done : ∀ v, Txt v → OkA (.ok (.tup [.str [112, 108, 97, 99, 101], .str f, .str (dg kinds), .str v])) := fun v hv => ⟨_, rfl, .place f v kinds hf hv hk⟩
  cases c0 : (n / 6000 % 6 == 0)
  · cases c1 : (n / 6000 % 6 == 1)
    · cases c2 : (n / 6000 % 6 == 2)
      · have := done w hw
        simp [gA_10, f6, m6, c0, c1, c2, sk, z4, aw, sw, s1, s2, ff]
        exact this
      · have := done _ w3
        simp [gA_10, f6, m6, c0, c1, c2, sk, z4, aw, sw, s1, s2, ff]
        exact this
    · have c2 : (n / 6000 % 6 == 2) = false := by simp at c1 ⊢; omega
      by_cases c3 : 1 < size
      · have c3' : (1 : Int) < size := by omega
        have := done _ (w2 c3)
        simp [gA_10, f6, m6, c0, c1, c2, c3, c3', sk, z4, aw, sw, s1, s2, ff]
        exact this
      · have c3' : ¬ (1 : Int) < size := by omega
        have := done w hw
        simp [gA_10, f6, m6, c0, c1, c2, c3, c3', sk, z4, aw, sw, s1, s2, ff]
        exact this
  · have c1 : (n / 6000 % 6 == 1) = false := by simp at c0 ⊢; omega
    have c2 : (n / 6000 % 6 == 2) = false := by simp at c0 ⊢; omega
    have := done _ w1
    simp [gA_10, f6, m6, c0, c1, c2, sk, z4, aw, sw, s1, s2, ff]
    exact this
theorem ask_8 (x n : Int) (far : Nat) (bb : Bool) (kinds size many : Nat) (f : List Nat) (hf : Txt f) (hn : 0 ≤ n) (hn2 : n < 2147483629) (hk : kinds < 10 ^ 60) (hfar : far < 10 ^ 59) (hs : 1 ≤ size ∧ size ≤ 30) (hm : 1 ≤ many ∧ many ≤ 6) :
    OkA (fin false (gA_8 [.sh (.int x), .sh (.bl bb), .sh (.int n), .sh (.int far), .sh (.int kinds), .sh (.int size), .sh (.int many), .sh (.str f), .no, .no, .no])) := by
  have f3 := fdivD_s n 3000 (by omega) (by omega)
  have f6 := fdivD_s n 6000 (by omega) (by omega)
  have f12 := fdivD_s n 12000 (by omega) (by omega)
  have m3 := modD_i (n / 3000) 2 (by omega)
  have m6 := modD_i (n / 6000) 2 (by omega)
  have m12 := modD_i (n / 12000) 7 (by omega)
  have sk := str60 hk
  have z2 : (2 : Nat) ≤ SZ := le_sz (by omega)
  have z7 : (7 : Nat) ≤ SZ := le_sz (by omega)
  have z5 : (5 : Nat) ≤ SZ := le_sz (by omega)
  have p60 : powD (.int 10) (.int 60) = .ok (.int (10 ^ 60)) := powD_i 10 60 (by omega) (by omega) (by omega)
  have mg := modD_i x (10 ^ 60) (by omega)
  have bg := Int.emod_nonneg x (show (10 ^ 60 : Int) ≠ 0 by omega)
  have bg2 := Int.emod_lt_of_pos x (show (0 : Int) < 10 ^ 60 by omega)
  cases c0 : (n / 3000 % 2 == 0)
  · obtain ⟨y, hy, hy0, hyb⟩ := stir_b x 43 (by omega)
    obtain ⟨w, ew, wl, wt⟩ := law_text_ok y size many hs hm
    have := ask_10 x 0 n far bb kinds size many f w hf wt wl hn hk hs
    simp [gA_8, gA_9, f3, m3, c0, hy, ew]
    exact this
  · obtain ⟨p, -, pb, ep⟩ := pick_nat [n / 6000, x % 10 ^ 60] 2 (n / 6000) rfl (by omega) (10 ^ 60) (by
      intro v hv
      simp only [List.mem_cons, List.not_mem_nil, or_false] at hv
      rcases hv with rfl | rfl
      · omega
      · exact ⟨bg, bg2⟩)
    obtain ⟨q, -, qb, eq⟩ := pick_nat [0, 1, 7, 30, 200, 201, 201 + (far : Int)] 7 (n / 12000) rfl (by omega) (10 ^ 60) (by
      intro v hv
      simp only [List.mem_cons, List.not_mem_nil, or_false] at hv
      rcases hv with rfl | rfl | rfl | rfl | rfl | rfl | rfl <;> omega)
    have sp := str60 (n := p) (by omega)
    have sq := str60 (n := q) (by omega)
    simp only [List.map_cons, List.map_nil] at ep eq
    have done : OkA (.ok (.tup [.str [112, 105, 101, 99, 101], .str f, .str (dg kinds), .str (dg p), .str (dg q)])) := ⟨_, rfl, .piece f kinds p q hf hk (by omega) (by omega)⟩
    clear pb qb
    generalize (10 : Int) ^ 60 = T at *
    simp [gA_8, f3, m3, c0, f6, m6, p60, mg, ep, eq, f12, m12, z2, z7, z5, sk, sp, sq]
    exact done
theorem ask_5 (x n : Int) (far : Nat) (bb : Bool) (kinds size : Nat) (hn : 0 ≤ n) (hn2 : n < 2147483629) (hk : kinds < 10 ^ 60) (hfar : far < 10 ^ 59) (hs : 1 ≤ size ∧ size ≤ 30) :
    OkA (fin false (gA_5 [.sh (.int x), .sh (.bl bb), .sh (.int n), .sh (.int far), .sh (.int kinds), .sh (.int size), .no, .no, .no, .no, .no])) := by
  obtain ⟨many, hmany⟩ : ∃ many : Nat, many = max 1 (min 6 kinds) := ⟨_, rfl⟩
  have hmi : max 1 (min 6 (kinds : Int)) = (many : Nat) := by omega
  have hm : 1 ≤ many ∧ many ≤ 6 := by omega
  clear hmany
  obtain ⟨y, hy, hy0, hyb⟩ := stir_b x 42 (by omega)
  obtain ⟨f, ef, fl, ft⟩ := law_text_ok y size many hs hm
  have f600 := fdivD_s n 600 (by omega) (by omega)
  have m5 := modD_i (n / 600) 5 (by omega)
  have hf0 : f ≠ [] := by intro e; subst e; simp at fl; omega
  have le := law_least_ok f hf0 (by omega)
  by_cases c : 0 < n / 600 % 5
  · have := ask_8 x n far bb kinds size many (lrot f) ft.lrot hn hn2 hk hfar hs hm
    simp [gA_5, hmi, hy, ef, f600, m5, c, le]
    exact this
  · have := ask_8 x n far bb kinds size many f ft hn hn2 hk hfar hs hm
    simp [gA_5, hmi, hy, ef, f600, m5, c]
    exact this
theorem ask_4 (x n : Int) (far : Nat) (bb : Bool) (kinds size : Nat) (hn : 0 ≤ n) (hn2 : n < 2147483629) (hk : kinds < 10 ^ 60) (hfar : far < 10 ^ 59) (hs : 1 ≤ size ∧ size ≤ 30) :
    OkA (fin false (gA_4 [.sh (.int x), .sh (.bl bb), .sh (.int n), .sh (.int far), .sh (.int kinds), .sh (.int size), .no, .no, .no, .no, .no])) := by
  cases bb with
  | false =>
    have := ask_5 x n far false kinds size hn hn2 hk hfar hs
    simp [gA_4]
    exact this
  | true =>
    have f10 := fdivD_s n 10 (by omega) (by omega)
    have f300 := fdivD_s n 300 (by omega) (by omega)
    have m4 := modD_i (n / 10) 4 (by omega)
    have m3 := modD_i (n / 300) 3 (by omega)
    have z3 : (3 : Nat) ≤ SZ := le_sz (by omega)
    obtain ⟨q, hq, qb, eq⟩ := pick_nat [9 + n / 10 % 4, 25, 26] 3 (n / 300) rfl (by omega) 30 (by
      intro v hv
      simp only [List.mem_cons, List.not_mem_nil, or_false] at hv
      rcases hv with rfl | rfl | rfl <;> omega)
    have hq2 : 1 ≤ q := by
      simp only [List.mem_cons, List.not_mem_nil, or_false] at hq
      rcases hq with e | e | e <;> omega
    simp only [List.map_cons, List.map_nil] at eq
    clear hq
    by_cases c : (q : Int) < 25
    · by_cases c2 : 2 < (kinds : Int)
      · by_cases c3 : (kinds : Int) < 7
        · have := ask_5 x n far true 2 q hn hn2 (by decide) hfar (by omega)
          have c2' : 2 < kinds := by omega
          have c3' : kinds < 7 := by omega
          simp [gA_4, f10, m4, z3, f300, m3, eq, c, c2, c3, c2', c3']
          exact this
        · have := ask_5 x n far true kinds q hn hn2 hk hfar (by omega)
          have c2' : 2 < kinds := by omega
          have c3' : ¬ kinds < 7 := by omega
          simp [gA_4, f10, m4, z3, f300, m3, eq, c, c2, c3, c2', c3']
          exact this
      · have := ask_5 x n far true kinds q hn hn2 hk hfar (by omega)
        have c2' : ¬ 2 < kinds := by omega
        simp [gA_4, f10, m4, z3, f300, m3, eq, c, c2, c2']
        exact this
    · have := ask_5 x n far true kinds q hn hn2 hk hfar (by omega)
      simp [gA_4, f10, m4, z3, f300, m3, eq, c]
      exact this
theorem law_ask_ok (x : Int) (bb : Bool) : OkA (f_law_ask [.int x, .bl bb]) := by
  obtain ⟨z, hz, hz0, hzb⟩ := stir_b x 41 (by omega)
  have fz := fdivD_s z 7 (by omega) (by omega)
  have hn : 0 ≤ z / 7 := by omega
  have hn2 : z / 7 < 2147483629 := by omega
  generalize z / 7 = n at *
  have p59 : powD (.int 10) (.int 59) = .ok (.int (10 ^ 59)) := powD_i 10 59 (by omega) (by omega) (by omega)
  have mf := modD_i x (10 ^ 59) (by omega)
  have bf := Int.emod_nonneg x (show (10 ^ 59 : Int) ≠ 0 by omega)
  have bf2 := Int.emod_lt_of_pos x (show (0 : Int) < 10 ^ 59 by omega)
  obtain ⟨far, hfar⟩ : ∃ far : Nat, x % 10 ^ 59 = (far : Nat) := ⟨(x % 10 ^ 59).toNat, by omega⟩
  rw [hfar] at mf bf2
  have hfb : far < 10 ^ 59 := by omega
  have m11 := modD_i n 11 (by omega)
  have f10 := fdivD_s n 10 (by omega) (by omega)
  have z11 : (11 : Nat) ≤ SZ := le_sz (by omega)
  obtain ⟨kinds, -, kb, ek⟩ := pick_nat [1, 2, 3, 4, 5, 6, 2, 3, 0, 7, 7 + (far : Int)] 11 n rfl (by omega) (10 ^ 60) (by
    intro v hv
    simp only [List.mem_cons, List.not_mem_nil, or_false] at hv
    rcases hv with rfl | rfl | rfl | rfl | rfl | rfl | rfl | rfl | rfl | rfl | rfl <;> omega)
  have hkb : kinds < 10 ^ 60 := by omega
  obtain ⟨sz, hsz, sb, es⟩ := pick_nat [8, 8, 6, 5, 4, 4, 8, 6, 8, 8, 8] 11 n rfl (by omega) 9 (by
    intro v hv
    simp only [List.mem_cons, List.not_mem_nil, or_false] at hv
    rcases hv with rfl | rfl | rfl | rfl | rfl | rfl | rfl | rfl | rfl | rfl | rfl <;> omega)
  have hsz2 : 1 ≤ sz := by
    simp only [List.mem_cons, List.not_mem_nil, or_false] at hsz
    rcases hsz with e | e | e | e | e | e | e | e | e | e | e <;> omega
  clear hsz kb
  have ms := modD_i (n / 10) (sz : Int) (by omega)
  have s0 := Int.emod_nonneg (n / 10) (show (sz : Int) ≠ 0 by omega)
  have s1 := Int.emod_lt_of_pos (n / 10) (show (0 : Int) < sz by omega)
  obtain ⟨size, hsize⟩ : ∃ size : Nat, 1 + n / 10 % (sz : Int) = (size : Nat) := ⟨(1 + n / 10 % (sz : Int)).toNat, by omega⟩
  have := ask_4 x n far bb kinds size hn hn2 hkb hfb (by omega)
  simp only [List.map_cons, List.map_nil] at ek es
  clear bf bf2
  generalize (10 : Int) ^ 59 = T at *
  simp [f_law_ask, m_cutA, runB_s, List.replicate, hz, fz, p59, mf, hfar, m11, z11, ek, f10, es, ms, hsize]
  exact this
def Res (r : R D) : Prop := (∃ t, r = .ok (.str t)) ∨ ∃ c, (c = 1 ∨ c = 2 ∨ c = 3 ∨ c = 5) ∧ r = .ex c []
theorem piece_res (f : List Nat) (hl : f.length ≤ 60) (k p m : Nat) : Res (f_piece_at [.str f, .int (k : Nat), .int (p : Nat), .int (m : Nat)]) := by
  by_cases hk : 1 ≤ k ∧ k ≤ 6
  · by_cases hg : goodW f k = true
    · by_cases hN : Nk f
      · by_cases hm : m ≤ 200
        · exact .inl ⟨_, piece_at_ok f k m p hk.1 hk.2 hg hN hm⟩
        · exact .inr ⟨3, by simp, piece_at_many f k p m hk.1 hk.2 hg hN (by omega)⟩
      · exact .inr ⟨2, by simp, piece_at_bad' f _ _ k hk.1 hk.2 (by omega) (.inr hN)⟩
    · exact .inr ⟨2, by simp, piece_at_bad' f _ _ k hk.1 hk.2 (by omega) (.inl (by simpa using hg))⟩
  · exact .inr ⟨1, by simp, piece_at_badk' _ _ _ k (by omega)⟩
theorem place_res (f w : List Nat) (hl : f.length ≤ 60) (hw : w.length ≤ 60) (k : Nat) : Res ((f_place_of [.str f, .int (k : Nat), .str w]).bind fun x => strD [x]) := by
  by_cases hk : 1 ≤ k ∧ k ≤ 6
  · obtain ⟨h1, h2⟩ := hk
    by_cases hg : goodW f k = true
    · by_cases hN : Nk f
      · by_cases gw : goodW w k = true
        · by_cases hwl : w.length = f.length
          · by_cases hlt : lrot w < f
            · rw [place_of_such f w k h1 h2 hg hN gw hwl hlt]
              exact .inr ⟨5, by simp, rfl⟩
            · obtain ⟨P, hP, e, -⟩ := place_of_ok f w k h1 h2 hg hN gw hwl hlt
              rw [e]
              obtain ⟨g1, g2, g3⟩ := goodW_iff.mp hg
              have h0 : f ≠ [] := List.length_pos_iff.mp (by omega)
              have hG := (good_iff_goodW.mp ⟨hg, hN⟩).2.2
              have ht := ring_total h1 h2 g1 hG
              have hr := (rlen_spec h0).1
              have hr2 : rlen f ≤ f.length := by have := (rlen_spec h0).2; omega
              have hp : k ^ f.length ≤ 6 ^ 24 := Nat.le_trans (Nat.pow_le_pow_left h2 _) (Nat.pow_le_pow_right (by omega) g2)
              have hb : P < 10 ^ 60 := by
                have : (6 : Nat) ^ 24 + 24 < 10 ^ 60 := by decide
                omega
              exact .inl ⟨dg P, str60 hb⟩
          · rw [place_of_badl f w k h1 h2 hg hN gw hwl]
            exact .inr ⟨2, by simp, rfl⟩
        · rw [place_of_badw f w k h1 h2 hg hN (by omega) (by simpa using gw)]
          exact .inr ⟨2, by simp, rfl⟩
      · rw [place_of_bad f _ k h1 h2 (by omega) (.inr hN)]
        exact .inr ⟨2, by simp, rfl⟩
    · rw [place_of_bad f _ k h1 h2 (by omega) (.inl (by simpa using hg))]
      exact .inr ⟨2, by simp, rfl⟩
  · rw [place_of_badk _ _ (k : Int) (by omega)]
    exact .inr ⟨1, by simp, rfl⟩
theorem int60 {n : Nat} (h : n < 10 ^ 60) : intY [.str (dg n)] = .ok (.int (n : Nat)) := intY_dg n (Nat.lt_trans h (Nat.pow_lt_pow_right (by decide) (by decide)))
theorem ask_told {ask : List (List Nat)} (h : AskOk ask) (W : D) : ∃ t, f_law_due [askD ask] = .ok (.str t) ∧ f_answered [W, askD ask] = .ok (.str t) := by
  have z8 : ∀ n : Nat, n ≤ 60 → n ≤ SZ := fun n hn => le_sz (by omega)
  have rn : ∀ c, (c = 1 ∨ c = 2 ∨ c = 3 ∨ c = 5) → f_refused_name [.exc c []] = .ok (.str (if c = 2 then [66, 97, 100, 87, 111, 114, 100] else if c = 3 then [84, 111, 111, 77, 97, 110, 121] else if c = 5 then [78, 111, 83, 117, 99, 104] else [66, 97, 100, 75, 105, 110, 100, 115])) := by
    rintro c (rfl | rfl | rfl | rfl) <;> simp [f_refused_name, m_refused_name, runB_s, List.replicate, isxD, isX]
  cases h with
  | piece f k p m hf hk hp hm =>
    have ik := int60 hk
    have ip := int60 hp
    have im := int60 hm
    have i0 : ixD (askD [[112, 105, 101, 99, 101], f, dg k, dg p, dg m]) (.int 0) = .ok (.str [112, 105, 101, 99, 101]) := ixD_t _ _ (by omega) _ rfl
    have i1 : ixD (askD [[112, 105, 101, 99, 101], f, dg k, dg p, dg m]) (.int 1) = .ok (.str f) := ixD_t _ _ (by omega) _ rfl
    have i2 : ixD (askD [[112, 105, 101, 99, 101], f, dg k, dg p, dg m]) (.int 2) = .ok (.str (dg k)) := ixD_t _ _ (by omega) _ rfl
    have i3 : ixD (askD [[112, 105, 101, 99, 101], f, dg k, dg p, dg m]) (.int 3) = .ok (.str (dg p)) := ixD_t _ _ (by omega) _ rfl
    have i4 : ixD (askD [[112, 105, 101, 99, 101], f, dg k, dg p, dg m]) (.int 4) = .ok (.str (dg m)) := ixD_t _ _ (by omega) _ rfl
    generalize askD [[112, 105, 101, 99, 101], f, dg k, dg p, dg m] = A at *
    rcases piece_res f hf.2.1 k p m with ⟨t, e⟩ | ⟨c, hc, e⟩
    · refine ⟨t, ?_, ?_⟩
      · simp [f_law_due, m_law_due, runB_s, List.replicate, i0, i1, i2, i3, i4, ik, ip, im, e]
      · have ft : f_far_told [A] = .ok (.str t) := by simp [f_far_told, m_far_told, runB_s, List.replicate, i0, i1, i2, i3, i4, ik, ip, im, e]
        have fa : f_far_answer [A] = .ok (.str t) := by simp [f_far_answer, m_far_answer, runB_s, List.replicate, ft]
        simp [f_answered, m_answered, runB_s, List.replicate, i0, fa]
    · have ft : f_far_told [A] = .ex c [] := by simp [f_far_told, m_far_told, runB_s, List.replicate, i0, i1, i2, i3, i4, ik, ip, im, e]
      have rn := rn c hc
      rcases hc with rfl | rfl | rfl | rfl
      all_goals
        simp at rn
        refine ⟨_, by simp [f_law_due, m_law_due, runB_s, List.replicate, i0, i1, i2, i3, i4, ik, ip, im, e, isX]; rfl, ?_⟩
        have ad := addT [114, 101, 102, 117, 115, 101, 100, 32] [66, 97, 100, 75, 105, 110, 100, 115] (by simp)
        have ad2 := addT [114, 101, 102, 117, 115, 101, 100, 32] [66, 97, 100, 87, 111, 114, 100] (by simp)
        have ad3 := addT [114, 101, 102, 117, 115, 101, 100, 32] [84, 111, 111, 77, 97, 110, 121] (by simp)
        have ad5 := addT [114, 101, 102, 117, 115, 101, 100, 32] [78, 111, 83, 117, 99, 104] (by simp)
        simp at ad ad2 ad3 ad5
        have fa := show f_far_answer [A] = _ by simp [f_far_answer, m_far_answer, runB_s, List.replicate, ft, isX, rn, ad, ad2, ad3, ad5]; rfl
        simp [f_answered, m_answered, runB_s, List.replicate, i0, fa]
  | place f w k hf hw hk =>
    have ik := int60 hk
    have i0 : ixD (askD [[112, 108, 97, 99, 101], f, dg k, w]) (.int 0) = .ok (.str [112, 108, 97, 99, 101]) := ixD_t _ _ (by omega) _ rfl
    have i1 : ixD (askD [[112, 108, 97, 99, 101], f, dg k, w]) (.int 1) = .ok (.str f) := ixD_t _ _ (by omega) _ rfl
    have i2 : ixD (askD [[112, 108, 97, 99, 101], f, dg k, w]) (.int 2) = .ok (.str (dg k)) := ixD_t _ _ (by omega) _ rfl
    have i3 : ixD (askD [[112, 108, 97, 99, 101], f, dg k, w]) (.int 3) = .ok (.str w) := ixD_t _ _ (by omega) _ rfl
    generalize askD [[112, 108, 97, 99, 101], f, dg k, w] = A at *
    have pr := place_res f w hf.2.1 hw.2.1 k
    cases e : f_place_of [.str f, .int (k : Nat), .str w] with
    | ok d =>
      rw [e] at pr
      have pr : Res (strD [d]) := pr
      rcases pr with ⟨t, e2⟩ | ⟨c, -, e2⟩
      · refine ⟨t, ?_, ?_⟩
        · simp [f_law_due, m_law_due, runB_s, List.replicate, i0, i1, i2, i3, ik, e, e2]
        · have ft : f_far_told [A] = .ok (.str t) := by simp [f_far_told, m_far_told, runB_s, List.replicate, i0, i1, i2, i3, ik, e, e2]
          have fa : f_far_answer [A] = .ok (.str t) := by simp [f_far_answer, m_far_answer, runB_s, List.replicate, ft]
          simp [f_answered, m_answered, runB_s, List.replicate, i0, fa]
      · exact (strD_ne _ _ _ e2).elim
    | ex c vs =>
      rw [e] at pr
      have pr : Res (.ex c vs) := pr
      rcases pr with ⟨t, e2⟩ | ⟨c', hc, e2⟩
      · cases e2
      cases e2
      have ft : f_far_told [A] = .ex c [] := by simp [f_far_told, m_far_told, runB_s, List.replicate, i0, i1, i2, i3, ik, e]
      have rn := rn c hc
      rcases hc with rfl | rfl | rfl | rfl
      all_goals
        simp at rn
        refine ⟨_, by simp [f_law_due, m_law_due, runB_s, List.replicate, i0, i1, i2, i3, ik, e, isX]; rfl, ?_⟩
        have ad := addT [114, 101, 102, 117, 115, 101, 100, 32] [66, 97, 100, 75, 105, 110, 100, 115] (by simp)
        have ad2 := addT [114, 101, 102, 117, 115, 101, 100, 32] [66, 97, 100, 87, 111, 114, 100] (by simp)
        have ad3 := addT [114, 101, 102, 117, 115, 101, 100, 32] [84, 111, 111, 77, 97, 110, 121] (by simp)
        have ad5 := addT [114, 101, 102, 117, 115, 101, 100, 32] [78, 111, 83, 117, 99, 104] (by simp)
        simp at ad ad2 ad3 ad5
        have fa := show f_far_answer [A] = _ by simp [f_far_answer, m_far_answer, runB_s, List.replicate, ft, isX, rn, ad, ad2, ad3, ad5]; rfl
        simp [f_answered, m_answered, runB_s, List.replicate, i0, fa]
    | bad =>
      rw [e] at pr
      have pr : Res .bad := pr
      rcases pr with ⟨t, e2⟩ | ⟨c', hc, e2⟩ <;> cases e2
theorem ask_row {ask : List (List Nat)} (h : AskOk ask) : ask ≠ [] ∧ ask.length ≤ 5 ∧ (∀ w ∈ ask, w.length ≤ 60 ∧ 32 ∉ w ∧ 10 ∉ w) ∧ ∃ w r, ask = w :: r ∧ kindW w r = 3 := by
  have dgL : ∀ n : Nat, n < 10 ^ 60 → (dg n).length ≤ 60 ∧ 32 ∉ dg n ∧ 10 ∉ dg n := fun n hn => ⟨dg_len (by omega) hn, fun h => by have := dg_all n 32 h; omega, fun h => by have := dg_all n 10 h; omega⟩
  have txL : ∀ f, Txt f → f.length ≤ 60 ∧ 32 ∉ f ∧ 10 ∉ f := fun f hf => ⟨hf.2.1, fun h => by have := hf.2.2 32 h; omega, fun h => by have := hf.2.2 10 h; omega⟩
  cases h with
  | piece f k p m hf hk hp hm =>
    refine ⟨by simp, by simp, ?_, _, _, rfl, ?_⟩
    · intro w hw
      simp only [List.mem_cons, List.not_mem_nil, or_false] at hw
      rcases hw with rfl | rfl | rfl | rfl | rfl
      · decide
      · exact txL _ hf
      · exact dgL _ hk
      · exact dgL _ hp
      · exact dgL _ hm
    · rw [kindW_other (by decide) (by decide) (by decide) (by decide) (by decide)]
      have : lookT fT [112, 105, 101, 99, 101] = some [116, 110, 110, 110] := rfl
      rw [this]
      dsimp only
      rw [if_pos]
      unfold fitsB
      simp [okB, hf.B, numB_dg hk, numB_dg hp, numB_dg hm]
  | place f w k hf hw hk =>
    refine ⟨by simp, by simp, ?_, _, _, rfl, ?_⟩
    · intro v hv
      simp only [List.mem_cons, List.not_mem_nil, or_false] at hv
      rcases hv with rfl | rfl | rfl | rfl
      · decide
      · exact txL _ hf
      · exact dgL _ hk
      · exact txL _ hw
    · rw [kindW_other (by decide) (by decide) (by decide) (by decide) (by decide)]
      have : lookT fT [112, 108, 97, 99, 101] = some [116, 110, 116] := rfl
      rw [this]
      dsimp only
      rw [if_pos]
      unfold fitsB
      simp [okB, hf.B, hw.B, numB_dg hk]
theorem ask_line {ask : List (List Nat)} (h : AskOk ask) : wds (TL.joinL [32] ask) = ask ∧ kd (TL.joinL [32] ask) = 3 ∧ (TL.joinL [32] ask).length ≤ 400 ∧ 10 ∉ TL.joinL [32] ask := by
  obtain ⟨h0, h5, hw, w, r, e, hk⟩ := ask_row h
  have hs : splL 32 (TL.joinL [32] ask) = ask := spl_join 32 ask h0 fun w hw' => (hw w hw').2.1
  have hs' : wds (TL.joinL [32] ask) = ask := hs
  refine ⟨hs', ?_, ?_, ?_⟩
  · unfold kd
    rw [hs', e]
    exact hk
  · have h1 := join_len 32 ask
    have h2 := wsum_le ask 60 fun w hw' => (hw w hw').1
    have h3 : ask.length * 61 ≤ 5 * 61 := Nat.mul_le_mul_right _ h5
    omega
  · intro hm
    rcases joinL_mem hm with hm | ⟨y, hy, hm⟩
    · simp at hm
    · exact (hw y hy).2.2 hm
theorem due_3 : ∀ (rows : List (List Nat)) (k : Nat) (l : Nat), (∀ r ∈ rows, kd r = 3) → dueF rows k (some l) = 0
  | [], _, _, _ => rfl
  | r :: rows, k, l, h => by
    have h3 := h r (List.mem_cons_self ..)
    unfold dueF
    rw [h3, if_pos (by simp [mayB])]
    exact due_3 rows (k + 1) 3 fun x hx => h x (List.mem_cons_of_mem _ hx)
theorem read_3 : ∀ (asks : List (List (List Nat))) (st : List (List Nat) × List (List (List Nat))), (∀ a ∈ asks, AskOk a) → (asks.map (TL.joinL [32])).foldl stepW st = (st.1, st.2 ++ asks)
  | [], st, _ => by simp
  | a :: asks, st, h => by
    obtain ⟨h1, h2, -, -⟩ := ask_line (h a (List.mem_cons_self ..))
    rw [List.map_cons, List.foldl_cons, read_3 asks _ fun x hx => h x (List.mem_cons_of_mem _ hx)]
    unfold stepW
    rw [if_neg (by omega), if_neg (by omega), h1]
    simp
def rwA : List Nat := [119, 111, 114, 100, 115, 32, 97, 98]
def rwB : List Nat := [119, 111, 114, 100, 115, 32, 98, 97]
noncomputable def tOf (ask : List (List Nat)) : List Nat := match f_law_due [askD ask] with
  | .ok (.str t) => t
  | _ => []
theorem tOf_due {ask : List (List Nat)} (h : AskOk ask) (W : D) : f_law_due [askD ask] = .ok (.str (tOf ask)) ∧ f_answered [W, askD ask] = .ok (.str (tOf ask)) := by
  obtain ⟨t, h1, h2⟩ := ask_told h W
  have : tOf ask = t := by unfold tOf; rw [h1]
  rw [this]
  exact ⟨h1, h2⟩
theorem answers_ok (asks : List (List (List Nat))) (h : ∀ a ∈ asks, AskOk a) (hl : asks.length ≤ 6) :
    ∃ X, joinM (.str [10]) [.lst ((rwA :: rwB :: asks.map (TL.joinL [32])).map .str)] = .ok (.str X) ∧ f_answers [.str X] = .ok (.lst ((asks.map tOf).map .str)) := by
  obtain ⟨rows, hrows⟩ : ∃ rows, rows = rwA :: rwB :: asks.map (TL.joinL [32]) := ⟨_, rfl⟩
  have hb : ∀ r ∈ rows, r.length ≤ 400 ∧ 10 ∉ r := by
    rw [hrows]
    intro r hr
    rcases List.mem_cons.mp hr with rfl | hr
    · decide
    rcases List.mem_cons.mp hr with rfl | hr
    · decide
    obtain ⟨a, ha, rfl⟩ := List.mem_map.mp hr
    obtain ⟨-, -, h3, h4⟩ := ask_line (h a ha)
    exact ⟨h3, h4⟩
  have hrl : rows.length ≤ 8 := by rw [hrows]; simp; omega
  have hws := wsum_le rows 400 fun r hr => (hb r hr).1
  have hws2 : rows.length * 401 ≤ 8 * 401 := Nat.mul_le_mul_right _ hrl
  rw [← hrows]
  refine ⟨TL.joinL [10] rows, joinM_sp 10 rows (by omega), ?_⟩
  have hX : (TL.joinL [10] rows).length ≤ 800000 := Nat.le_trans (join_len 10 rows) (by omega)
  have hs : splL 10 (TL.joinL [10] rows) = rows := spl_join 10 rows (by rw [hrows]; simp) fun r hr => (hb r hr).2
  have k1 : kd rwA = 1 := by decide +kernel
  have k2 : kd rwB = 1 := by decide +kernel
  have w1 : (wds rwA).tail = [[97, 98]] := by decide +kernel
  have w2 : (wds rwB).tail = [[98, 97]] := by decide +kernel
  have k3 : ∀ r ∈ asks.map (TL.joinL [32]), kd r = 3 := by
    intro r hr
    obtain ⟨a, ha, rfl⟩ := List.mem_map.mp hr
    exact (ask_line (h a ha)).2.1
  have hd : dueF rows 0 none = 0 := by
    rw [hrows]
    unfold dueF
    rw [k1, if_pos (by rfl)]
    unfold dueF
    rw [k2, if_pos (by rfl)]
    exact due_3 _ _ _ k3
  have hn0 : ∀ r ∈ rows, kd r ≠ 0 := by
    rw [hrows]
    intro r hr
    rcases List.mem_cons.mp hr with rfl | hr
    · omega
    rcases List.mem_cons.mp hr with rfl | hr
    · omega
    have := k3 r hr
    omega
  have hr : readW rows = ([[97, 98], [98, 97]], asks) := by
    unfold readW
    rw [hrows, List.foldl_cons, List.foldl_cons, read_3 asks _ h]
    unfold stepW
    rw [if_pos k1, if_pos k2, w1, w2]
    rfl
  generalize TL.joinL [10] rows = X at *
  have rp := read_page_exact X hX (by rw [hs]; exact hd) (by rw [hs]; exact hn0)
  rw [hs, hr] at rp
  have wb := web_l [[97, 98], [98, 97]] (by simp)
  have wr : ∃ vs, webR [[97, 98], [98, 97]] = .ok vs := by
    unfold webR
    rw [if_neg (by decide), if_pos (by decide)]
    exact ⟨_, rfl⟩
  obtain ⟨vs, ev⟩ := wr
  rw [ev] at wb
  have rp : f_read_page [.str X] = .ok (.tup [.obj 2 vs, .lst (asks.map askD)]) := by rw [rp, wb]; rfl
  have cm : rComp (mapD (cStep (gN 3) [3] cYes (eCall f_answered (aCons (eV 1) (aCons (eV 3) aNil))) [.sh (.str X), .sh (.obj 2 vs), .sh (.lst (asks.map askD)), .no]) (asks.map askD)) = .ok (.lst ((asks.map tOf).map .str)) := by
    rw [comp_mapped askD (fun a => .str (tOf a)) asks (by omega) (fun a ha => by
      have := (tOf_due (h a ha) (.obj 2 vs)).2
      simp [cStep_s, gN, setS_s, this]), List.map_map]
    rfl
  simp [f_answers, m_answers, runB_s, List.replicate, rp, gT, gN, setS_s, -rComp_ok]
  rw [cm]
  simp
noncomputable def aOf (b : Bool) (x : Int) : List (List Nat) := Classical.choose (law_ask_ok x b)
theorem aOf_ok (b : Bool) (x : Int) : f_law_ask [.int x, .bl b] = .ok (askD (aOf b x)) ∧ AskOk (aOf b x) := Classical.choose_spec (law_ask_ok x b)
theorem main : ∀ ns : List Int, ns.length ≤ 63 → f_law [.lst (ns.map .int)] = .ok (.bl true) := by
  intro ns hn
  have ct : cutL (ns.map D.int) none (some 5) = (ns.take 5).map D.int := by rw [cutL_to _ _ (by omega), List.map_take]; rfl
  have tl : (ns.take 5).length ≤ 5 := by rw [List.length_take]; omega
  obtain ⟨asks, hasks⟩ : ∃ asks, asks = (ns.take 5).map (aOf false) ++ [aOf true ns.sum] := ⟨_, rfl⟩
  have hok : ∀ a ∈ asks, AskOk a := by
    rw [hasks]
    intro a ha
    rcases List.mem_append.mp ha with ha | ha
    · obtain ⟨x, -, rfl⟩ := List.mem_map.mp ha
      exact (aOf_ok false x).2
    · rw [List.mem_singleton.mp ha]
      exact (aOf_ok true _).2
  have hal : asks.length ≤ 6 := by rw [hasks]; simp; omega
  have wb := web_l [[97, 98], [98, 97]] (by simp)
  have wr : ∃ vs, webR [[97, 98], [98, 97]] = .ok vs := by
    unfold webR
    rw [if_neg (by decide), if_pos (by decide)]
    exact ⟨_, rfl⟩
  obtain ⟨vs, ev⟩ := wr
  rw [ev] at wb
  have c1 : rComp (mapD (cStep (gN 7) [7] cYes (eCall f_law_ask (aCons (eV 7) (aCons (eC (.bl false)) aNil))) [.sh (.lst (ns.map .int)), .sh (.obj 2 vs), .no, .no, .no, .no, .no, .no]) ((ns.take 5).map D.int)) = .ok (.lst (((ns.take 5).map (aOf false)).map askD)) := by
    rw [comp_mapped D.int (fun x => askD (aOf false x)) (ns.take 5) (by omega) (fun x hx => by
      have := (aOf_ok false x).1
      simp [cStep_s, gN, setS_s, this]), List.map_map]
    rfl
  have al := (aOf_ok true ns.sum).1
  have ad : addD (.lst (((ns.take 5).map (aOf false)).map askD)) (.lst [askD (aOf true ns.sum)]) = .ok (.lst (asks.map askD)) := by
    rw [addD_l, if_pos (le_sz (by simp; omega)), hasks, List.map_append]
    rfl
  have c2 : rComp (mapD (cStep (gN 4) [4] cYes (eCall f_law_due (aCons (eV 4) aNil)) [.sh (.lst (ns.map .int)), .sh (.obj 2 vs), .sh (.lst (asks.map askD)), .no, .no, .no, .no, .no]) (asks.map askD)) = .ok (.lst ((asks.map tOf).map .str)) := by
    rw [comp_mapped askD (fun a => .str (tOf a)) asks (by omega) (fun a ha => by
      have := (tOf_due (hok a ha) .non).1
      simp [cStep_s, gN, setS_s, this]), List.map_map]
    rfl
  have z1 : (1 : Nat) ≤ SZ := le_sz (by omega)
  have z2 : (2 : Nat) ≤ SZ := le_sz (by omega)
  have zp : zipW (asks.map askD) ((asks.map tOf).map .str) = asks.map fun a => .tup [askD a, .str (tOf a)] := by
    clear hok hal c2 ad hasks
    unfold zipW
    induction asks with
    | nil => rfl
    | cons a r ih => simp only [List.map_cons, List.zipWith_cons_cons] at ih ⊢; rw [ih]
  clear hasks
  obtain ⟨L1, hL1⟩ : ∃ L1 : List D, L1 = ((ns.take 5).map (aOf false)).map askD := ⟨_, rfl⟩
  rw [← hL1] at c1 ad
  obtain ⟨N5, hN5⟩ : ∃ N5 : List D, N5 = (ns.take 5).map D.int := ⟨_, rfl⟩
  rw [← hN5] at c1 ct
  obtain ⟨AD, hAD⟩ : ∃ AD : List D, AD = asks.map askD := ⟨_, rfl⟩
  obtain ⟨TD, hTD⟩ : ∃ TD : List D, TD = (asks.map tOf).map .str := ⟨_, rfl⟩
  rw [← hAD] at ad c2
  rw [← hTD] at c2
  rw [← hAD, ← hTD] at zp
  simp only [List.map_cons, List.map_nil] at wb
  generalize aOf true ns.sum = la at *
  simp [f_law, m_law, runB_s, List.replicate, z2, wb, ct, -rComp_ok]
  rw [c1]
  simp [al, z1, ad, -rComp_ok]
  rw [c2]
  simp [zp, -rComp_ok]
  refine forM_then (c := fun a => D.tup [askD a, D.str (tOf a)]) (xs := asks) (k := fun r => fin false (bnd r _)) (fun i s => ∃ (a b c : Sl), s = [.sh (.lst (ns.map .int)), .sh (.obj 2 vs), .sh (.lst AD), .sh (.lst TD), a, b, c, .no] ∧ canS (some a) = true ∧ canS (some b) = true ∧ canS (some c) = true) ⟨_, _, _, rfl, rfl, rfl, rfl⟩ ?_ ?_
  · rintro i a s ha ⟨x, y, z, rfl, hx, hy, hz⟩
    have hm := List.mem_of_getElem? ha
    have ta := (tOf_due (hok a hm) (.obj 2 vs)).2
    exact ⟨_, by simp [turn_s, hx, hy, hz, gT, gN, setS_s, ta], .sh (askD a), .sh (.str (tOf a)), .sh (.str (tOf a)), rfl, rfl, rfl, rfl⟩
  · rintro s ⟨x, y, z, rfl, hx, hy, hz⟩
    obtain ⟨X, eX, eA⟩ := answers_ok asks hok hal
    have cx : rComp (mapD (cStep (gN 4) [4] cYes (eM "str" joinT (eC (.str [32])) (aCons (eR 4) aNil)) [.sh (.lst (ns.map .int)), .sh (.obj 2 vs), .sh (.lst AD), .sh (.lst TD), x, y, z, .no]) AD) = .ok (.lst ((asks.map (TL.joinL [32])).map .str)) := by
      rw [hAD, comp_mapped askD (fun a => .str (TL.joinL [32] a)) asks (by omega) (fun a ha => by
        obtain ⟨h0, h5, hw, -⟩ := ask_row (hok a ha)
        have h2 := wsum_le a 60 fun w hw' => (hw w hw').1
        have h3 : a.length * 61 ≤ 5 * 61 := Nat.mul_le_mul_right _ h5
        have jt : joinT (.str [32]) [askD a] = .ok (.str (TL.joinL [32] a)) := joinM_sp 32 a (by omega)
        simp [cStep_s, hx, hy, hz, gN, setS_s, jt]), List.map_map]
      rfl
    have a2 : addD (.lst [.str rwA, .str rwB]) (.lst ((asks.map (TL.joinL [32])).map .str)) = .ok (.lst ((rwA :: rwB :: asks.map (TL.joinL [32])).map .str)) := by
      rw [addD_l, if_pos (le_sz (by simp; omega))]
      rfl
    generalize (asks.map (TL.joinL [32])).map D.str = LD at *
    generalize (rwA :: rwB :: asks.map (TL.joinL [32])).map D.str = RD at *
    unfold rwA rwB at a2
    have eq : eqD (.lst TD) (.lst TD) = .ok (.bl true) := by
      rw [hTD, eqD_ls]
      simp
    rw [← hTD] at eA
    simp [z2, -rComp_ok]
    rw [cx]
    simp [a2, eX, eA, eq]
def topS (i : Nat) : Stmt := PySem.Challenge.pw_onceround_k81_answers_from_far.main.body.getD i (.Pass ⟨0, 0, 0, 0⟩)
structure TF (w : World) (K : PySem.W.Frag) (mg : Str → Option Value) (G : GE) : Prop where
  b_ : ∀ c A ns, G.xcl c = some (A, ns) → XCl K A
  c_ALL_LETTERS : ∃ tk, mg "ALL_LETTERS" = some (.str "abcdef" tk)
  c_FIGURES : ∃ tk, mg "FIGURES" = some (.str "0123456789" tk)
  c_LETTERS : ∃ tk, mg "LETTERS" = some (.str "abcdef" tk)
  c_LONGEST : ∃ tk, mg "LONGEST" = some (.int 24 tk)
  c_MOST_FIGURES : ∃ tk, mg "MOST_FIGURES" = some (.int 60 tk)
  c_MOST_LENGTH : ∃ tk, mg "MOST_LENGTH" = some (.int 8 tk)
  c_MOST_LETTERS_pages : ∃ tk, mg "MOST_LETTERS_pages" = some (.int 200 tk)
  c_MOST_LETTERS_primes : ∃ tk, mg "MOST_LETTERS_primes" = some (.int 24 tk)
  c_MOST_LETTERS_webs : ∃ tk, mg "MOST_LETTERS_webs" = some (.int 8 tk)
  c_MOST_PIECE : ∃ tk, mg "MOST_PIECE" = some (.int 200 tk)
  c_MOST_WORDS_pages : ∃ tk, mg "MOST_WORDS_pages" = some (.int 64 tk)
  c_MOST_WORDS_webs : ∃ tk, mg "MOST_WORDS_webs" = some (.int 64 tk)
  c_MOST_WORDS_words : ∃ tk, mg "MOST_WORDS_words" = some (.int 4096 tk)
  c_SIGNS : ∃ tk, mg "SIGNS" = some (.str "abcdef" tk)
  e_BadKinds : CatC K mg G "BadKinds" 1
  e_BadWord : CatC K mg G "BadWord" 2
  e_NoSuch : CatC K mg G "NoSuch" 5
  e_OnceError : CatC K mg G "OnceError" 0
  e_TooMany : CatC K mg G "TooMany" 3
  i_BadWord : AskC K mg G "BadWord" 2
  i_NoSuch : AskC K mg G "NoSuch" 5
  i_TooMany : AskC K mg G "TooMany" 3
  o_OnceError : BaseC K mg "OnceError"
  s_Web_length : SetC G 1 2 "length"
  s_Web_words : SetC G 0 1 "words"
  t_FORMS : TblC K w mg "FORMS" [([114, 105, 110, 103, 115], []), ([114, 111, 119, 115], []), ([110, 117, 109, 98, 101, 114], [116]), ([108, 101, 97, 100], [116, 116]), ([112, 105, 101, 99, 101], [116, 110, 110, 110]), ([112, 108, 97, 99, 101], [116, 110, 116])]
  x_BadKinds : RsC K mg G "BadKinds" 1
  x_BadWord : RsC K mg G "BadWord" 2
  x_NoSuch : RsC K mg G "NoSuch" 5
  x_TooMany : RsC K mg G "TooMany" 3
  z_enumerate : mg "enumerate" = none
  z_int : mg "int" = none
  z_isinstance : mg "isinstance" = none
  z_len : mg "len" = none
  z_max : mg "max" = none
  z_min : mg "min" = none
  z_range : mg "range" = none
  z_reversed : mg "reversed" = none
  z_set : mg "set" = none
  z_sorted : mg "sorted" = none
  z_str : mg "str" = none
  z_sum : mg "sum" = none
  z_tuple : mg "tuple" = none
  z_zip : mg "zip" = none
abbrev st_is_sound : Stmt := topS 15
theorem sc_is_sound : FnScope ["word", "sign"] ["word"] (defScope st_is_sound) := ⟨rfl, rfl, rfl, by decide +kernel, rfl, by decide +kernel, by decide +kernel⟩
theorem ok_is_sound {P : Program} {w : World} {K : PySem.W.Frag} {mg : Str → Option Value} {base : Heap} {G : GE} {f : Addr} {fd : FuncData} (hK : K = G.K) (T : TF w K mg G)  (Fu : Fun K "is_sound" "is_sound" st_is_sound f fd) :
    FnOk P w K mg base (L2.CX P w) 1 f fd ["word"] (spD G 1 f_is_sound false) :=
  fn_ok Fu sc_is_sound hK (by decide) (fun cdv A outer s H F E hr v =>
    (ss_cons (s_ifs (PW.pt (s_tor (t_lt v (s_b (s_bi lenD_ne (call_lenD v.K) rfl T.z_len (by decide +kernel) (s_bcons (s_r 0) s_bnil))) (s_b s_int)) (s_tor1 (t_gt v (s_b (s_bi lenD_ne (call_lenD v.K) rfl T.z_len (by decide +kernel) (s_bcons (s_r 0) s_bnil))) (s_b (s_gint rfl T.c_MOST_LETTERS_webs.choose_spec)))))) (ss_one (s_ret s_bl)) ss_nil)
    (ss_cons (s_for v (s_iter v (s_v 0)) (g_n 1 sc_is_sound.nd) (ss_one (s_ifs (t_nin v (s_r 1) (s_b (s_gstr [97, 98, 99, 100, 101, 102] rfl T.c_SIGNS.choose_spec))) (ss_one (s_ret s_bl)) ss_nil)))
    (ss_one (s_ret s_bl))))) (fun _ _ _ => rfl)
abbrev st_Web : Stmt := inClass (topS 16) 0
theorem sc_Web : FnScope ["self", "words", "word"] ["self", "words"] (defScope st_Web) := ⟨rfl, rfl, rfl, by decide +kernel, rfl, by decide +kernel, by decide +kernel⟩
theorem ok_Web {P : Program} {w : World} {K : PySem.W.Frag} {mg : Str → Option Value} {base : Heap} {G : GE} {f : Addr} {fd : FuncData} (hK : K = G.K) (T : TF w K mg G) (K_is_sound : Kn P w K mg base G "is_sound" 1 f_is_sound false 1) (Fu : Fun K "__init__" "Web.__init__" st_Web f fd) :
    FnOk P w K mg base (L2.CX P w) 2 f fd ["self", "words"] (spI G 0 2 1 f_Web) :=
  init_ok Fu sc_Web hK (by decide) (by decide) (fun cdv A outer s H F H0 E hr v =>
    (ss_cons (s_ifs (t_gt v (s_b (s_bi lenD_ne (call_lenD v.K) rfl T.z_len (by decide +kernel) (s_bcons (s_r 1) s_bnil))) (s_b (s_gint rfl T.c_MOST_WORDS_webs.choose_spec))) (ss_one (s_raiseC v T.x_TooMany rfl)) ss_nil)
    (ss_cons (s_ifs (t_eq v (s_b (s_bi lenD_ne (call_lenD v.K) rfl T.z_len (by decide +kernel) (s_bcons (s_r 1) s_bnil))) (s_b s_int)) (ss_one (s_raiseC v T.x_BadWord rfl)) ss_nil)
    (ss_cons (s_for v (s_iter v (s_v 1)) (g_n 2 sc_Web.nd) (ss_one (s_ifs (PW.pt (s_tor (s_tnot (s_t (s_call v K_is_sound (hr.mono (by decide)) rfl (n_cons n_nil) (s_acons (s_v 2) s_anil)))) (s_tor1 (t_ne v (s_b (s_bi lenD_ne (call_lenD v.K) rfl T.z_len (by decide +kernel) (s_bcons (s_r 2) s_bnil))) (s_b (s_bi lenD_ne (call_lenD v.K) rfl T.z_len (by decide +kernel) (s_bcons (s_b (s_ix v.K v.hu (s_r 1) (s_b s_int))) s_bnil))))))) (ss_one (s_raiseC v T.x_BadWord rfl)) ss_nil)))
    (ss_cons (s_ifs (t_lt v (s_b (s_lenSetW v rfl T.z_len rfl T.z_set (s_r 1))) (s_b (s_bi lenD_ne (call_lenD v.K) rfl T.z_len (by decide +kernel) (s_bcons (s_r 1) s_bnil)))) (ss_one (s_raiseC v T.x_BadWord rfl)) ss_nil)
    (ss_cons (s_fldK 0 v.K T.s_Web_words (s_ty tupleD_ne (call_tupleD v.K) rfl T.z_tuple (by decide +kernel) (s_bcons (s_b (s_f (s_biF sortWD_ne (call_sortWD v) rfl T.z_sorted (by decide +kernel) (s_bcons (s_r 1) s_bnil)))) s_bnil)))
    (ss_one (s_fldK 0 v.K T.s_Web_length (s_bi lenD_ne (call_lenD v.K) rfl T.z_len (by decide +kernel) (s_bcons (s_b (s_ix v.K v.hu (s_r 1) (s_b s_int))) s_bnil)))))))))) (fun _ _ _ => rfl)
abbrev st_law_stir : Stmt := topS 133
theorem sc__law_stir : FnScope ["cell", "k", "m"] ["cell", "k"] (defScope st_law_stir) := ⟨rfl, rfl, rfl, by decide +kernel, rfl, by decide +kernel, by decide +kernel⟩
theorem ok_law_stir {P : Program} {w : World} {K : PySem.W.Frag} {mg : Str → Option Value} {base : Heap} {G : GE} {f : Addr} {fd : FuncData} (hK : K = G.K) (T : TF w K mg G)  (Fu : Fun K "_law_stir" "_law_stir" st_law_stir f fd) :
    FnOk P w K mg base (L2.CX P w) 1 f fd ["cell", "k"] (spD G 2 f_law_stir false) :=
  fn_ok Fu sc__law_stir hK (by decide) (fun cdv A outer s H F E hr v =>
    (ss_cons (s_set 2 (s_mod v (s_b (s_add v (s_b (s_mul v (s_b (s_mod v (s_r 0) (s_b s_int))) (s_b s_int))) (s_b (s_mul v (s_b (s_mul v (s_b (s_add v (s_r 1) (s_b s_int))) (s_b (s_add v (s_r 1) (s_b s_int))))) (s_b s_int))))) (s_b s_int)) sc__law_stir.nd)
    (ss_one (s_ret (s_mod v (s_b (s_mul v (s_r 2) (s_r 2))) (s_b s_int)))))) (fun _ _ _ => rfl)
abbrev st_law_text : Stmt := topS 134
theorem sc__law_text : FnScope ["n", "size", "kinds", "k"] ["n", "size", "kinds"] (defScope st_law_text) := ⟨rfl, rfl, rfl, by decide +kernel, rfl, by decide +kernel, by decide +kernel⟩
theorem ok_law_text {P : Program} {w : World} {K : PySem.W.Frag} {mg : Str → Option Value} {base : Heap} {G : GE} {f : Addr} {fd : FuncData} (hK : K = G.K) (T : TF w K mg G) (K__law_stir : Kn P w K mg base G "_law_stir" 2 f_law_stir false 1) (Fu : Fun K "_law_text" "_law_text" st_law_text f fd) :
    FnOk P w K mg base (L2.CX P w) 2 f fd ["n", "size", "kinds"] (spD G 3 f_law_text false) :=
  fn_ok Fu sc__law_text hK (by decide) (fun cdv A outer s H F E hr v =>
    (ss_one (s_ret (s_join v (s_b (s_str [])) (s_bcons (s_b (s_f (s_comp v (own := [("k", 3)]) (ok := blkOk_by (N := ["n", "size", "kinds", "k"]) (sc := defScope st_law_text) (by decide +kernel)) sc__law_text.nd (s_range1 v rfl T.z_range (s_bcons (s_r 1) s_bnil)) rfl (fun _ _ _ _ _ v => (g_n 3 sc__law_text.nd)) (fun _ _ _ _ _ v => c_none) (fun _ _ _ _ _ v => (s_ix v.K v.hu (s_b (s_str [97, 98, 99, 100, 101, 102])) (s_b (s_mod v (s_b (s_fdiv v (s_b (s_call v K__law_stir (hr.mono (by decide)) rfl (n_cons (n_cons n_nil)) (s_acons (s_v 0) (s_acons (s_v 3) s_anil)))) (s_b s_int))) (s_r 2)))))))) s_bnil))))) (fun _ _ _ => rfl)
abbrev st_law_least : Stmt := topS 135
theorem sc__law_least : FnScope ["word", "k"] ["word"] (defScope st_law_least) := ⟨rfl, rfl, rfl, by decide +kernel, rfl, by decide +kernel, by decide +kernel⟩
theorem ok_law_least {P : Program} {w : World} {K : PySem.W.Frag} {mg : Str → Option Value} {base : Heap} {G : GE} {f : Addr} {fd : FuncData} (hK : K = G.K) (T : TF w K mg G)  (Fu : Fun K "_law_least" "_law_least" st_law_least f fd) :
    FnOk P w K mg base (L2.CX P w) 1 f fd ["word"] (spD G 1 f_law_least false) :=
  fn_ok Fu sc__law_least hK (by decide) (fun cdv A outer s H F E hr v =>
    (ss_one (s_ret (s_bi min1D_ne (call_min1D v) rfl T.z_min (by decide +kernel) (s_bcons (s_b (s_f (s_comp v (own := [("k", 1)]) (ok := blkOk_by (N := ["word", "k"]) (sc := defScope st_law_least) (by decide +kernel)) sc__law_least.nd (s_range1 v rfl T.z_range (s_bcons (s_b (s_bi lenD_ne (call_lenD v.K) rfl T.z_len (by decide +kernel) (s_bcons (s_r 0) s_bnil))) s_bnil)) rfl (fun _ _ _ _ _ v => (g_n 1 sc__law_least.nd)) (fun _ _ _ _ _ v => c_none) (fun _ _ _ _ _ v => (s_add v (s_b (s_sl v.K (s_r 0) (s_oso (s_v 1)) s_ono)) (s_b (s_sl v.K (s_r 0) s_ono (s_oso (s_v 1))))))))) s_bnil))))) (fun _ _ _ => rfl)
abbrev st_law_ask : Stmt := topS 136
theorem sc__law_ask : FnScope ["cell", "long", "n", "far", "kinds", "size", "letters_many", "first", "place", "many", "word"] ["cell", "long"] (defScope st_law_ask) := ⟨rfl, rfl, rfl, by decide +kernel, rfl, by decide +kernel, by decide +kernel⟩
theorem ok_law_ask {P : Program} {w : World} {K : PySem.W.Frag} {mg : Str → Option Value} {base : Heap} {G : GE} {f : Addr} {fd : FuncData} (hK : K = G.K) (T : TF w K mg G) (K__law_stir : Kn P w K mg base G "_law_stir" 2 f_law_stir false 1) (K__law_text : Kn P w K mg base G "_law_text" 3 f_law_text false 2) (K__law_least : Kn P w K mg base G "_law_least" 1 f_law_least false 1) (Fu : Fun K "_law_ask" "_law_ask" st_law_ask f fd) :
    FnOk P w K mg base (L2.CX P w) 3 f fd ["cell", "long"] (spD G 2 f_law_ask false) :=
  fn_ok Fu sc__law_ask hK (by decide) (fun cdv A outer s H F E hr v =>
    (ss_cons (s_set 2 (s_fdiv v (s_b (s_call v K__law_stir (hr.mono (by decide)) rfl (n_cons (n_cons n_nil)) (s_acons (s_v 0) (s_acons s_int s_anil)))) (s_b s_int)) sc__law_ask.nd)
    (ss_cons (s_set 3 (s_mod v (s_r 0) (s_b (s_pow v (s_b s_int) (s_b s_int)))) sc__law_ask.nd)
    (ss_cons (s_set 4 (s_ix v.K v.hu (s_b (s_f (s_lst (s_acons s_int (s_acons s_int (s_acons s_int (s_acons s_int (s_acons s_int (s_acons s_int (s_acons s_int (s_acons s_int (s_acons s_int (s_acons s_int (s_acons (s_add v (s_b s_int) (s_r 3)) s_anil)))))))))))))) (s_b (s_mod v (s_r 2) (s_b s_int)))) sc__law_ask.nd)
    (ss_cons (s_set 5 (s_add v (s_b s_int) (s_b (s_mod v (s_b (s_fdiv v (s_r 2) (s_b s_int))) (s_b (s_ix v.K v.hu (s_b (s_f (s_lst (s_acons s_int (s_acons s_int (s_acons s_int (s_acons s_int (s_acons s_int (s_acons s_int (s_acons s_int (s_acons s_int (s_acons s_int (s_acons s_int (s_acons s_int s_anil)))))))))))))) (s_b (s_mod v (s_r 2) (s_b s_int)))))))) sc__law_ask.nd)
    (ss_cons (s_ifs (s_t (s_v 1)) (ss_cons (s_set 5 (s_ix v.K v.hu (s_b (s_f (s_lst (s_acons (s_add v (s_b s_int) (s_b (s_mod v (s_b (s_fdiv v (s_r 2) (s_b s_int))) (s_b s_int)))) (s_acons s_int (s_acons s_int s_anil)))))) (s_b (s_mod v (s_b (s_fdiv v (s_r 2) (s_b s_int))) (s_b s_int)))) sc__law_ask.nd)
    (ss_one (s_ifs (PW.pt (s_tand (t_lt v (s_r 5) (s_b s_int)) (s_tand1 (t_chain ltD_ne op_ltD ltD_ne op_ltD (s_b s_int) (s_r 4) (s_b s_int))))) (ss_one (s_set 4 s_int sc__law_ask.nd)) ss_nil))) ss_nil)
    (ss_cons (s_set 6 (s_bi max2D_ne (call_max2D v) rfl T.z_max (by decide +kernel) (s_bcons (s_b s_int) (s_bcons (s_b (s_bi min2D_ne (call_min2D v) rfl T.z_min (by decide +kernel) (s_bcons (s_b s_int) (s_bcons (s_r 4) s_bnil)))) s_bnil))) sc__law_ask.nd)
    (ss_cons (s_set 7 (s_call v K__law_text (hr.mono (by decide)) rfl (n_cons (n_cons (n_cons n_nil))) (s_acons (s_call v K__law_stir (hr.mono (by decide)) rfl (n_cons (n_cons n_nil)) (s_acons (s_v 0) (s_acons s_int s_anil))) (s_acons (s_v 5) (s_acons (s_v 6) s_anil)))) sc__law_ask.nd)
    (ss_cons (s_ifs (t_gt v (s_b (s_mod v (s_b (s_fdiv v (s_r 2) (s_b s_int))) (s_b s_int))) (s_b s_int)) (ss_one (s_set 7 (s_call v K__law_least (hr.mono (by decide)) rfl (n_cons n_nil) (s_acons (s_v 7) s_anil)) sc__law_ask.nd)) ss_nil)
    (ss_cons (s_ifs (t_eq v (s_b (s_mod v (s_b (s_fdiv v (s_r 2) (s_b s_int))) (s_b s_int))) (s_b s_int)) (ss_cons (s_set 8 (s_ix v.K v.hu (s_b (s_f (s_lst (s_acons (s_fdiv v (s_r 2) (s_b s_int)) (s_acons (s_mod v (s_r 0) (s_b (s_pow v (s_b s_int) (s_b s_int)))) s_anil))))) (s_b (s_mod v (s_b (s_fdiv v (s_r 2) (s_b s_int))) (s_b s_int)))) sc__law_ask.nd)
    (ss_cons (s_set 9 (s_ix v.K v.hu (s_b (s_f (s_lst (s_acons s_int (s_acons s_int (s_acons s_int (s_acons s_int (s_acons s_int (s_acons s_int (s_acons (s_add v (s_b s_int) (s_r 3)) s_anil)))))))))) (s_b (s_mod v (s_b (s_fdiv v (s_r 2) (s_b s_int))) (s_b s_int)))) sc__law_ask.nd)
    (ss_one (s_ret (s_tup (s_acons (s_str [112, 105, 101, 99, 101]) (s_acons (s_v 7) (s_acons (s_ty strD_ne call_strD rfl T.z_str (by decide +kernel) (s_bcons (s_r 4) s_bnil)) (s_acons (s_ty strD_ne call_strD rfl T.z_str (by decide +kernel) (s_bcons (s_r 8) s_bnil)) (s_acons (s_ty strD_ne call_strD rfl T.z_str (by decide +kernel) (s_bcons (s_r 9) s_bnil)) s_anil)))))))))) ss_nil)
    (ss_cons (s_set 10 (s_call v K__law_text (hr.mono (by decide)) rfl (n_cons (n_cons (n_cons n_nil))) (s_acons (s_call v K__law_stir (hr.mono (by decide)) rfl (n_cons (n_cons n_nil)) (s_acons (s_v 0) (s_acons s_int s_anil))) (s_acons (s_v 5) (s_acons (s_v 6) s_anil)))) sc__law_ask.nd)
    (ss_cons (s_ifs (t_eq v (s_b (s_mod v (s_b (s_fdiv v (s_r 2) (s_b s_int))) (s_b s_int))) (s_b s_int)) (ss_one (s_set 10 (s_add v (s_r 10) (s_b (s_str [97]))) sc__law_ask.nd)) ss_nil)
    (ss_cons (s_ifs (PW.pt (s_tand (t_eq v (s_b (s_mod v (s_b (s_fdiv v (s_r 2) (s_b s_int))) (s_b s_int))) (s_b s_int)) (s_tand1 (t_gt v (s_r 5) (s_b s_int))))) (ss_one (s_set 10 (s_sl v.K (s_r 10) (s_oso s_int) s_ono) sc__law_ask.nd)) ss_nil)
    (ss_cons (s_ifs (t_eq v (s_b (s_mod v (s_b (s_fdiv v (s_r 2) (s_b s_int))) (s_b s_int))) (s_b s_int)) (ss_one (s_set 10 (s_add v (s_b (s_sl v.K (s_r 7) (s_oso s_int) s_ono)) (s_b (s_sl v.K (s_r 7) s_ono (s_oso s_int)))) sc__law_ask.nd)) ss_nil)
    (ss_one (s_ret (s_tup (s_acons (s_str [112, 108, 97, 99, 101]) (s_acons (s_v 7) (s_acons (s_ty strD_ne call_strD rfl T.z_str (by decide +kernel) (s_bcons (s_r 4) s_bnil)) (s_acons (s_v 10) s_anil))))))))))))))))))))) (fun _ _ _ => rfl)
abbrev st_letters : Stmt := topS 31
theorem sc_letters : FnScope ["kinds"] ["kinds"] (defScope st_letters) := ⟨rfl, rfl, rfl, by decide +kernel, rfl, by decide +kernel, by decide +kernel⟩
theorem ok_letters {P : Program} {w : World} {K : PySem.W.Frag} {mg : Str → Option Value} {base : Heap} {G : GE} {f : Addr} {fd : FuncData} (hK : K = G.K) (T : TF w K mg G)  (Fu : Fun K "letters" "letters" st_letters f fd) :
    FnOk P w K mg base (L2.CX P w) 1 f fd ["kinds"] (spD G 1 f_letters false) :=
  fn_ok Fu sc_letters hK (by decide) (fun cdv A outer s H F E hr v =>
    (ss_cons (s_ifs (PW.pt (s_tor (t_lt v (s_r 0) (s_b s_int)) (s_tor1 (t_gt v (s_r 0) (s_b (s_bi lenD_ne (call_lenD v.K) rfl T.z_len (by decide +kernel) (s_bcons (s_b (s_gstr [97, 98, 99, 100, 101, 102] rfl T.c_LETTERS.choose_spec)) s_bnil))))))) (ss_one (s_raiseC v T.x_BadKinds rfl)) ss_nil)
    (ss_one (s_ret (s_sl v.K (s_b (s_gstr [97, 98, 99, 100, 101, 102] rfl T.c_LETTERS.choose_spec)) s_ono (s_oso (s_v 0))))))) (fun _ _ _ => rfl)
abbrev st_looked : Stmt := topS 32
theorem sc_looked : FnScope ["word", "kinds", "signs", "sign"] ["word", "kinds"] (defScope st_looked) := ⟨rfl, rfl, rfl, by decide +kernel, rfl, by decide +kernel, by decide +kernel⟩
theorem ok_looked {P : Program} {w : World} {K : PySem.W.Frag} {mg : Str → Option Value} {base : Heap} {G : GE} {f : Addr} {fd : FuncData} (hK : K = G.K) (T : TF w K mg G) (K_letters : Kn P w K mg base G "letters" 1 f_letters false 1) (Fu : Fun K "looked" "looked" st_looked f fd) :
    FnOk P w K mg base (L2.CX P w) 2 f fd ["word", "kinds"] (spD G 2 f_looked false) :=
  fn_ok Fu sc_looked hK (by decide) (fun cdv A outer s H F E hr v =>
    (ss_cons (s_set 2 (s_call v K_letters (hr.mono (by decide)) rfl (n_cons n_nil) (s_acons (s_v 1) s_anil)) sc_looked.nd)
    (ss_cons (s_ifs (PW.pt (s_tor (t_lt v (s_b (s_bi lenD_ne (call_lenD v.K) rfl T.z_len (by decide +kernel) (s_bcons (s_r 0) s_bnil))) (s_b s_int)) (s_tor1 (t_gt v (s_b (s_bi lenD_ne (call_lenD v.K) rfl T.z_len (by decide +kernel) (s_bcons (s_r 0) s_bnil))) (s_b (s_gint rfl T.c_LONGEST.choose_spec)))))) (ss_one (s_raiseC v T.x_BadWord rfl)) ss_nil)
    (ss_one (s_for v (s_iter v (s_v 0)) (g_n 3 sc_looked.nd) (ss_one (s_ifs (t_nin v (s_r 3) (s_r 2)) (ss_one (s_raiseC v T.x_BadWord rfl)) ss_nil))))))) (fun _ _ _ => rfl)
abbrev st_turns_of : Stmt := topS 52
theorem sc_turns_of : FnScope ["word", "k"] ["word"] (defScope st_turns_of) := ⟨rfl, rfl, rfl, by decide +kernel, rfl, by decide +kernel, by decide +kernel⟩
theorem ok_turns_of {P : Program} {w : World} {K : PySem.W.Frag} {mg : Str → Option Value} {base : Heap} {G : GE} {f : Addr} {fd : FuncData} (hK : K = G.K) (T : TF w K mg G)  (Fu : Fun K "turns_of" "turns_of" st_turns_of f fd) :
    FnOk P w K mg base (L2.CX P w) 1 f fd ["word"] (spD G 1 f_turns_of false) :=
  fn_ok Fu sc_turns_of hK (by decide) (fun cdv A outer s H F E hr v =>
    (ss_one (s_ret (s_f (s_comp v (own := [("k", 1)]) (ok := blkOk_by (N := ["word", "k"]) (sc := defScope st_turns_of) (by decide +kernel)) sc_turns_of.nd (s_range1 v rfl T.z_range (s_bcons (s_b (s_bi lenD_ne (call_lenD v.K) rfl T.z_len (by decide +kernel) (s_bcons (s_r 0) s_bnil))) s_bnil)) rfl (fun _ _ _ _ _ v => (g_n 1 sc_turns_of.nd)) (fun _ _ _ _ _ v => c_none) (fun _ _ _ _ _ v => (s_add v (s_b (s_sl v.K (s_r 0) (s_oso (s_v 1)) s_ono)) (s_b (s_sl v.K (s_r 0) s_ono (s_oso (s_v 1))))))))))) (fun _ _ _ => rfl)
abbrev st_least_turn : Stmt := topS 53
theorem sc_least_turn : FnScope ["word"] ["word"] (defScope st_least_turn) := ⟨rfl, rfl, rfl, by decide +kernel, rfl, by decide +kernel, by decide +kernel⟩
theorem ok_least_turn {P : Program} {w : World} {K : PySem.W.Frag} {mg : Str → Option Value} {base : Heap} {G : GE} {f : Addr} {fd : FuncData} (hK : K = G.K) (T : TF w K mg G) (K_turns_of : Kn P w K mg base G "turns_of" 1 f_turns_of false 1) (Fu : Fun K "least_turn" "least_turn" st_least_turn f fd) :
    FnOk P w K mg base (L2.CX P w) 2 f fd ["word"] (spD G 1 f_least_turn false) :=
  fn_ok Fu sc_least_turn hK (by decide) (fun cdv A outer s H F E hr v =>
    (ss_one (s_ret (s_bi min1D_ne (call_min1D v) rfl T.z_min (by decide +kernel) (s_bcons (s_b (s_call v K_turns_of (hr.mono (by decide)) rfl (n_cons n_nil) (s_acons (s_v 0) s_anil))) s_bnil))))) (fun _ _ _ => rfl)
abbrev st_is_least : Stmt := topS 56
theorem sc_is_least : FnScope ["word"] ["word"] (defScope st_is_least) := ⟨rfl, rfl, rfl, by decide +kernel, rfl, by decide +kernel, by decide +kernel⟩
theorem ok_is_least {P : Program} {w : World} {K : PySem.W.Frag} {mg : Str → Option Value} {base : Heap} {G : GE} {f : Addr} {fd : FuncData} (hK : K = G.K) (T : TF w K mg G) (K_least_turn : Kn P w K mg base G "least_turn" 1 f_least_turn false 2) (Fu : Fun K "is_least" "is_least" st_is_least f fd) :
    FnOk P w K mg base (L2.CX P w) 3 f fd ["word"] (spD G 1 f_is_least false) :=
  fn_ok Fu sc_is_least hK (by decide) (fun cdv A outer s H F E hr v =>
    (ss_one (s_ret (s_eq v (s_b (s_call v K_least_turn (hr.mono (by decide)) rfl (n_cons n_nil) (s_acons (s_v 0) s_anil))) (s_r 0))))) (fun _ _ _ => rfl)
abbrev st_looked_first : Stmt := topS 73
theorem sc_looked_first : FnScope ["first", "kinds"] ["first", "kinds"] (defScope st_looked_first) := ⟨rfl, rfl, rfl, by decide +kernel, rfl, by decide +kernel, by decide +kernel⟩
theorem ok_looked_first {P : Program} {w : World} {K : PySem.W.Frag} {mg : Str → Option Value} {base : Heap} {G : GE} {f : Addr} {fd : FuncData} (hK : K = G.K) (T : TF w K mg G) (K_looked : Kn P w K mg base G "looked" 2 f_looked false 2) (K_is_least : Kn P w K mg base G "is_least" 1 f_is_least false 3) (Fu : Fun K "looked_first" "looked_first" st_looked_first f fd) :
    FnOk P w K mg base (L2.CX P w) 4 f fd ["first", "kinds"] (spD G 2 f_looked_first false) :=
  fn_ok Fu sc_looked_first hK (by decide) (fun cdv A outer s H F E hr v =>
    (ss_cons (s_x (s_call v K_looked (hr.mono (by decide)) rfl (n_cons (n_cons n_nil)) (s_acons (s_v 0) (s_acons (s_v 1) s_anil))))
    (ss_one (s_ifs (s_tnot (s_t (s_call v K_is_least (hr.mono (by decide)) rfl (n_cons n_nil) (s_acons (s_v 0) s_anil)))) (ss_one (s_raiseC v T.x_BadWord rfl)) ss_nil)))) (fun _ _ _ => rfl)
abbrev st_word_count : Stmt := topS 59
theorem sc_word_count : FnScope ["length", "kinds", "many", "k"] ["length", "kinds"] (defScope st_word_count) := ⟨rfl, rfl, rfl, by decide +kernel, rfl, by decide +kernel, by decide +kernel⟩
theorem ok_word_count {P : Program} {w : World} {K : PySem.W.Frag} {mg : Str → Option Value} {base : Heap} {G : GE} {f : Addr} {fd : FuncData} (hK : K = G.K) (T : TF w K mg G) (K_letters : Kn P w K mg base G "letters" 1 f_letters false 1) (Fu : Fun K "word_count" "word_count" st_word_count f fd) :
    FnOk P w K mg base (L2.CX P w) 2 f fd ["length", "kinds"] (spD G 2 f_word_count false) :=
  fn_ok Fu sc_word_count hK (by decide) (fun cdv A outer s H F E hr v =>
    (ss_cons (s_x (s_call v K_letters (hr.mono (by decide)) rfl (n_cons n_nil) (s_acons (s_v 1) s_anil)))
    (ss_cons (s_ifs (PW.pt (s_tor (t_lt v (s_r 0) (s_b s_int)) (s_tor1 (t_gt v (s_r 0) (s_b (s_gint rfl T.c_MOST_LETTERS_primes.choose_spec)))))) (ss_one (s_raiseC v T.x_BadWord rfl)) ss_nil)
    (ss_cons (s_set 2 s_int sc_word_count.nd)
    (ss_cons (s_for v (s_range1 v rfl T.z_range (s_bcons (s_r 0) s_bnil)) (g_n 3 sc_word_count.nd) (ss_one (s_set 2 (s_mul v (s_r 2) (s_r 1)) sc_word_count.nd)))
    (ss_one (s_ret (s_v 2)))))))) (fun _ _ _ => rfl)
abbrev st_is_beginning : Stmt := topS 60
theorem sc_is_beginning : FnScope ["text", "length", "top"] ["text", "length", "top"] (defScope st_is_beginning) := ⟨rfl, rfl, rfl, by decide +kernel, rfl, by decide +kernel, by decide +kernel⟩
theorem ok_is_beginning {P : Program} {w : World} {K : PySem.W.Frag} {mg : Str → Option Value} {base : Heap} {G : GE} {f : Addr} {fd : FuncData} (hK : K = G.K) (T : TF w K mg G) (K_is_least : Kn P w K mg base G "is_least" 1 f_is_least false 3) (Fu : Fun K "is_beginning" "is_beginning" st_is_beginning f fd) :
    FnOk P w K mg base (L2.CX P w) 4 f fd ["text", "length", "top"] (spD G 3 f_is_beginning false) :=
  fn_ok Fu sc_is_beginning hK (by decide) (fun cdv A outer s H F E hr v =>
    (ss_one (s_ret (s_and (s_le v (s_b (s_bi lenD_ne (call_lenD v.K) rfl T.z_len (by decide +kernel) (s_bcons (s_r 0) s_bnil))) (s_r 1)) (s_one (s_call v K_is_least (hr.mono (by decide)) rfl (n_cons n_nil) (s_acons (s_add v (s_r 0) (s_b (s_mul v (s_r 2) (s_b (s_sub v (s_r 1) (s_b (s_bi lenD_ne (call_lenD v.K) rfl T.z_len (by decide +kernel) (s_bcons (s_r 0) s_bnil)))))))) s_anil))))))) (fun _ _ _ => rfl)
abbrev st_last_least : Stmt := topS 65
theorem sc_last_least : FnScope ["word", "kinds", "some", "found", "k", "letter"] ["word", "kinds"] (defScope st_last_least) := ⟨rfl, rfl, rfl, by decide +kernel, rfl, by decide +kernel, by decide +kernel⟩
theorem ok_last_least {P : Program} {w : World} {K : PySem.W.Frag} {mg : Str → Option Value} {base : Heap} {G : GE} {f : Addr} {fd : FuncData} (hK : K = G.K) (T : TF w K mg G) (K_looked : Kn P w K mg base G "looked" 2 f_looked false 2) (K_letters : Kn P w K mg base G "letters" 1 f_letters false 1) (K_is_least : Kn P w K mg base G "is_least" 1 f_is_least false 3) (K_is_beginning : Kn P w K mg base G "is_beginning" 3 f_is_beginning false 4) (Fu : Fun K "last_least" "last_least" st_last_least f fd) :
    FnOk P w K mg base (L2.CX P w) 5 f fd ["word", "kinds"] (spD G 2 f_last_least false) :=
  fn_ok Fu sc_last_least hK (by decide) (fun cdv A outer s H F E hr v =>
    (ss_cons (s_x (s_call v K_looked (hr.mono (by decide)) rfl (n_cons (n_cons n_nil)) (s_acons (s_v 0) (s_acons (s_v 1) s_anil))))
    (ss_cons (s_set 2 (s_call v K_letters (hr.mono (by decide)) rfl (n_cons n_nil) (s_acons (s_v 1) s_anil)) sc_last_least.nd)
    (ss_cons (s_set 3 (s_v 0) sc_last_least.nd)
    (ss_cons (s_for v (s_range3 v rfl T.z_range (s_bcons (s_b (s_sub v (s_b (s_bi lenD_ne (call_lenD v.K) rfl T.z_len (by decide +kernel) (s_bcons (s_r 0) s_bnil))) (s_b s_int))) (s_bcons (s_b (s_neg v (s_b s_int))) (s_bcons (s_b (s_neg v (s_b s_int))) s_bnil)))) (g_n 4 sc_last_least.nd) (ss_cons (s_ifs (s_t (s_call v K_is_least (hr.mono (by decide)) rfl (n_cons n_nil) (s_acons (s_v 3) s_anil))) (ss_one s_bk) ss_nil)
    (ss_one (s_for v (s_iter v (s_sl v.K (s_r 2) s_ono (s_oso (s_idxS v (s_r 2) (s_bcons (s_b (s_ix v.K v.hu (s_r 0) (s_r 4))) s_bnil))))) (g_n 5 sc_last_least.nd) (ss_one (s_ifs (s_t (s_call v K_is_beginning (hr.mono (by decide)) rfl (n_cons (n_cons (n_cons n_nil))) (s_acons (s_add v (s_b (s_sl v.K (s_r 0) s_ono (s_oso (s_v 4)))) (s_r 5)) (s_acons (s_bi lenD_ne (call_lenD v.K) rfl T.z_len (by decide +kernel) (s_bcons (s_r 0) s_bnil)) (s_acons (s_ix v.K v.hu (s_r 2) (s_b (s_neg v (s_b s_int)))) s_anil))))) (ss_one (s_set 3 (s_add v (s_b (s_add v (s_b (s_sl v.K (s_r 0) s_ono (s_oso (s_v 4)))) (s_r 5))) (s_b (s_mul v (s_b (s_ix v.K v.hu (s_r 2) (s_b (s_neg v (s_b s_int))))) (s_b (s_sub v (s_b (s_sub v (s_b (s_bi lenD_ne (call_lenD v.K) rfl T.z_len (by decide +kernel) (s_bcons (s_r 0) s_bnil))) (s_r 4))) (s_b s_int)))))) sc_last_least.nd)) ss_nil))))))
    (ss_one (s_ret (s_v 3)))))))) (fun _ _ _ => rfl)
abbrev st_drops : Stmt := topS 67
theorem sc_drops : FnScope ["word", "some", "letter"] ["word", "some"] (defScope st_drops) := ⟨rfl, rfl, rfl, by decide +kernel, rfl, by decide +kernel, by decide +kernel⟩
theorem ok_drops {P : Program} {w : World} {K : PySem.W.Frag} {mg : Str → Option Value} {base : Heap} {G : GE} {f : Addr} {fd : FuncData} (hK : K = G.K) (T : TF w K mg G)  (Fu : Fun K "drops" "drops" st_drops f fd) :
    FnOk P w K mg base (L2.CX P w) 1 f fd ["word", "some"] (spD G 2 f_drops false) :=
  fn_ok Fu sc_drops hK (by decide) (fun cdv A outer s H F E hr v =>
    (ss_one (s_ret (s_f (s_comp v (own := [("letter", 2)]) (ok := blkOk_by (N := ["word", "some", "letter"]) (sc := defScope st_drops) (by decide +kernel)) sc_drops.nd (s_iter v (s_v 0)) rfl (fun _ _ _ _ _ v => (g_n 2 sc_drops.nd)) (fun _ _ _ _ _ v => c_none) (fun _ _ _ _ _ v => (s_sub v (s_b (s_sub v (s_b (s_bi lenD_ne (call_lenD v.K) rfl T.z_len (by decide +kernel) (s_bcons (s_r 1) s_bnil))) (s_b s_int))) (s_b (s_idxS v (s_r 1) (s_bcons (s_r 2) s_bnil)))))))))) (fun _ _ _ => rfl)
abbrev st_returns : Stmt := topS 68
theorem sc_returns : FnScope ["down", "many", "found", "t", "j"] ["down", "many"] (defScope st_returns) := ⟨rfl, rfl, rfl, by decide +kernel, rfl, by decide +kernel, by decide +kernel⟩
theorem ok_returns {P : Program} {w : World} {K : PySem.W.Frag} {mg : Str → Option Value} {base : Heap} {G : GE} {f : Addr} {fd : FuncData} (hK : K = G.K) (T : TF w K mg G)  (Fu : Fun K "returns" "returns" st_returns f fd) :
    FnOk P w K mg base (L2.CX P w) 1 f fd ["down", "many"] (spD G 2 f_returns false) :=
  fn_ok Fu sc_returns hK (by decide) (fun cdv A outer s H F E hr v =>
    (ss_cons (s_seto 2 (s_lst (s_acons s_int s_anil)) sc_returns.nd)
    (ss_cons (s_for v (s_range2 v rfl T.z_range (s_bcons (s_b s_int) (s_bcons (s_r 1) s_bnil))) (g_n 3 sc_returns.nd) (ss_one (s_app 2 (s_bi sumD_ne (call_sumD v) rfl T.z_sum (by decide +kernel) (s_bcons (s_b (s_f (s_comp v (own := [("j", 4)]) (ok := blkOk_by (N := ["down", "many", "found", "t", "j"]) (sc := defScope st_returns) (by decide +kernel)) sc_returns.nd (s_range1 v rfl T.z_range (s_bcons (s_r 3) s_bnil)) rfl (fun _ _ _ _ _ v => (g_n 4 sc_returns.nd)) (fun _ _ _ _ _ v => c_none) (fun _ _ _ _ _ v => (s_mul v (s_b (s_ix v.K v.hu (s_r 0) (s_r 4))) (s_b (s_ix v.K v.hu (s_r 2) (s_b (s_sub v (s_b (s_sub v (s_r 3) (s_b s_int))) (s_r 4)))))))))) s_bnil)))))
    (ss_one (s_frz 2 (s_ret (s_v 2))))))) (fun _ _ _ => rfl)
abbrev st_above : Stmt := topS 69
theorem sc_above : FnScope ["word", "some", "down", "back", "j"] ["word", "some"] (defScope st_above) := ⟨rfl, rfl, rfl, by decide +kernel, rfl, by decide +kernel, by decide +kernel⟩
theorem ok_above {P : Program} {w : World} {K : PySem.W.Frag} {mg : Str → Option Value} {base : Heap} {G : GE} {f : Addr} {fd : FuncData} (hK : K = G.K) (T : TF w K mg G) (K_drops : Kn P w K mg base G "drops" 2 f_drops false 1) (K_returns : Kn P w K mg base G "returns" 2 f_returns false 1) (Fu : Fun K "above" "above" st_above f fd) :
    FnOk P w K mg base (L2.CX P w) 2 f fd ["word", "some"] (spD G 2 f_above false) :=
  fn_ok Fu sc_above hK (by decide) (fun cdv A outer s H F E hr v =>
    (ss_cons (s_set 2 (s_call v K_drops (hr.mono (by decide)) rfl (n_cons (n_cons n_nil)) (s_acons (s_v 0) (s_acons (s_v 1) s_anil))) sc_above.nd)
    (ss_cons (s_set 3 (s_call v K_returns (hr.mono (by decide)) rfl (n_cons (n_cons n_nil)) (s_acons (s_v 2) (s_acons (s_bi lenD_ne (call_lenD v.K) rfl T.z_len (by decide +kernel) (s_bcons (s_r 0) s_bnil)) s_anil))) sc_above.nd)
    (ss_one (s_ret (s_bi sumD_ne (call_sumD v) rfl T.z_sum (by decide +kernel) (s_bcons (s_b (s_f (s_comp v (own := [("j", 4)]) (ok := blkOk_by (N := ["word", "some", "down", "back", "j"]) (sc := defScope st_above) (by decide +kernel)) sc_above.nd (s_range1 v rfl T.z_range (s_bcons (s_b (s_bi lenD_ne (call_lenD v.K) rfl T.z_len (by decide +kernel) (s_bcons (s_r 0) s_bnil))) s_bnil)) rfl (fun _ _ _ _ _ v => (g_n 4 sc_above.nd)) (fun _ _ _ _ _ v => c_none) (fun _ _ _ _ _ v => (s_mul v (s_b (s_mul v (s_b (s_add v (s_r 4) (s_b s_int))) (s_b (s_ix v.K v.hu (s_r 2) (s_r 4))))) (s_b (s_ix v.K v.hu (s_r 3) (s_b (s_sub v (s_b (s_sub v (s_b (s_bi lenD_ne (call_lenD v.K) rfl T.z_len (by decide +kernel) (s_bcons (s_r 0) s_bnil))) (s_b s_int))) (s_r 4)))))))))) s_bnil))))))) (fun _ _ _ => rfl)
abbrev st_up_to : Stmt := topS 70
theorem sc_up_to : FnScope ["word", "kinds"] ["word", "kinds"] (defScope st_up_to) := ⟨rfl, rfl, rfl, by decide +kernel, rfl, by decide +kernel, by decide +kernel⟩
theorem ok_up_to {P : Program} {w : World} {K : PySem.W.Frag} {mg : Str → Option Value} {base : Heap} {G : GE} {f : Addr} {fd : FuncData} (hK : K = G.K) (T : TF w K mg G) (K_looked : Kn P w K mg base G "looked" 2 f_looked false 2) (K_word_count : Kn P w K mg base G "word_count" 2 f_word_count false 2) (K_last_least : Kn P w K mg base G "last_least" 2 f_last_least false 5) (K_letters : Kn P w K mg base G "letters" 1 f_letters false 1) (K_above : Kn P w K mg base G "above" 2 f_above false 2) (Fu : Fun K "up_to" "up_to" st_up_to f fd) :
    FnOk P w K mg base (L2.CX P w) 6 f fd ["word", "kinds"] (spD G 2 f_up_to false) :=
  fn_ok Fu sc_up_to hK (by decide) (fun cdv A outer s H F E hr v =>
    (ss_cons (s_x (s_call v K_looked (hr.mono (by decide)) rfl (n_cons (n_cons n_nil)) (s_acons (s_v 0) (s_acons (s_v 1) s_anil))))
    (ss_one (s_ret (s_sub v (s_b (s_call v K_word_count (hr.mono (by decide)) rfl (n_cons (n_cons n_nil)) (s_acons (s_bi lenD_ne (call_lenD v.K) rfl T.z_len (by decide +kernel) (s_bcons (s_r 0) s_bnil)) (s_acons (s_v 1) s_anil)))) (s_b (s_call v K_above (hr.mono (by decide)) rfl (n_cons (n_cons n_nil)) (s_acons (s_call v K_last_least (hr.mono (by decide)) rfl (n_cons (n_cons n_nil)) (s_acons (s_v 0) (s_acons (s_v 1) s_anil))) (s_acons (s_call v K_letters (hr.mono (by decide)) rfl (n_cons n_nil) (s_acons (s_v 1) s_anil)) s_anil))))))))) (fun _ _ _ => rfl)
abbrev st_root : Stmt := topS 55
theorem sc_root : FnScope ["word", "size"] ["word"] (defScope st_root) := ⟨rfl, rfl, rfl, by decide +kernel, rfl, by decide +kernel, by decide +kernel⟩
theorem ok_root {P : Program} {w : World} {K : PySem.W.Frag} {mg : Str → Option Value} {base : Heap} {G : GE} {f : Addr} {fd : FuncData} (hK : K = G.K) (T : TF w K mg G)  (Fu : Fun K "root" "root" st_root f fd) :
    FnOk P w K mg base (L2.CX P w) 1 f fd ["word"] (spD G 1 f_root false) :=
  fn_ok Fu sc_root hK (by decide) (fun cdv A outer s H F E hr v =>
    (ss_cons (s_set 1 s_int sc_root.nd)
    (ss_cons (s_wh v fuel (PW.pt (s_tor (t_ne v (s_b (s_mod v (s_b (s_bi lenD_ne (call_lenD v.K) rfl T.z_len (by decide +kernel) (s_bcons (s_r 0) s_bnil))) (s_r 1))) (s_b s_int)) (s_tor1 (t_ne v (s_b (s_mul v (s_b (s_sl v.K (s_r 0) s_ono (s_oso (s_v 1)))) (s_b (s_fdiv v (s_b (s_bi lenD_ne (call_lenD v.K) rfl T.z_len (by decide +kernel) (s_bcons (s_r 0) s_bnil))) (s_r 1))))) (s_r 0))))) (ss_one (s_set 1 (s_add v (s_r 1) (s_b s_int)) sc_root.nd)))
    (ss_one (s_ret (s_sl v.K (s_r 0) s_ono (s_oso (s_v 1)))))))) (fun _ _ _ => rfl)
abbrev st_words_below : Stmt := topS 74
theorem sc_words_below : FnScope ["least", "kinds"] ["least", "kinds"] (defScope st_words_below) := ⟨rfl, rfl, rfl, by decide +kernel, rfl, by decide +kernel, by decide +kernel⟩
theorem ok_words_below {P : Program} {w : World} {K : PySem.W.Frag} {mg : Str → Option Value} {base : Heap} {G : GE} {f : Addr} {fd : FuncData} (hK : K = G.K) (T : TF w K mg G) (K_up_to : Kn P w K mg base G "up_to" 2 f_up_to false 6) (K_root : Kn P w K mg base G "root" 1 f_root false 1) (Fu : Fun K "words_below" "words_below" st_words_below f fd) :
    FnOk P w K mg base (L2.CX P w) 7 f fd ["least", "kinds"] (spD G 2 f_words_below false) :=
  fn_ok Fu sc_words_below hK (by decide) (fun cdv A outer s H F E hr v =>
    (ss_one (s_ret (s_sub v (s_b (s_call v K_up_to (hr.mono (by decide)) rfl (n_cons (n_cons n_nil)) (s_acons (s_v 0) (s_acons (s_v 1) s_anil)))) (s_b (s_bi lenD_ne (call_lenD v.K) rfl T.z_len (by decide +kernel) (s_bcons (s_b (s_call v K_root (hr.mono (by decide)) rfl (n_cons n_nil) (s_acons (s_v 0) s_anil))) s_bnil))))))) (fun _ _ _ => rfl)
abbrev st_ring_size : Stmt := topS 75
theorem sc_ring_size : FnScope ["first", "kinds"] ["first", "kinds"] (defScope st_ring_size) := ⟨rfl, rfl, rfl, by decide +kernel, rfl, by decide +kernel, by decide +kernel⟩
theorem ok_ring_size {P : Program} {w : World} {K : PySem.W.Frag} {mg : Str → Option Value} {base : Heap} {G : GE} {f : Addr} {fd : FuncData} (hK : K = G.K) (T : TF w K mg G) (K_looked_first : Kn P w K mg base G "looked_first" 2 f_looked_first false 4) (K_word_count : Kn P w K mg base G "word_count" 2 f_word_count false 2) (K_words_below : Kn P w K mg base G "words_below" 2 f_words_below false 7) (Fu : Fun K "ring_size" "ring_size" st_ring_size f fd) :
    FnOk P w K mg base (L2.CX P w) 8 f fd ["first", "kinds"] (spD G 2 f_ring_size false) :=
  fn_ok Fu sc_ring_size hK (by decide) (fun cdv A outer s H F E hr v =>
    (ss_cons (s_x (s_call v K_looked_first (hr.mono (by decide)) rfl (n_cons (n_cons n_nil)) (s_acons (s_v 0) (s_acons (s_v 1) s_anil))))
    (ss_one (s_ret (s_sub v (s_b (s_call v K_word_count (hr.mono (by decide)) rfl (n_cons (n_cons n_nil)) (s_acons (s_bi lenD_ne (call_lenD v.K) rfl T.z_len (by decide +kernel) (s_bcons (s_r 0) s_bnil)) (s_acons (s_v 1) s_anil)))) (s_b (s_call v K_words_below (hr.mono (by decide)) rfl (n_cons (n_cons n_nil)) (s_acons (s_v 0) (s_acons (s_v 1) s_anil))))))))) (fun _ _ _ => rfl)
abbrev st_least_at : Stmt := topS 76
theorem sc_least_at : FnScope ["first", "kinds", "place", "some", "passed", "text", "letter", "last"] ["first", "kinds", "place"] (defScope st_least_at) := ⟨rfl, rfl, rfl, by decide +kernel, rfl, by decide +kernel, by decide +kernel⟩
theorem ok_least_at {P : Program} {w : World} {K : PySem.W.Frag} {mg : Str → Option Value} {base : Heap} {G : GE} {f : Addr} {fd : FuncData} (hK : K = G.K) (T : TF w K mg G) (K_letters : Kn P w K mg base G "letters" 1 f_letters false 1) (K_words_below : Kn P w K mg base G "words_below" 2 f_words_below false 7) (K_is_least : Kn P w K mg base G "is_least" 1 f_is_least false 3) (K_up_to : Kn P w K mg base G "up_to" 2 f_up_to false 6) (Fu : Fun K "least_at" "least_at" st_least_at f fd) :
    FnOk P w K mg base (L2.CX P w) 8 f fd ["first", "kinds", "place"] (spD G 3 f_least_at false) :=
  fn_ok Fu sc_least_at hK (by decide) (fun cdv A outer s H F E hr v =>
    (ss_cons (s_set 3 (s_call v K_letters (hr.mono (by decide)) rfl (n_cons n_nil) (s_acons (s_v 1) s_anil)) sc_least_at.nd)
    (ss_cons (s_set 4 (s_add v (s_b (s_call v K_words_below (hr.mono (by decide)) rfl (n_cons (n_cons n_nil)) (s_acons (s_v 0) (s_acons (s_v 1) s_anil)))) (s_r 2)) sc_least_at.nd)
    (ss_cons (s_set 5 (s_str []) sc_least_at.nd)
    (ss_cons (s_wh v fuel (t_lt v (s_b (s_bi lenD_ne (call_lenD v.K) rfl T.z_len (by decide +kernel) (s_bcons (s_r 5) s_bnil))) (s_b (s_bi lenD_ne (call_lenD v.K) rfl T.z_len (by decide +kernel) (s_bcons (s_r 0) s_bnil)))) (ss_one (s_for v (s_iter v (s_v 3)) (g_n 6 sc_least_at.nd) (ss_cons (s_set 7 (s_add v (s_b (s_add v (s_r 5) (s_r 6))) (s_b (s_mul v (s_b (s_ix v.K v.hu (s_r 3) (s_b (s_neg v (s_b s_int))))) (s_b (s_sub v (s_b (s_sub v (s_b (s_bi lenD_ne (call_lenD v.K) rfl T.z_len (by decide +kernel) (s_bcons (s_r 0) s_bnil))) (s_b (s_bi lenD_ne (call_lenD v.K) rfl T.z_len (by decide +kernel) (s_bcons (s_r 5) s_bnil))))) (s_b s_int)))))) sc_least_at.nd)
    (ss_one (s_ifs (PW.pt (s_tand (s_t (s_call v K_is_least (hr.mono (by decide)) rfl (n_cons n_nil) (s_acons (s_v 7) s_anil))) (s_tand1 (t_gt v (s_b (s_call v K_up_to (hr.mono (by decide)) rfl (n_cons (n_cons n_nil)) (s_acons (s_v 7) (s_acons (s_v 1) s_anil)))) (s_r 4))))) (ss_cons (s_set 5 (s_add v (s_r 5) (s_r 6)) sc_least_at.nd)
    (ss_one s_bk)) ss_nil))))))
    (ss_one (s_ret (s_tup (s_acons (s_v 5) (s_acons (s_sub v (s_r 4) (s_b (s_call v K_words_below (hr.mono (by decide)) rfl (n_cons (n_cons n_nil)) (s_acons (s_v 5) (s_acons (s_v 1) s_anil))))) s_anil)))))))))) (fun _ _ _ => rfl)
abbrev st_letter_again : Stmt := topS 61
theorem sc_letter_again : FnScope ["text", "size"] ["text"] (defScope st_letter_again) := ⟨rfl, rfl, rfl, by decide +kernel, rfl, by decide +kernel, by decide +kernel⟩
theorem ok_letter_again {P : Program} {w : World} {K : PySem.W.Frag} {mg : Str → Option Value} {base : Heap} {G : GE} {f : Addr} {fd : FuncData} (hK : K = G.K) (T : TF w K mg G)  (Fu : Fun K "letter_again" "letter_again" st_letter_again f fd) :
    FnOk P w K mg base (L2.CX P w) 1 f fd ["text"] (spD G 1 f_letter_again false) :=
  fn_ok Fu sc_letter_again hK (by decide) (fun cdv A outer s H F E hr v =>
    (ss_cons (s_set 1 s_int sc_letter_again.nd)
    (ss_cons (s_wh v fuel (t_ne v (s_b (s_sl v.K (s_r 0) (s_oso (s_v 1)) s_ono)) (s_b (s_sl v.K (s_r 0) s_ono (s_oso (s_sub v (s_b (s_bi lenD_ne (call_lenD v.K) rfl T.z_len (by decide +kernel) (s_bcons (s_r 0) s_bnil))) (s_r 1)))))) (ss_one (s_set 1 (s_add v (s_r 1) (s_b s_int)) sc_letter_again.nd)))
    (ss_one (s_ret (s_ix v.K v.hu (s_r 0) (s_b (s_sub v (s_b (s_bi lenD_ne (call_lenD v.K) rfl T.z_len (by decide +kernel) (s_bcons (s_r 0) s_bnil))) (s_r 1))))))))) (fun _ _ _ => rfl)
abbrev st_filled_least : Stmt := topS 62
theorem sc_filled_least : FnScope ["text", "length", "some", "letter"] ["text", "length", "some"] (defScope st_filled_least) := ⟨rfl, rfl, rfl, by decide +kernel, rfl, by decide +kernel, by decide +kernel⟩
theorem ok_filled_least {P : Program} {w : World} {K : PySem.W.Frag} {mg : Str → Option Value} {base : Heap} {G : GE} {f : Addr} {fd : FuncData} (hK : K = G.K) (T : TF w K mg G) (K_letter_again : Kn P w K mg base G "letter_again" 1 f_letter_again false 1) (K_is_beginning : Kn P w K mg base G "is_beginning" 3 f_is_beginning false 4) (Fu : Fun K "filled_least" "filled_least" st_filled_least f fd) :
    FnOk P w K mg base (L2.CX P w) 5 f fd ["text", "length", "some"] (spD G 3 f_filled_least false) :=
  fn_ok Fu sc_filled_least hK (by decide) (fun cdv A outer s H F E hr v =>
    (ss_cons (s_wh v fuel (t_lt v (s_b (s_bi lenD_ne (call_lenD v.K) rfl T.z_len (by decide +kernel) (s_bcons (s_r 0) s_bnil))) (s_r 1)) (ss_cons (s_set 3 (s_ix v.K v.hu (s_r 2) (s_b s_int)) sc_filled_least.nd)
    (ss_cons (s_ifs (t_ne v (s_r 0) (s_b (s_str []))) (ss_one (s_set 3 (s_call v K_letter_again (hr.mono (by decide)) rfl (n_cons n_nil) (s_acons (s_v 0) s_anil)) sc_filled_least.nd)) ss_nil)
    (ss_cons (s_ifs (s_tnot (s_t (s_call v K_is_beginning (hr.mono (by decide)) rfl (n_cons (n_cons (n_cons n_nil))) (s_acons (s_add v (s_r 0) (s_r 3)) (s_acons (s_v 1) (s_acons (s_ix v.K v.hu (s_r 2) (s_b (s_neg v (s_b s_int)))) s_anil)))))) (ss_one (s_set 3 (s_ix v.K v.hu (s_r 2) (s_b (s_add v (s_b (s_idxS v (s_r 2) (s_bcons (s_r 3) s_bnil))) (s_b s_int)))) sc_filled_least.nd)) ss_nil)
    (ss_one (s_set 0 (s_add v (s_r 0) (s_r 3)) sc_filled_least.nd))))))
    (ss_one (s_ret (s_v 0))))) (fun _ _ _ => rfl)
abbrev st_next_least : Stmt := topS 64
theorem sc_next_least : FnScope ["word", "kinds", "some", "k", "letter"] ["word", "kinds"] (defScope st_next_least) := ⟨rfl, rfl, rfl, by decide +kernel, rfl, by decide +kernel, by decide +kernel⟩
theorem ok_next_least {P : Program} {w : World} {K : PySem.W.Frag} {mg : Str → Option Value} {base : Heap} {G : GE} {f : Addr} {fd : FuncData} (hK : K = G.K) (T : TF w K mg G) (K_looked : Kn P w K mg base G "looked" 2 f_looked false 2) (K_letters : Kn P w K mg base G "letters" 1 f_letters false 1) (K_is_beginning : Kn P w K mg base G "is_beginning" 3 f_is_beginning false 4) (K_filled_least : Kn P w K mg base G "filled_least" 3 f_filled_least false 5) (Fu : Fun K "next_least" "next_least" st_next_least f fd) :
    FnOk P w K mg base (L2.CX P w) 6 f fd ["word", "kinds"] (spD G 2 f_next_least false) :=
  fn_ok Fu sc_next_least hK (by decide) (fun cdv A outer s H F E hr v =>
    (ss_cons (s_x (s_call v K_looked (hr.mono (by decide)) rfl (n_cons (n_cons n_nil)) (s_acons (s_v 0) (s_acons (s_v 1) s_anil))))
    (ss_cons (s_set 2 (s_call v K_letters (hr.mono (by decide)) rfl (n_cons n_nil) (s_acons (s_v 1) s_anil)) sc_next_least.nd)
    (ss_cons (s_for v (s_range3 v rfl T.z_range (s_bcons (s_b (s_sub v (s_b (s_bi lenD_ne (call_lenD v.K) rfl T.z_len (by decide +kernel) (s_bcons (s_r 0) s_bnil))) (s_b s_int))) (s_bcons (s_b (s_neg v (s_b s_int))) (s_bcons (s_b (s_neg v (s_b s_int))) s_bnil)))) (g_n 3 sc_next_least.nd) (ss_one (s_for v (s_iter v (s_sl v.K (s_r 2) (s_oso (s_add v (s_b (s_idxS v (s_r 2) (s_bcons (s_b (s_ix v.K v.hu (s_r 0) (s_r 3))) s_bnil))) (s_b s_int))) s_ono)) (g_n 4 sc_next_least.nd) (ss_one (s_ifs (s_t (s_call v K_is_beginning (hr.mono (by decide)) rfl (n_cons (n_cons (n_cons n_nil))) (s_acons (s_add v (s_b (s_sl v.K (s_r 0) s_ono (s_oso (s_v 3)))) (s_r 4)) (s_acons (s_bi lenD_ne (call_lenD v.K) rfl T.z_len (by decide +kernel) (s_bcons (s_r 0) s_bnil)) (s_acons (s_ix v.K v.hu (s_r 2) (s_b (s_neg v (s_b s_int)))) s_anil))))) (ss_one (s_ret (s_call v K_filled_least (hr.mono (by decide)) rfl (n_cons (n_cons (n_cons n_nil))) (s_acons (s_add v (s_b (s_sl v.K (s_r 0) s_ono (s_oso (s_v 3)))) (s_r 4)) (s_acons (s_bi lenD_ne (call_lenD v.K) rfl T.z_len (by decide +kernel) (s_bcons (s_r 0) s_bnil)) (s_acons (s_v 2) s_anil)))))) ss_nil)))))
    (ss_one (s_ret s_non)))))) (fun _ _ _ => rfl)
abbrev st_piece_from : Stmt := topS 77
theorem sc_piece_from : FnScope ["first", "kinds", "place", "many", "least", "at", "text"] ["first", "kinds", "place", "many"] (defScope st_piece_from) := ⟨rfl, rfl, rfl, by decide +kernel, rfl, by decide +kernel, by decide +kernel⟩
theorem ok_piece_from {P : Program} {w : World} {K : PySem.W.Frag} {mg : Str → Option Value} {base : Heap} {G : GE} {f : Addr} {fd : FuncData} (hK : K = G.K) (T : TF w K mg G) (K_least_at : Kn P w K mg base G "least_at" 3 f_least_at false 8) (K_root : Kn P w K mg base G "root" 1 f_root false 1) (K_next_least : Kn P w K mg base G "next_least" 2 f_next_least false 6) (Fu : Fun K "piece_from" "piece_from" st_piece_from f fd) :
    FnOk P w K mg base (L2.CX P w) 9 f fd ["first", "kinds", "place", "many"] (spD G 4 f_piece_from false) :=
  fn_ok Fu sc_piece_from hK (by decide) (fun cdv A outer s H F E hr v =>
    (ss_cons (s_asg (s_call v K_least_at (hr.mono (by decide)) rfl (n_cons (n_cons (n_cons n_nil))) (s_acons (s_v 0) (s_acons (s_v 1) (s_acons (s_v 2) s_anil)))) (g_t v (g_cons (g_n 4 sc_piece_from.nd) (g_cons (g_n 5 sc_piece_from.nd) g_nil))))
    (ss_cons (s_set 6 (s_sl v.K (s_b (s_call v K_root (hr.mono (by decide)) rfl (n_cons n_nil) (s_acons (s_v 4) s_anil))) (s_oso (s_v 5)) s_ono) sc_piece_from.nd)
    (ss_cons (s_wh v fuel (t_lt v (s_b (s_bi lenD_ne (call_lenD v.K) rfl T.z_len (by decide +kernel) (s_bcons (s_r 6) s_bnil))) (s_r 3)) (ss_cons (s_set 4 (s_call v K_next_least (hr.mono (by decide)) rfl (n_cons (n_cons n_nil)) (s_acons (s_v 4) (s_acons (s_v 1) s_anil))) sc_piece_from.nd)
    (ss_cons (s_ifs (t_is v (s_r 4) (s_b s_non)) (ss_one (s_set 4 (s_v 0) sc_piece_from.nd)) ss_nil)
    (ss_one (s_set 6 (s_add v (s_r 6) (s_b (s_call v K_root (hr.mono (by decide)) rfl (n_cons n_nil) (s_acons (s_v 4) s_anil)))) sc_piece_from.nd)))))
    (ss_one (s_ret (s_sl v.K (s_r 6) s_ono (s_oso (s_v 3))))))))) (fun _ _ _ => rfl)
abbrev st_piece_at : Stmt := topS 78
theorem sc_piece_at : FnScope ["first", "kinds", "place", "many", "size"] ["first", "kinds", "place", "many"] (defScope st_piece_at) := ⟨rfl, rfl, rfl, by decide +kernel, rfl, by decide +kernel, by decide +kernel⟩
theorem ok_piece_at {P : Program} {w : World} {K : PySem.W.Frag} {mg : Str → Option Value} {base : Heap} {G : GE} {f : Addr} {fd : FuncData} (hK : K = G.K) (T : TF w K mg G) (K_ring_size : Kn P w K mg base G "ring_size" 2 f_ring_size false 8) (K_piece_from : Kn P w K mg base G "piece_from" 4 f_piece_from false 9) (Fu : Fun K "piece_at" "piece_at" st_piece_at f fd) :
    FnOk P w K mg base (L2.CX P w) 10 f fd ["first", "kinds", "place", "many"] (spD G 4 f_piece_at false) :=
  fn_ok Fu sc_piece_at hK (by decide) (fun cdv A outer s H F E hr v =>
    (ss_cons (s_set 4 (s_call v K_ring_size (hr.mono (by decide)) rfl (n_cons (n_cons n_nil)) (s_acons (s_v 0) (s_acons (s_v 1) s_anil))) sc_piece_at.nd)
    (ss_cons (s_ifs (t_gt v (s_r 3) (s_b (s_gint rfl T.c_MOST_PIECE.choose_spec))) (ss_one (s_raiseC v T.x_TooMany rfl)) ss_nil)
    (ss_cons (s_ifs (t_lt v (s_r 3) (s_b s_int)) (ss_one (s_raiseC v T.x_NoSuch rfl)) ss_nil)
    (ss_one (s_ret (s_call v K_piece_from (hr.mono (by decide)) rfl (n_cons (n_cons (n_cons (n_cons n_nil)))) (s_acons (s_v 0) (s_acons (s_v 1) (s_acons (s_mod v (s_r 2) (s_r 4)) (s_acons (s_v 3) s_anil))))))))))) (fun _ _ _ => rfl)
abbrev st_turn_by : Stmt := topS 54
theorem sc_turn_by : FnScope ["word"] ["word"] (defScope st_turn_by) := ⟨rfl, rfl, rfl, by decide +kernel, rfl, by decide +kernel, by decide +kernel⟩
theorem ok_turn_by {P : Program} {w : World} {K : PySem.W.Frag} {mg : Str → Option Value} {base : Heap} {G : GE} {f : Addr} {fd : FuncData} (hK : K = G.K) (T : TF w K mg G) (K_turns_of : Kn P w K mg base G "turns_of" 1 f_turns_of false 1) (K_least_turn : Kn P w K mg base G "least_turn" 1 f_least_turn false 2) (Fu : Fun K "turn_by" "turn_by" st_turn_by f fd) :
    FnOk P w K mg base (L2.CX P w) 3 f fd ["word"] (spD G 1 f_turn_by false) :=
  fn_ok Fu sc_turn_by hK (by decide) (fun cdv A outer s H F E hr v =>
    (ss_one (s_ret (s_idxL v (s_b (s_call v K_turns_of (hr.mono (by decide)) rfl (n_cons n_nil) (s_acons (s_v 0) s_anil))) (s_bcons (s_b (s_call v K_least_turn (hr.mono (by decide)) rfl (n_cons n_nil) (s_acons (s_v 0) s_anil))) s_bnil))))) (fun _ _ _ => rfl)
abbrev st_tops_behind : Stmt := topS 80
theorem sc_tops_behind : FnScope ["text", "top", "many"] ["text", "top"] (defScope st_tops_behind) := ⟨rfl, rfl, rfl, by decide +kernel, rfl, by decide +kernel, by decide +kernel⟩
theorem ok_tops_behind {P : Program} {w : World} {K : PySem.W.Frag} {mg : Str → Option Value} {base : Heap} {G : GE} {f : Addr} {fd : FuncData} (hK : K = G.K) (T : TF w K mg G)  (Fu : Fun K "tops_behind" "tops_behind" st_tops_behind f fd) :
    FnOk P w K mg base (L2.CX P w) 1 f fd ["text", "top"] (spD G 2 f_tops_behind false) :=
  fn_ok Fu sc_tops_behind hK (by decide) (fun cdv A outer s H F E hr v =>
    (ss_cons (s_set 2 s_int sc_tops_behind.nd)
    (ss_cons (s_wh v fuel (PW.pt (s_tand (t_lt v (s_r 2) (s_b (s_bi lenD_ne (call_lenD v.K) rfl T.z_len (by decide +kernel) (s_bcons (s_r 0) s_bnil)))) (s_tand1 (t_eq v (s_b (s_ix v.K v.hu (s_r 0) (s_b (s_sub v (s_b (s_sub v (s_b (s_bi lenD_ne (call_lenD v.K) rfl T.z_len (by decide +kernel) (s_bcons (s_r 0) s_bnil))) (s_r 2))) (s_b s_int))))) (s_r 1))))) (ss_one (s_set 2 (s_add v (s_r 2) (s_b s_int)) sc_tops_behind.nd)))
    (ss_one (s_ret (s_v 2)))))) (fun _ _ _ => rfl)
abbrev st_least_beginning : Stmt := topS 63
theorem sc_least_beginning : FnScope ["text", "length", "kinds", "some"] ["text", "length", "kinds"] (defScope st_least_beginning) := ⟨rfl, rfl, rfl, by decide +kernel, rfl, by decide +kernel, by decide +kernel⟩
theorem ok_least_beginning {P : Program} {w : World} {K : PySem.W.Frag} {mg : Str → Option Value} {base : Heap} {G : GE} {f : Addr} {fd : FuncData} (hK : K = G.K) (T : TF w K mg G) (K_word_count : Kn P w K mg base G "word_count" 2 f_word_count false 2) (K_looked : Kn P w K mg base G "looked" 2 f_looked false 2) (K_letters : Kn P w K mg base G "letters" 1 f_letters false 1) (K_is_beginning : Kn P w K mg base G "is_beginning" 3 f_is_beginning false 4) (K_filled_least : Kn P w K mg base G "filled_least" 3 f_filled_least false 5) (Fu : Fun K "least_beginning" "least_beginning" st_least_beginning f fd) :
    FnOk P w K mg base (L2.CX P w) 6 f fd ["text", "length", "kinds"] (spD G 3 f_least_beginning false) :=
  fn_ok Fu sc_least_beginning hK (by decide) (fun cdv A outer s H F E hr v =>
    (ss_cons (s_x (s_call v K_word_count (hr.mono (by decide)) rfl (n_cons (n_cons n_nil)) (s_acons (s_v 1) (s_acons (s_v 2) s_anil))))
    (ss_cons (s_ifs (t_ne v (s_r 0) (s_b (s_str []))) (ss_one (s_x (s_call v K_looked (hr.mono (by decide)) rfl (n_cons (n_cons n_nil)) (s_acons (s_v 0) (s_acons (s_v 2) s_anil))))) ss_nil)
    (ss_cons (s_set 3 (s_call v K_letters (hr.mono (by decide)) rfl (n_cons n_nil) (s_acons (s_v 2) s_anil)) sc_least_beginning.nd)
    (ss_cons (s_ifs (s_tnot (s_t (s_call v K_is_beginning (hr.mono (by decide)) rfl (n_cons (n_cons (n_cons n_nil))) (s_acons (s_v 0) (s_acons (s_v 1) (s_acons (s_ix v.K v.hu (s_r 3) (s_b (s_neg v (s_b s_int)))) s_anil)))))) (ss_one (s_ret s_non)) ss_nil)
    (ss_one (s_ret (s_call v K_filled_least (hr.mono (by decide)) rfl (n_cons (n_cons (n_cons n_nil))) (s_acons (s_v 0) (s_acons (s_v 1) (s_acons (s_v 3) s_anil))))))))))) (fun _ _ _ => rfl)
abbrev st_least_from : Stmt := topS 79
theorem sc_least_from : FnScope ["first", "kinds", "text"] ["first", "kinds", "text"] (defScope st_least_from) := ⟨rfl, rfl, rfl, by decide +kernel, rfl, by decide +kernel, by decide +kernel⟩
theorem ok_least_from {P : Program} {w : World} {K : PySem.W.Frag} {mg : Str → Option Value} {base : Heap} {G : GE} {f : Addr} {fd : FuncData} (hK : K = G.K) (T : TF w K mg G) (K_least_beginning : Kn P w K mg base G "least_beginning" 3 f_least_beginning false 6) (Fu : Fun K "least_from" "least_from" st_least_from f fd) :
    FnOk P w K mg base (L2.CX P w) 7 f fd ["first", "kinds", "text"] (spD G 3 f_least_from false) :=
  fn_ok Fu sc_least_from hK (by decide) (fun cdv A outer s H F E hr v =>
    (ss_cons (s_ifs (t_eq v (s_r 2) (s_b (s_sl v.K (s_r 0) s_ono (s_oso (s_bi lenD_ne (call_lenD v.K) rfl T.z_len (by decide +kernel) (s_bcons (s_r 2) s_bnil)))))) (ss_one (s_ret (s_v 0))) ss_nil)
    (ss_cons (s_ifs (t_lt v (s_r 2) (s_r 0)) (ss_one (s_ret s_non)) ss_nil)
    (ss_one (s_ret (s_call v K_least_beginning (hr.mono (by decide)) rfl (n_cons (n_cons (n_cons n_nil))) (s_acons (s_v 2) (s_acons (s_bi lenD_ne (call_lenD v.K) rfl T.z_len (by decide +kernel) (s_bcons (s_r 0) s_bnil)) (s_acons (s_v 1) s_anil))))))))) (fun _ _ _ => rfl)
abbrev st_place_of : Stmt := topS 81
theorem sc_place_of : FnScope ["first", "kinds", "word", "size", "least", "part", "top", "at", "passed", "after"] ["first", "kinds", "word"] (defScope st_place_of) := ⟨rfl, rfl, rfl, by decide +kernel, rfl, by decide +kernel, by decide +kernel⟩
theorem ok_place_of {P : Program} {w : World} {K : PySem.W.Frag} {mg : Str → Option Value} {base : Heap} {G : GE} {f : Addr} {fd : FuncData} (hK : K = G.K) (T : TF w K mg G) (K_ring_size : Kn P w K mg base G "ring_size" 2 f_ring_size false 8) (K_looked : Kn P w K mg base G "looked" 2 f_looked false 2) (K_least_turn : Kn P w K mg base G "least_turn" 1 f_least_turn false 2) (K_root : Kn P w K mg base G "root" 1 f_root false 1) (K_letters : Kn P w K mg base G "letters" 1 f_letters false 1) (K_turn_by : Kn P w K mg base G "turn_by" 1 f_turn_by false 3) (K_words_below : Kn P w K mg base G "words_below" 2 f_words_below false 7) (K_tops_behind : Kn P w K mg base G "tops_behind" 2 f_tops_behind false 1) (K_least_from : Kn P w K mg base G "least_from" 3 f_least_from false 7) (Fu : Fun K "place_of" "place_of" st_place_of f fd) :
    FnOk P w K mg base (L2.CX P w) 9 f fd ["first", "kinds", "word"] (spD G 3 f_place_of false) :=
  fn_ok Fu sc_place_of hK (by decide) (fun cdv A outer s H F E hr v =>
    (ss_cons (s_set 3 (s_call v K_ring_size (hr.mono (by decide)) rfl (n_cons (n_cons n_nil)) (s_acons (s_v 0) (s_acons (s_v 1) s_anil))) sc_place_of.nd)
    (ss_cons (s_x (s_call v K_looked (hr.mono (by decide)) rfl (n_cons (n_cons n_nil)) (s_acons (s_v 2) (s_acons (s_v 1) s_anil))))
    (ss_cons (s_ifs (t_ne v (s_b (s_bi lenD_ne (call_lenD v.K) rfl T.z_len (by decide +kernel) (s_bcons (s_r 2) s_bnil))) (s_b (s_bi lenD_ne (call_lenD v.K) rfl T.z_len (by decide +kernel) (s_bcons (s_r 0) s_bnil)))) (ss_one (s_raiseC v T.x_BadWord rfl)) ss_nil)
    (ss_cons (s_set 4 (s_call v K_least_turn (hr.mono (by decide)) rfl (n_cons n_nil) (s_acons (s_v 2) s_anil)) sc_place_of.nd)
    (ss_cons (s_ifs (t_lt v (s_r 4) (s_r 0)) (ss_one (s_raiseC v T.x_NoSuch rfl)) ss_nil)
    (ss_cons (s_set 5 (s_call v K_root (hr.mono (by decide)) rfl (n_cons n_nil) (s_acons (s_v 4) s_anil)) sc_place_of.nd)
    (ss_cons (s_set 6 (s_ix v.K v.hu (s_b (s_call v K_letters (hr.mono (by decide)) rfl (n_cons n_nil) (s_acons (s_v 1) s_anil))) (s_b (s_neg v (s_b s_int)))) sc_place_of.nd)
    (ss_cons (s_ifs (t_eq v (s_r 5) (s_r 6)) (ss_one (s_ret (s_mod v (s_b (s_sub v (s_r 3) (s_b (s_bi lenD_ne (call_lenD v.K) rfl T.z_len (by decide +kernel) (s_bcons (s_r 2) s_bnil))))) (s_r 3)))) ss_nil)
    (ss_cons (s_set 7 (s_mod v (s_b (s_sub v (s_b (s_bi lenD_ne (call_lenD v.K) rfl T.z_len (by decide +kernel) (s_bcons (s_r 5) s_bnil))) (s_b (s_call v K_turn_by (hr.mono (by decide)) rfl (n_cons n_nil) (s_acons (s_v 2) s_anil))))) (s_b (s_bi lenD_ne (call_lenD v.K) rfl T.z_len (by decide +kernel) (s_bcons (s_r 5) s_bnil)))) sc_place_of.nd)
    (ss_cons (s_set 8 (s_call v K_words_below (hr.mono (by decide)) rfl (n_cons (n_cons n_nil)) (s_acons (s_v 0) (s_acons (s_v 1) s_anil))) sc_place_of.nd)
    (ss_cons (s_ifs (t_lt v (s_r 7) (s_b (s_sub v (s_b (s_bi lenD_ne (call_lenD v.K) rfl T.z_len (by decide +kernel) (s_bcons (s_r 5) s_bnil))) (s_b (s_call v K_tops_behind (hr.mono (by decide)) rfl (n_cons (n_cons n_nil)) (s_acons (s_v 5) (s_acons (s_v 6) s_anil))))))) (ss_one (s_ret (s_add v (s_b (s_sub v (s_b (s_call v K_words_below (hr.mono (by decide)) rfl (n_cons (n_cons n_nil)) (s_acons (s_v 4) (s_acons (s_v 1) s_anil)))) (s_r 8))) (s_r 7)))) ss_nil)
    (ss_cons (s_set 9 (s_call v K_least_from (hr.mono (by decide)) rfl (n_cons (n_cons (n_cons n_nil))) (s_acons (s_v 0) (s_acons (s_v 1) (s_acons (s_sl v.K (s_r 2) (s_oso (s_sub v (s_b (s_bi lenD_ne (call_lenD v.K) rfl T.z_len (by decide +kernel) (s_bcons (s_r 5) s_bnil))) (s_r 7))) s_ono) s_anil)))) sc_place_of.nd)
    (ss_one (s_ret (s_mod v (s_b (s_add v (s_b (s_sub v (s_b (s_sub v (s_b (s_call v K_words_below (hr.mono (by decide)) rfl (n_cons (n_cons n_nil)) (s_acons (s_v 9) (s_acons (s_v 1) s_anil)))) (s_r 8))) (s_b (s_bi lenD_ne (call_lenD v.K) rfl T.z_len (by decide +kernel) (s_bcons (s_r 5) s_bnil))))) (s_r 7))) (s_r 3))))))))))))))))) (fun _ _ _ => rfl)
abbrev st_law_due : Stmt := topS 137
theorem sc__law_due : FnScope ["ask", "told"] ["ask"] (defScope st_law_due) := ⟨rfl, rfl, rfl, by decide +kernel, rfl, by decide +kernel, by decide +kernel⟩
theorem ok_law_due {P : Program} {w : World} {K : PySem.W.Frag} {mg : Str → Option Value} {base : Heap} {G : GE} {f : Addr} {fd : FuncData} (hK : K = G.K) (T : TF w K mg G) (K_piece_at : Kn P w K mg base G "piece_at" 4 f_piece_at false 10) (K_place_of : Kn P w K mg base G "place_of" 3 f_place_of false 9) (Fu : Fun K "_law_due" "_law_due" st_law_due f fd) :
    FnOk P w K mg base (L2.CX P w) 11 f fd ["ask"] (spD G 1 f_law_due false) :=
  fn_ok Fu sc__law_due hK (by decide) (fun cdv A outer s H F E hr v =>
    (ss_cons (s_set 1 (s_str []) sc__law_due.nd)
    (ss_cons (s_tryM v (fun _ _ _ v => (ss_one (s_ifs (t_eq v (s_b (s_ix v.K v.hu (s_r 0) (s_b s_int))) (s_b (s_str [112, 105, 101, 99, 101]))) (ss_one (s_set 1 (s_call v K_piece_at (hr.mono (by decide)) rfl (n_cons (n_cons (n_cons (n_cons n_nil)))) (s_acons (s_ix v.K v.hu (s_r 0) (s_b s_int)) (s_acons (s_ty intY_ne call_intY rfl T.z_int (by decide +kernel) (s_bcons (s_b (s_ix v.K v.hu (s_r 0) (s_b s_int))) s_bnil)) (s_acons (s_ty intY_ne call_intY rfl T.z_int (by decide +kernel) (s_bcons (s_b (s_ix v.K v.hu (s_r 0) (s_b s_int))) s_bnil)) (s_acons (s_ty intY_ne call_intY rfl T.z_int (by decide +kernel) (s_bcons (s_b (s_ix v.K v.hu (s_r 0) (s_b s_int))) s_bnil)) s_anil))))) sc__law_due.nd)) (ss_one (s_set 1 (s_ty strD_ne call_strD rfl T.z_str (by decide +kernel) (s_bcons (s_b (s_call v K_place_of (hr.mono (by decide)) rfl (n_cons (n_cons (n_cons n_nil))) (s_acons (s_ix v.K v.hu (s_r 0) (s_b s_int)) (s_acons (s_ty intY_ne call_intY rfl T.z_int (by decide +kernel) (s_bcons (s_b (s_ix v.K v.hu (s_r 0) (s_b s_int))) s_bnil)) (s_acons (s_ix v.K v.hu (s_r 0) (s_b s_int)) s_anil))))) s_bnil)) sc__law_due.nd))))) (hm_cons T.e_BadKinds rfl (fun _ _ _ => (ss_one (s_set 1 (s_str [114, 101, 102, 117, 115, 101, 100, 32, 66, 97, 100, 75, 105, 110, 100, 115]) sc__law_due.nd))) (hm_cons T.e_BadWord rfl (fun _ _ _ => (ss_one (s_set 1 (s_str [114, 101, 102, 117, 115, 101, 100, 32, 66, 97, 100, 87, 111, 114, 100]) sc__law_due.nd))) (hm_cons T.e_TooMany rfl (fun _ _ _ => (ss_one (s_set 1 (s_str [114, 101, 102, 117, 115, 101, 100, 32, 84, 111, 111, 77, 97, 110, 121]) sc__law_due.nd))) (hm_cons T.e_NoSuch rfl (fun _ _ _ => (ss_one (s_set 1 (s_str [114, 101, 102, 117, 115, 101, 100, 32, 78, 111, 83, 117, 99, 104]) sc__law_due.nd))) (hm_cons T.e_OnceError rfl (fun _ _ _ => (ss_one (s_set 1 (s_str [111, 116, 104, 101, 114]) sc__law_due.nd))) hm_nil))))))
    (ss_one (s_ret (s_v 1)))))) (fun _ _ _ => rfl)
abbrev st_far_told : Stmt := topS 127
theorem sc_far_told : FnScope ["ask"] ["ask"] (defScope st_far_told) := ⟨rfl, rfl, rfl, by decide +kernel, rfl, by decide +kernel, by decide +kernel⟩
theorem ok_far_told {P : Program} {w : World} {K : PySem.W.Frag} {mg : Str → Option Value} {base : Heap} {G : GE} {f : Addr} {fd : FuncData} (hK : K = G.K) (T : TF w K mg G) (K_piece_at : Kn P w K mg base G "piece_at" 4 f_piece_at false 10) (K_place_of : Kn P w K mg base G "place_of" 3 f_place_of false 9) (Fu : Fun K "far_told" "far_told" st_far_told f fd) :
    FnOk P w K mg base (L2.CX P w) 11 f fd ["ask"] (spD G 1 f_far_told false) :=
  fn_ok Fu sc_far_told hK (by decide) (fun cdv A outer s H F E hr v =>
    (ss_cons (s_ifs (t_eq v (s_b (s_ix v.K v.hu (s_r 0) (s_b s_int))) (s_b (s_str [112, 105, 101, 99, 101]))) (ss_one (s_ret (s_call v K_piece_at (hr.mono (by decide)) rfl (n_cons (n_cons (n_cons (n_cons n_nil)))) (s_acons (s_ix v.K v.hu (s_r 0) (s_b s_int)) (s_acons (s_ty intY_ne call_intY rfl T.z_int (by decide +kernel) (s_bcons (s_b (s_ix v.K v.hu (s_r 0) (s_b s_int))) s_bnil)) (s_acons (s_ty intY_ne call_intY rfl T.z_int (by decide +kernel) (s_bcons (s_b (s_ix v.K v.hu (s_r 0) (s_b s_int))) s_bnil)) (s_acons (s_ty intY_ne call_intY rfl T.z_int (by decide +kernel) (s_bcons (s_b (s_ix v.K v.hu (s_r 0) (s_b s_int))) s_bnil)) s_anil))))))) ss_nil)
    (ss_one (s_ret (s_ty strD_ne call_strD rfl T.z_str (by decide +kernel) (s_bcons (s_b (s_call v K_place_of (hr.mono (by decide)) rfl (n_cons (n_cons (n_cons n_nil))) (s_acons (s_ix v.K v.hu (s_r 0) (s_b s_int)) (s_acons (s_ty intY_ne call_intY rfl T.z_int (by decide +kernel) (s_bcons (s_b (s_ix v.K v.hu (s_r 0) (s_b s_int))) s_bnil)) (s_acons (s_ix v.K v.hu (s_r 0) (s_b s_int)) s_anil))))) s_bnil)))))) (fun _ _ _ => rfl)
abbrev st_refused_name : Stmt := topS 128
theorem sc_refused_name : FnScope ["error"] ["error"] (defScope st_refused_name) := ⟨rfl, rfl, rfl, by decide +kernel, rfl, by decide +kernel, by decide +kernel⟩
theorem ok_refused_name {P : Program} {w : World} {K : PySem.W.Frag} {mg : Str → Option Value} {base : Heap} {G : GE} {f : Addr} {fd : FuncData} (hK : K = G.K) (T : TF w K mg G)  (Fu : Fun K "refused_name" "refused_name" st_refused_name f fd) :
    FnQ P w K mg base (L2.CX P w) 1 f fd ["error"] (spD G 1 f_refused_name false) :=
  fn_okQ Fu sc_refused_name hK (by decide) (fun cdv A outer s H F E hr v =>
    (ss_cons (s_ifs (s_t (s_isx v T.b_ T.i_BadWord rfl T.z_isinstance rfl (s_r 0))) (ss_one (s_ret (s_str [66, 97, 100, 87, 111, 114, 100]))) ss_nil)
    (ss_cons (s_ifs (s_t (s_isx v T.b_ T.i_TooMany rfl T.z_isinstance rfl (s_r 0))) (ss_one (s_ret (s_str [84, 111, 111, 77, 97, 110, 121]))) ss_nil)
    (ss_cons (s_ifs (s_t (s_isx v T.b_ T.i_NoSuch rfl T.z_isinstance rfl (s_r 0))) (ss_one (s_ret (s_str [78, 111, 83, 117, 99, 104]))) ss_nil)
    (ss_one (s_ret (s_str [66, 97, 100, 75, 105, 110, 100, 115]))))))) (fun _ _ _ => rfl)
abbrev st_far_answer : Stmt := topS 129
theorem sc_far_answer : FnScope ["ask", "e"] ["ask"] (defScope st_far_answer) := ⟨rfl, rfl, rfl, by decide +kernel, rfl, by decide +kernel, by decide +kernel⟩
theorem ok_far_answer {P : Program} {w : World} {K : PySem.W.Frag} {mg : Str → Option Value} {base : Heap} {G : GE} {f : Addr} {fd : FuncData} (hK : K = G.K) (T : TF w K mg G) (K_far_told : Kn P w K mg base G "far_told" 1 f_far_told false 11) (K_refused_name : KnQ P w K mg base G "refused_name" 1 f_refused_name 1) (Fu : Fun K "far_answer" "far_answer" st_far_answer f fd) :
    FnOk P w K mg base (L2.CX P w) 12 f fd ["ask"] (spD G 1 f_far_answer false) :=
  fn_ok Fu sc_far_answer hK (by decide) (fun cdv A outer s H F E hr v =>
    (ss_one (s_tryC v 1 T.e_OnceError sc_far_answer.nd rfl (fun _ _ _ v => (ss_one (s_ret (s_call v K_far_told (hr.mono (by decide)) rfl (n_cons n_nil) (s_acons (s_v 0) s_anil))))) (fun _ _ v => (ss_one (s_ret (s_add v (s_b (s_str [114, 101, 102, 117, 115, 101, 100, 32])) (s_b (s_callQ v K_refused_name ((RoomQ.of (hr.mono (by decide))).mark _) rfl (n_cons n_nil) (s_acons (s_v 1) s_anil)))))))))) (fun _ _ _ => rfl)
abbrev st_answered : Stmt := topS 130
theorem sc_answered : FnScope ["web", "ask"] ["web", "ask"] (defScope st_answered) := ⟨rfl, rfl, rfl, by decide +kernel, rfl, by decide +kernel, by decide +kernel⟩
theorem ok_answered {P : Program} {w : World} {K : PySem.W.Frag} {mg : Str → Option Value} {base : Heap} {G : GE} {f : Addr} {fd : FuncData} (hK : K = G.K) (T : TF w K mg G) (K_far_answer : Kn P w K mg base G "far_answer" 1 f_far_answer false 12) (Fu : Fun K "answered" "answered" st_answered f fd) :
    FnOk P w K mg base (L2.CX P w) 13 f fd ["web", "ask"] (spD G 2 f_answered false) :=
  fn_ok Fu sc_answered hK (by decide) (fun cdv A outer s H F E hr v =>
    (ss_cons (s_ifs (PW.pt (s_tor (t_eq v (s_b (s_ix v.K v.hu (s_r 1) (s_b s_int))) (s_b (s_str [112, 105, 101, 99, 101]))) (s_tor1 (t_eq v (s_b (s_ix v.K v.hu (s_r 1) (s_b s_int))) (s_b (s_str [112, 108, 97, 99, 101])))))) (ss_one (s_ret (s_call v K_far_answer (hr.mono (by decide)) rfl (n_cons n_nil) (s_acons (s_v 1) s_anil)))) ss_nil)
    (ss_cons s_bad
    (ss_cons s_bad
    (ss_cons s_bad
    (ss_cons s_bad
    (ss_cons s_bad
    (ss_one s_bad)))))))) (fun _ _ _ => rfl)
abbrev st_is_number : Stmt := topS 113
theorem sc_is_number : FnScope ["word", "sign"] ["word"] (defScope st_is_number) := ⟨rfl, rfl, rfl, by decide +kernel, rfl, by decide +kernel, by decide +kernel⟩
theorem ok_is_number {P : Program} {w : World} {K : PySem.W.Frag} {mg : Str → Option Value} {base : Heap} {G : GE} {f : Addr} {fd : FuncData} (hK : K = G.K) (T : TF w K mg G)  (Fu : Fun K "is_number" "is_number" st_is_number f fd) :
    FnOk P w K mg base (L2.CX P w) 1 f fd ["word"] (spD G 1 f_is_number false) :=
  fn_ok Fu sc_is_number hK (by decide) (fun cdv A outer s H F E hr v =>
    (ss_cons (s_ifs (PW.pt (s_tor (t_lt v (s_b (s_bi lenD_ne (call_lenD v.K) rfl T.z_len (by decide +kernel) (s_bcons (s_r 0) s_bnil))) (s_b s_int)) (s_tor1 (t_gt v (s_b (s_bi lenD_ne (call_lenD v.K) rfl T.z_len (by decide +kernel) (s_bcons (s_r 0) s_bnil))) (s_b (s_gint rfl T.c_MOST_FIGURES.choose_spec)))))) (ss_one (s_ret s_bl)) ss_nil)
    (ss_cons (s_for v (s_iter v (s_v 0)) (g_n 1 sc_is_number.nd) (ss_one (s_ifs (t_nin v (s_r 1) (s_b (s_gstr [48, 49, 50, 51, 52, 53, 54, 55, 56, 57] rfl T.c_FIGURES.choose_spec))) (ss_one (s_ret s_bl)) ss_nil)))
    (ss_one (s_ret (s_or (s_eq v (s_r 0) (s_b (s_str [48]))) (s_one (s_ne v (s_b (s_ix v.K v.hu (s_r 0) (s_b s_int))) (s_b (s_str [48])))))))))) (fun _ _ _ => rfl)
abbrev st_is_text : Stmt := topS 114
theorem sc_is_text : FnScope ["word", "sign"] ["word"] (defScope st_is_text) := ⟨rfl, rfl, rfl, by decide +kernel, rfl, by decide +kernel, by decide +kernel⟩
theorem ok_is_text {P : Program} {w : World} {K : PySem.W.Frag} {mg : Str → Option Value} {base : Heap} {G : GE} {f : Addr} {fd : FuncData} (hK : K = G.K) (T : TF w K mg G)  (Fu : Fun K "is_text" "is_text" st_is_text f fd) :
    FnOk P w K mg base (L2.CX P w) 1 f fd ["word"] (spD G 1 f_is_text false) :=
  fn_ok Fu sc_is_text hK (by decide) (fun cdv A outer s H F E hr v =>
    (ss_cons (s_ifs (PW.pt (s_tor (t_lt v (s_b (s_bi lenD_ne (call_lenD v.K) rfl T.z_len (by decide +kernel) (s_bcons (s_r 0) s_bnil))) (s_b s_int)) (s_tor1 (t_gt v (s_b (s_bi lenD_ne (call_lenD v.K) rfl T.z_len (by decide +kernel) (s_bcons (s_r 0) s_bnil))) (s_b (s_gint rfl T.c_MOST_LETTERS_pages.choose_spec)))))) (ss_one (s_ret s_bl)) ss_nil)
    (ss_cons (s_for v (s_iter v (s_v 0)) (g_n 1 sc_is_text.nd) (ss_one (s_ifs (t_nin v (s_r 1) (s_b (s_gstr [97, 98, 99, 100, 101, 102] rfl T.c_ALL_LETTERS.choose_spec))) (ss_one (s_ret s_bl)) ss_nil)))
    (ss_one (s_ret s_bl))))) (fun _ _ _ => rfl)
abbrev st_are_of : Stmt := topS 115
theorem sc_are_of : FnScope ["words", "form", "word", "kind"] ["words", "form"] (defScope st_are_of) := ⟨rfl, rfl, rfl, by decide +kernel, rfl, by decide +kernel, by decide +kernel⟩
theorem ok_are_of {P : Program} {w : World} {K : PySem.W.Frag} {mg : Str → Option Value} {base : Heap} {G : GE} {f : Addr} {fd : FuncData} (hK : K = G.K) (T : TF w K mg G) (K_is_number : Kn P w K mg base G "is_number" 1 f_is_number false 1) (K_is_text : Kn P w K mg base G "is_text" 1 f_is_text false 1) (Fu : Fun K "are_of" "are_of" st_are_of f fd) :
    FnOk P w K mg base (L2.CX P w) 2 f fd ["words", "form"] (spD G 2 f_are_of false) :=
  fn_ok Fu sc_are_of hK (by decide) (fun cdv A outer s H F E hr v =>
    (ss_cons (s_ifs (t_ne v (s_b (s_bi lenD_ne (call_lenD v.K) rfl T.z_len (by decide +kernel) (s_bcons (s_r 0) s_bnil))) (s_b (s_bi lenD_ne (call_lenD v.K) rfl T.z_len (by decide +kernel) (s_bcons (s_r 1) s_bnil)))) (ss_one (s_ret s_bl)) ss_nil)
    (ss_cons (s_for v (s_zip v rfl T.z_zip (s_acons (s_v 0) (s_acons (s_v 1) s_anil))) (g_t v (g_cons (g_n 2 sc_are_of.nd) (g_cons (g_n 3 sc_are_of.nd) g_nil))) (ss_one (s_ifs (PW.pt (s_tor (PW.pt (s_tand (t_eq v (s_r 3) (s_b (s_str [110]))) (s_tand1 (s_tnot (s_t (s_call v K_is_number (hr.mono (by decide)) rfl (n_cons n_nil) (s_acons (s_v 2) s_anil))))))) (s_tor1 (PW.pt (s_tand (t_eq v (s_r 3) (s_b (s_str [116]))) (s_tand1 (s_tnot (s_t (s_call v K_is_text (hr.mono (by decide)) rfl (n_cons n_nil) (s_acons (s_v 2) s_anil)))))))))) (ss_one (s_ret s_bl)) ss_nil)))
    (ss_one (s_ret s_bl))))) (fun _ _ _ => rfl)
abbrev st_is_ask : Stmt := topS 116
theorem sc_is_ask : FnScope ["words", "rest"] ["words"] (defScope st_is_ask) := ⟨rfl, rfl, rfl, by decide +kernel, rfl, by decide +kernel, by decide +kernel⟩
theorem ok_is_ask {P : Program} {w : World} {K : PySem.W.Frag} {mg : Str → Option Value} {base : Heap} {G : GE} {f : Addr} {fd : FuncData} (hK : K = G.K) (T : TF w K mg G) (K_are_of : Kn P w K mg base G "are_of" 2 f_are_of false 2) (Fu : Fun K "is_ask" "is_ask" st_is_ask f fd) :
    FnOk P w K mg base (L2.CX P w) 3 f fd ["words"] (spD G 1 f_is_ask false) :=
  fn_ok Fu sc_is_ask hK (by decide) (fun cdv A outer s H F E hr v =>
    (ss_cons (s_set 1 (s_sl v.K (s_r 0) (s_oso s_int) s_ono) sc_is_ask.nd)
    (ss_cons (s_ifs (PW.pt (s_tor (t_eq v (s_b (s_ix v.K v.hu (s_r 0) (s_b s_int))) (s_b (s_str [114, 105, 110, 103]))) (s_tor1 (t_eq v (s_b (s_ix v.K v.hu (s_r 0) (s_b s_int))) (s_b (s_str [114, 111, 119])))))) (ss_one (s_ret (s_or (s_eq v (s_b (s_bi lenD_ne (call_lenD v.K) rfl T.z_len (by decide +kernel) (s_bcons (s_r 1) s_bnil))) (s_b s_int)) (s_one (s_call v K_are_of (hr.mono (by decide)) rfl (n_cons (n_cons n_nil)) (s_acons (s_v 1) (s_acons (s_str [110]) s_anil))))))) ss_nil)
    (ss_one (s_ret (s_and (s_inG T.t_FORMS (s_b (s_ix v.K v.hu (s_r 0) (s_b s_int)))) (s_one (s_call v K_are_of (hr.mono (by decide)) rfl (n_cons (n_cons n_nil)) (s_acons (s_v 1) (s_acons (s_ixG T.t_FORMS (s_b (s_ix v.K v.hu (s_r 0) (s_b s_int)))) s_anil)))))))))) (fun _ _ _ => rfl)
abbrev st_row_kind : Stmt := topS 117
theorem sc_row_kind : FnScope ["words", "rest"] ["words"] (defScope st_row_kind) := ⟨rfl, rfl, rfl, by decide +kernel, rfl, by decide +kernel, by decide +kernel⟩
theorem ok_row_kind {P : Program} {w : World} {K : PySem.W.Frag} {mg : Str → Option Value} {base : Heap} {G : GE} {f : Addr} {fd : FuncData} (hK : K = G.K) (T : TF w K mg G) (K_are_of : Kn P w K mg base G "are_of" 2 f_are_of false 2) (K_is_ask : Kn P w K mg base G "is_ask" 1 f_is_ask false 3) (Fu : Fun K "row_kind" "row_kind" st_row_kind f fd) :
    FnOk P w K mg base (L2.CX P w) 4 f fd ["words"] (spD G 1 f_row_kind false) :=
  fn_ok Fu sc_row_kind hK (by decide) (fun cdv A outer s H F E hr v =>
    (ss_cons (s_set 1 (s_sl v.K (s_r 0) (s_oso s_int) s_ono) sc_row_kind.nd)
    (ss_cons (s_ifs (PW.pt (s_tand (t_eq v (s_b (s_ix v.K v.hu (s_r 0) (s_b s_int))) (s_b (s_str [97, 108, 108]))) (s_tand1 (s_t (s_call v K_are_of (hr.mono (by decide)) rfl (n_cons (n_cons n_nil)) (s_acons (s_v 1) (s_acons (s_str [110, 110]) s_anil))))))) (ss_one (s_ret (s_str [97, 108, 108]))) ss_nil)
    (ss_cons (s_ifs (PW.pt (s_tand (t_eq v (s_b (s_ix v.K v.hu (s_r 0) (s_b s_int))) (s_b (s_str [119, 111, 114, 100, 115]))) (s_tand (t_gt v (s_b (s_bi lenD_ne (call_lenD v.K) rfl T.z_len (by decide +kernel) (s_bcons (s_r 1) s_bnil))) (s_b s_int)) (s_tand1 (s_t (s_call v K_are_of (hr.mono (by decide)) rfl (n_cons (n_cons n_nil)) (s_acons (s_v 1) (s_acons (s_mul v (s_b (s_str [116])) (s_b (s_bi lenD_ne (call_lenD v.K) rfl T.z_len (by decide +kernel) (s_bcons (s_r 1) s_bnil)))) s_anil)))))))) (ss_one (s_ret (s_str [119, 111, 114, 100, 115]))) ss_nil)
    (ss_cons (s_ifs (PW.pt (s_tand (t_eq v (s_b (s_ix v.K v.hu (s_r 0) (s_b s_int))) (s_b (s_str [98, 97, 114]))) (s_tand1 (s_t (s_call v K_are_of (hr.mono (by decide)) rfl (n_cons (n_cons n_nil)) (s_acons (s_v 1) (s_acons (s_str [116]) s_anil))))))) (ss_one (s_ret (s_str [98, 97, 114]))) ss_nil)
    (ss_cons (s_ifs (s_t (s_call v K_is_ask (hr.mono (by decide)) rfl (n_cons n_nil) (s_acons (s_v 0) s_anil))) (ss_one (s_ret (s_str [97, 115, 107]))) ss_nil)
    (ss_one (s_ret (s_str []))))))))) (fun _ _ _ => rfl)
abbrev st_may_follow : Stmt := topS 118
theorem sc_may_follow : FnScope ["kind", "last"] ["kind", "last"] (defScope st_may_follow) := ⟨rfl, rfl, rfl, by decide +kernel, rfl, by decide +kernel, by decide +kernel⟩
theorem ok_may_follow {P : Program} {w : World} {K : PySem.W.Frag} {mg : Str → Option Value} {base : Heap} {G : GE} {f : Addr} {fd : FuncData} (hK : K = G.K) (T : TF w K mg G)  (Fu : Fun K "may_follow" "may_follow" st_may_follow f fd) :
    FnOk P w K mg base (L2.CX P w) 1 f fd ["kind", "last"] (spD G 2 f_may_follow false) :=
  fn_ok Fu sc_may_follow hK (by decide) (fun cdv A outer s H F E hr v =>
    (ss_cons (s_ifs (t_eq v (s_r 1) (s_b (s_str []))) (ss_one (s_ret (s_or (s_eq v (s_r 0) (s_b (s_str [97, 108, 108]))) (s_one (s_eq v (s_r 0) (s_b (s_str [119, 111, 114, 100, 115]))))))) ss_nil)
    (ss_cons (s_ifs (t_eq v (s_r 0) (s_b (s_str [97, 108, 108]))) (ss_one (s_ret s_bl)) ss_nil)
    (ss_cons (s_ifs (t_eq v (s_r 0) (s_b (s_str [119, 111, 114, 100, 115]))) (ss_one (s_ret (s_eq v (s_r 1) (s_b (s_str [119, 111, 114, 100, 115]))))) ss_nil)
    (ss_cons (s_ifs (t_eq v (s_r 0) (s_b (s_str [98, 97, 114]))) (ss_one (s_ret (s_ne v (s_r 1) (s_b (s_str [97, 115, 107]))))) ss_nil)
    (ss_one (s_ret (s_eq v (s_r 0) (s_b (s_str [97, 115, 107])))))))))) (fun _ _ _ => rfl)
abbrev st_BadText : Stmt := inClass (topS 8) 0
theorem sc_BadText : FnScope ["self", "words", "at"] ["self", "words", "at"] (defScope st_BadText) := ⟨rfl, rfl, rfl, by decide +kernel, rfl, by decide +kernel, by decide +kernel⟩
theorem ok_BadText {P : Program} {w : World} {K : PySem.W.Frag} {mg : Str → Option Value} {base : Heap} {G : GE} {f : Addr} {fd : FuncData} (T : TF w K mg G) (Fu : Fun K "__init__" "BadText.__init__" st_BadText f fd) :
    FnOk P w K mg base (L2.CX P w) 1 f fd ["self", "words", "at"] (spEx K "at") := by
  obtain ⟨D, h1, h2, h3, h4, h5⟩ := T.o_OnceError.ex
  exact exinit_ok Fu sc_BadText rfl rfl (fun cdv A outer s H E hr => pss_cons (ps_expr (pe_clsinit rfl h1 h2 h3 h4 h5 (pa_cons (pe_var (i := 0) rfl (.inl rfl)) (pa_cons (pe_var (i := 1) rfl (.inl rfl)) pa_nil)))) (pss_cons (ps_ost (pe_var (i := 0) rfl (.inl rfl)) (pe_var (i := 2) rfl (.inl rfl))) pss_nil))
abbrev st_rows_read : Stmt := topS 119
theorem sc_rows_read : FnScope ["text", "rows", "last", "at", "line", "words", "kind"] ["text"] (defScope st_rows_read) := ⟨rfl, rfl, rfl, by decide +kernel, rfl, by decide +kernel, by decide +kernel⟩
theorem ok_rows_read {P : Program} {w : World} {K : PySem.W.Frag} {mg : Str → Option Value} {base : Heap} {G : GE} {f : Addr} {fd : FuncData} (hK : K = G.K) (T : TF w K mg G) (K_row_kind : Kn P w K mg base G "row_kind" 1 f_row_kind false 4) (K_may_follow : Kn P w K mg base G "may_follow" 2 f_may_follow false 1) (K_BadText : XmkC P w K mg base G "BadText" 9 "at" 1) (Fu : Fun K "rows_read" "rows_read" st_rows_read f fd) :
    FnOk P w K mg base (L2.CX P w) 5 f fd ["text"] (spD G 1 f_rows_read false) :=
  fn_ok Fu sc_rows_read hK (by decide) (fun cdv A outer s H F E hr v =>
    (ss_cons (s_seto 1 (s_lst s_anil) sc_rows_read.nd)
    (ss_cons (s_set 2 (s_str []) sc_rows_read.nd)
    (ss_cons (s_for v (s_enumerate v rfl T.z_enumerate (s_acons (s_f (s_split 10 (s_r 0))) s_anil)) (g_t v (g_cons (g_n 3 sc_rows_read.nd) (g_cons (g_n 4 sc_rows_read.nd) g_nil))) (ss_cons (s_set 5 (s_f (s_split 32 (s_r 4))) sc_rows_read.nd)
    (ss_cons (s_set 6 (s_call v K_row_kind (hr.mono (by decide)) rfl (n_cons n_nil) (s_acons (s_v 5) s_anil)) sc_rows_read.nd)
    (ss_cons (s_ifs (s_tnot (s_t (s_call v K_may_follow (hr.mono (by decide)) rfl (n_cons (n_cons n_nil)) (s_acons (s_v 6) (s_acons (s_v 2) s_anil))))) (ss_one (s_raiseF v K_BadText (hr.mono (by decide)) rfl (s_add v (s_r 3) (s_b s_int)))) ss_nil)
    (ss_cons (s_app 1 (s_tup (s_acons (s_v 6) (s_acons (s_sl v.K (s_r 5) (s_oso s_int) s_ono) (s_acons (s_v 5) s_anil)))))
    (ss_one (s_set 2 (s_v 6) sc_rows_read.nd)))))))
    (ss_one (s_frz 1 (s_ret (s_v 1)))))))) (fun _ _ _ => rfl)
abbrev st_count_of : Stmt := topS 33
theorem sc_count_of : FnScope ["length", "kinds", "count", "k"] ["length", "kinds"] (defScope st_count_of) := ⟨rfl, rfl, rfl, by decide +kernel, rfl, by decide +kernel, by decide +kernel⟩
theorem ok_count_of {P : Program} {w : World} {K : PySem.W.Frag} {mg : Str → Option Value} {base : Heap} {G : GE} {f : Addr} {fd : FuncData} (hK : K = G.K) (T : TF w K mg G) (K_letters : Kn P w K mg base G "letters" 1 f_letters false 1) (Fu : Fun K "count_of" "count_of" st_count_of f fd) :
    FnOk P w K mg base (L2.CX P w) 2 f fd ["length", "kinds"] (spD G 2 f_count_of false) :=
  fn_ok Fu sc_count_of hK (by decide) (fun cdv A outer s H F E hr v =>
    (ss_cons (s_x (s_call v K_letters (hr.mono (by decide)) rfl (n_cons n_nil) (s_acons (s_v 1) s_anil)))
    (ss_cons (s_ifs (PW.pt (s_tor (t_lt v (s_r 0) (s_b s_int)) (s_tor1 (t_gt v (s_r 0) (s_b (s_gint rfl T.c_LONGEST.choose_spec)))))) (ss_one (s_raiseC v T.x_BadWord rfl)) ss_nil)
    (ss_cons (s_set 2 s_int sc_count_of.nd)
    (ss_cons (s_for v (s_range1 v rfl T.z_range (s_bcons (s_r 0) s_bnil)) (g_n 3 sc_count_of.nd) (ss_one (s_set 2 (s_mul v (s_r 2) (s_r 1)) sc_count_of.nd)))
    (ss_one (s_ret (s_v 2)))))))) (fun _ _ _ => rfl)
abbrev st_word_of : Stmt := topS 34
theorem sc_word_of : FnScope ["number", "length", "kinds", "count", "signs", "k"] ["number", "length", "kinds"] (defScope st_word_of) := ⟨rfl, rfl, rfl, by decide +kernel, rfl, by decide +kernel, by decide +kernel⟩
theorem ok_word_of {P : Program} {w : World} {K : PySem.W.Frag} {mg : Str → Option Value} {base : Heap} {G : GE} {f : Addr} {fd : FuncData} (hK : K = G.K) (T : TF w K mg G) (K_count_of : Kn P w K mg base G "count_of" 2 f_count_of false 2) (Fu : Fun K "word_of" "word_of" st_word_of f fd) :
    FnOk P w K mg base (L2.CX P w) 3 f fd ["number", "length", "kinds"] (spD G 3 f_word_of false) :=
  fn_ok Fu sc_word_of hK (by decide) (fun cdv A outer s H F E hr v =>
    (ss_cons (s_set 3 (s_call v K_count_of (hr.mono (by decide)) rfl (n_cons (n_cons n_nil)) (s_acons (s_v 1) (s_acons (s_v 2) s_anil))) sc_word_of.nd)
    (ss_cons (s_ifs (PW.pt (s_tor (t_lt v (s_r 0) (s_b s_int)) (s_tor1 (t_ge v (s_r 0) (s_r 3))))) (ss_one (s_raiseC v T.x_NoSuch rfl)) ss_nil)
    (ss_cons (s_seto 4 (s_lst s_anil) sc_word_of.nd)
    (ss_cons (s_for v (s_range1 v rfl T.z_range (s_bcons (s_r 1) s_bnil)) (g_n 5 sc_word_of.nd) (ss_cons (s_app 4 (s_ix v.K v.hu (s_b (s_gstr [97, 98, 99, 100, 101, 102] rfl T.c_LETTERS.choose_spec)) (s_b (s_mod v (s_r 0) (s_r 2)))))
    (ss_one (s_set 0 (s_fdiv v (s_r 0) (s_r 2)) sc_word_of.nd))))
    (ss_one (s_ret (s_joinRev2 v rfl T.z_reversed (s_b (s_str [])) (s_r 4))))))))) (fun _ _ _ => rfl)
abbrev st_all_words : Stmt := topS 35
theorem sc_all_words : FnScope ["length", "kinds", "count", "number"] ["length", "kinds"] (defScope st_all_words) := ⟨rfl, rfl, rfl, by decide +kernel, rfl, by decide +kernel, by decide +kernel⟩
theorem ok_all_words {P : Program} {w : World} {K : PySem.W.Frag} {mg : Str → Option Value} {base : Heap} {G : GE} {f : Addr} {fd : FuncData} (hK : K = G.K) (T : TF w K mg G) (K_count_of : Kn P w K mg base G "count_of" 2 f_count_of false 2) (K_word_of : Kn P w K mg base G "word_of" 3 f_word_of false 3) (Fu : Fun K "all_words" "all_words" st_all_words f fd) :
    FnOk P w K mg base (L2.CX P w) 4 f fd ["length", "kinds"] (spD G 2 f_all_words true) :=
  fn_ok Fu sc_all_words hK (by decide) (fun cdv A outer s H F E hr v =>
    (ss_cons (s_set 2 (s_call v K_count_of (hr.mono (by decide)) rfl (n_cons (n_cons n_nil)) (s_acons (s_v 0) (s_acons (s_v 1) s_anil))) sc_all_words.nd)
    (ss_cons (s_ifs (t_gt v (s_r 2) (s_b (s_gint rfl T.c_MOST_WORDS_words.choose_spec))) (ss_one (s_raiseC v T.x_TooMany rfl)) ss_nil)
    (ss_one (s_retf (s_comp v (own := [("number", 3)]) (ok := blkOk_by (N := ["length", "kinds", "count", "number"]) (sc := defScope st_all_words) (by decide +kernel)) sc_all_words.nd (s_range1 v rfl T.z_range (s_bcons (s_r 2) s_bnil)) rfl (fun _ _ _ _ _ v => (g_n 3 sc_all_words.nd)) (fun _ _ _ _ _ v => c_none) (fun _ _ _ _ _ v => (s_call v K_word_of (hr.mono (by decide)) rfl (n_cons (n_cons (n_cons n_nil))) (s_acons (s_v 3) (s_acons (s_v 0) (s_acons (s_v 1) s_anil))))))))))) (fun _ _ _ => rfl)
abbrev st_all_told : Stmt := topS 120
theorem sc_all_told : FnScope ["length", "kinds"] ["length", "kinds"] (defScope st_all_told) := ⟨rfl, rfl, rfl, by decide +kernel, rfl, by decide +kernel, by decide +kernel⟩
theorem ok_all_told {P : Program} {w : World} {K : PySem.W.Frag} {mg : Str → Option Value} {base : Heap} {G : GE} {f : Addr} {fd : FuncData} (hK : K = G.K) (T : TF w K mg G) (K_letters : Kn P w K mg base G "letters" 1 f_letters false 1) (K_word_count : Kn P w K mg base G "word_count" 2 f_word_count false 2) (K_all_words : Kn P w K mg base G "all_words" 2 f_all_words true 4) (Fu : Fun K "all_told" "all_told" st_all_told f fd) :
    FnOk P w K mg base (L2.CX P w) 5 f fd ["length", "kinds"] (spD G 2 f_all_told false) :=
  fn_ok Fu sc_all_told hK (by decide) (fun cdv A outer s H F E hr v =>
    (ss_cons (s_x (s_call v K_letters (hr.mono (by decide)) rfl (n_cons n_nil) (s_acons (s_v 1) s_anil)))
    (ss_cons (s_ifs (PW.pt (s_tor (t_lt v (s_r 0) (s_b s_int)) (s_tor1 (t_gt v (s_r 0) (s_b (s_gint rfl T.c_MOST_LENGTH.choose_spec)))))) (ss_one (s_raiseC v T.x_BadWord rfl)) ss_nil)
    (ss_cons (s_ifs (t_gt v (s_b (s_call v K_word_count (hr.mono (by decide)) rfl (n_cons (n_cons n_nil)) (s_acons (s_v 0) (s_acons (s_v 1) s_anil)))) (s_b (s_gint rfl T.c_MOST_WORDS_pages.choose_spec))) (ss_one (s_raiseC v T.x_TooMany rfl)) ss_nil)
    (ss_one (s_ret (s_f (s_callF v K_all_words (hr.mono (by decide)) rfl (n_cons (n_cons n_nil)) (s_acons (s_v 0) (s_acons (s_v 1) s_anil)))))))))) (fun _ _ _ => rfl)
abbrev st_read_page : Stmt := topS 121
theorem sc_read_page : FnScope ["text", "rows", "words", "asks", "kind", "rest", "row", "word"] ["text"] (defScope st_read_page) := ⟨rfl, rfl, rfl, by decide +kernel, rfl, by decide +kernel, by decide +kernel⟩
theorem ok_read_page {P : Program} {w : World} {K : PySem.W.Frag} {mg : Str → Option Value} {base : Heap} {G : GE} {f : Addr} {fd : FuncData} (hK : K = G.K) (T : TF w K mg G) (K_rows_read : Kn P w K mg base G "rows_read" 1 f_rows_read false 5) (K_all_told : Kn P w K mg base G "all_told" 2 f_all_told false 5) (K_Web : KnC P w K mg base G "Web" 0 2 1 f_Web 2) (Fu : Fun K "read_page" "read_page" st_read_page f fd) :
    FnOk P w K mg base (L2.CX P w) 6 f fd ["text"] (spD G 1 f_read_page false) :=
  fn_ok Fu sc_read_page hK (by decide) (fun cdv A outer s H F E hr v =>
    (ss_cons (s_set 1 (s_call v K_rows_read (hr.mono (by decide)) rfl (n_cons n_nil) (s_acons (s_v 0) s_anil)) sc_read_page.nd)
    (ss_cons (s_set 2 (s_f (s_lst s_anil)) sc_read_page.nd)
    (ss_cons (s_seto 3 (s_lst s_anil) sc_read_page.nd)
    (ss_cons (s_for v (s_iter v (s_v 1)) (g_t v (g_cons (g_n 4 sc_read_page.nd) (g_cons (g_n 5 sc_read_page.nd) (g_cons (g_n 6 sc_read_page.nd) g_nil)))) (ss_one (s_ifs (t_eq v (s_r 4) (s_b (s_str [97, 108, 108]))) (ss_one (s_set 2 (s_call v K_all_told (hr.mono (by decide)) rfl (n_cons (n_cons n_nil)) (s_acons (s_ty intY_ne call_intY rfl T.z_int (by decide +kernel) (s_bcons (s_b (s_ix v.K v.hu (s_r 5) (s_b s_int))) s_bnil)) (s_acons (s_ty intY_ne call_intY rfl T.z_int (by decide +kernel) (s_bcons (s_b (s_ix v.K v.hu (s_r 5) (s_b s_int))) s_bnil)) s_anil))) sc_read_page.nd)) (ss_one (s_ifs (t_eq v (s_r 4) (s_b (s_str [119, 111, 114, 100, 115]))) (ss_one (s_set 2 (s_add v (s_r 2) (s_r 5)) sc_read_page.nd)) (ss_one (s_ifs (t_eq v (s_r 4) (s_b (s_str [98, 97, 114]))) (ss_one (s_setcS v 2 (own := [("word", 7)]) (ok := blkOk_by (N := ["text", "rows", "words", "asks", "kind", "rest", "row", "word"]) (sc := defScope st_read_page) (by decide +kernel)) sc_read_page.nd (s_iter v (s_v 2)) rfl (fun _ _ _ _ _ v => (g_n 7 sc_read_page.nd)) (fun _ _ _ _ _ v => (c_one (t_nin v (s_b (s_ix v.K v.hu (s_r 5) (s_b s_int))) (s_r 7)))) (fun _ _ _ _ _ v => (s_v 7)))) (ss_one (s_app 3 (s_ty tupleD_ne (call_tupleD v.K) rfl T.z_tuple (by decide +kernel) (s_bcons (s_r 6) s_bnil)))))))))))
    (ss_one (s_frz 3 (s_ret (s_tup (s_acons (s_f (s_make v K_Web (hr.mono (by decide)) rfl (n_cons n_nil) (s_acons (s_v 2) s_anil))) (s_acons (s_v 3) s_anil))))))))))) (fun _ _ _ => rfl)
abbrev st_answers : Stmt := topS 131
theorem sc_answers : FnScope ["text", "web", "asks", "ask"] ["text"] (defScope st_answers) := ⟨rfl, rfl, rfl, by decide +kernel, rfl, by decide +kernel, by decide +kernel⟩
theorem ok_answers {P : Program} {w : World} {K : PySem.W.Frag} {mg : Str → Option Value} {base : Heap} {G : GE} {f : Addr} {fd : FuncData} (hK : K = G.K) (T : TF w K mg G) (K_read_page : Kn P w K mg base G "read_page" 1 f_read_page false 6) (K_answered : Kn P w K mg base G "answered" 2 f_answered false 13) (Fu : Fun K "answers" "answers" st_answers f fd) :
    FnOk P w K mg base (L2.CX P w) 14 f fd ["text"] (spD G 1 f_answers false) :=
  fn_ok Fu sc_answers hK (by decide) (fun cdv A outer s H F E hr v =>
    (ss_cons (s_asg (s_call v K_read_page (hr.mono (by decide)) rfl (n_cons n_nil) (s_acons (s_v 0) s_anil)) (g_t v (g_cons (g_n 1 sc_answers.nd) (g_cons (g_n 2 sc_answers.nd) g_nil))))
    (ss_one (s_ret (s_f (s_comp v (own := [("ask", 3)]) (ok := blkOk_by (N := ["text", "web", "asks", "ask"]) (sc := defScope st_answers) (by decide +kernel)) sc_answers.nd (s_iter v (s_v 2)) rfl (fun _ _ _ _ _ v => (g_n 3 sc_answers.nd)) (fun _ _ _ _ _ v => c_none) (fun _ _ _ _ _ v => (s_call v K_answered (hr.mono (by decide)) rfl (n_cons (n_cons n_nil)) (s_acons (s_v 1) (s_acons (s_v 3) s_anil)))))))))) (fun _ _ _ => rfl)
abbrev st_law : Stmt := topS 138
theorem sc_law : FnScope ["script", "web", "asks", "due", "ask", "text", "found", "cell"] ["script"] (defScope st_law) := ⟨rfl, rfl, rfl, by decide +kernel, rfl, by decide +kernel, by decide +kernel⟩
theorem ok_law {P : Program} {w : World} {K : PySem.W.Frag} {mg : Str → Option Value} {base : Heap} {G : GE} {f : Addr} {fd : FuncData} (hK : K = G.K) (T : TF w K mg G) (K_Web : KnC P w K mg base G "Web" 0 2 1 f_Web 2) (K__law_ask : Kn P w K mg base G "_law_ask" 2 f_law_ask false 3) (K__law_due : Kn P w K mg base G "_law_due" 1 f_law_due false 11) (K_answered : Kn P w K mg base G "answered" 2 f_answered false 13) (K_answers : Kn P w K mg base G "answers" 1 f_answers false 14) (Fu : Fun K "law" "law" st_law f fd) :
    FnOk P w K mg base (L2.CX P w) 15 f fd ["script"] (spD G 1 f_law false) :=
  fn_ok Fu sc_law hK (by decide) (fun cdv A outer s H F E hr v =>
    (ss_cons (s_set 1 (s_f (s_make v K_Web (hr.mono (by decide)) rfl (n_cons n_nil) (s_acons (s_f (s_lst (s_acons (s_str [97, 98]) (s_acons (s_str [98, 97]) s_anil)))) s_anil))) sc_law.nd)
    (ss_cons (s_set 2 (s_add v (s_b (s_f (s_comp v (own := [("cell", 7)]) (ok := blkOk_by (N := ["script", "web", "asks", "due", "ask", "text", "found", "cell"]) (sc := defScope st_law) (by decide +kernel)) sc_law.nd (s_iter v (s_sl v.K (s_r 0) s_ono (s_oso s_int))) rfl (fun _ _ _ _ _ v => (g_n 7 sc_law.nd)) (fun _ _ _ _ _ v => c_none) (fun _ _ _ _ _ v => (s_call v K__law_ask (hr.mono (by decide)) rfl (n_cons (n_cons n_nil)) (s_acons (s_v 7) (s_acons s_bl s_anil))))))) (s_b (s_f (s_lst (s_acons (s_call v K__law_ask (hr.mono (by decide)) rfl (n_cons (n_cons n_nil)) (s_acons (s_bi sumD_ne (call_sumD v) rfl T.z_sum (by decide +kernel) (s_bcons (s_r 0) s_bnil)) (s_acons s_bl s_anil))) s_anil))))) sc_law.nd)
    (ss_cons (s_setcS v 3 (own := [("ask", 4)]) (ok := blkOk_by (N := ["script", "web", "asks", "due", "ask", "text", "found", "cell"]) (sc := defScope st_law) (by decide +kernel)) sc_law.nd (s_iter v (s_v 2)) rfl (fun _ _ _ _ _ v => (g_n 4 sc_law.nd)) (fun _ _ _ _ _ v => c_none) (fun _ _ _ _ _ v => (s_call v K__law_due (hr.mono (by decide)) rfl (n_cons n_nil) (s_acons (s_v 4) s_anil))))
    (ss_cons (s_for v (s_zip v rfl T.z_zip (s_acons (s_v 2) (s_acons (s_v 3) s_anil))) (g_t v (g_cons (g_n 4 sc_law.nd) (g_cons (g_n 5 sc_law.nd) g_nil))) (ss_cons (s_set 6 (s_call v K_answered (hr.mono (by decide)) rfl (n_cons (n_cons n_nil)) (s_acons (s_v 1) (s_acons (s_v 4) s_anil))) sc_law.nd)
    (ss_one (s_ifs (PW.pt (s_tor (s_tnot (s_t (s_isi v "str" rfl rfl T.z_isinstance rfl T.z_str (by decide +kernel) (s_r 6)))) (s_tor1 (t_ne v (s_r 6) (s_r 5))))) (ss_one (s_ret s_bl)) ss_nil))))
    (ss_one (s_ret (s_eq v (s_b (s_call v K_answers (hr.mono (by decide)) rfl (n_cons n_nil) (s_acons (s_join v (s_b (s_str [10])) (s_bcons (s_b (s_add v (s_b (s_f (s_lst (s_acons (s_str [119, 111, 114, 100, 115, 32, 97, 98]) (s_acons (s_str [119, 111, 114, 100, 115, 32, 98, 97]) s_anil))))) (s_b (s_f (s_comp v (own := [("ask", 4)]) (ok := blkOk_by (N := ["script", "web", "asks", "due", "ask", "text", "found", "cell"]) (sc := defScope st_law) (by decide +kernel)) sc_law.nd (s_iter v (s_v 2)) rfl (fun _ _ _ _ _ v => (g_n 4 sc_law.nd)) (fun _ _ _ _ _ v => c_none) (fun _ _ _ _ _ v => (s_joinT v (s_b (s_str [32])) (s_bcons (s_r 4) s_bnil)))))))) s_bnil)) s_anil))) (s_r 3))))))))) (fun _ _ _ => rfl)
def xtbl : List (Option (Str × List Str)) := [none, some ("BadKinds", []), some ("BadWord", []), some ("TooMany", []), none, some ("NoSuch", []), none, none, none, some ("BadText", ["at"])]
def ctbl : List (Option (Str × List Str)) := [some ("Web", []), some ("Web", ["words"]), some ("Web", ["words", "length"]), none, none, none, none]
def GOf (K : PySem.W.Frag) : GE := ⟨K, xclOf K ctbl, xclOf K xtbl⟩
theorem all_mk {l : PySem.W.OpenLaw} {w : World} {K : PySem.W.Frag} {G : GE} {h : Heap} {mg : Str → Option Value} {fa : Addr} (hK : K = G.K) (hx : G.xcl = xclOf K xtbl) (hc : G.cls = xclOf K ctbl) (X : K.In h) (Gm : h.Ns mainGlobals mg) (hfa : mg "law" = some (.ref fa))
    {od0 an0 : Option Addr} {sl0 : Array (Option Value)} {oc0 kV0 dc0 pm0 cd0 ct0 : Value} {g0 : Addr}
    {qWeb : Addr}
    {od1 an1 : Option Addr} {sl1 : Array (Option Value)} {oc1 kV1 dc1 pm1 cd1 ct1 : Value} {g1 : Addr}
    {od2 an2 : Option Addr} {sl2 : Array (Option Value)} {oc2 kV2 dc2 pm2 cd2 ct2 : Value} {g2 : Addr}
    {od3 an3 : Option Addr} {sl3 : Array (Option Value)} {oc3 kV3 dc3 pm3 cd3 ct3 : Value} {g3 : Addr}
    {od4 an4 : Option Addr} {sl4 : Array (Option Value)} {oc4 kV4 dc4 pm4 cd4 ct4 : Value} {g4 : Addr}
    {od5 an5 : Option Addr} {sl5 : Array (Option Value)} {oc5 kV5 dc5 pm5 cd5 ct5 : Value} {g5 : Addr}
    {od6 an6 : Option Addr} {sl6 : Array (Option Value)} {oc6 kV6 dc6 pm6 cd6 ct6 : Value} {g6 : Addr}
    {od7 an7 : Option Addr} {sl7 : Array (Option Value)} {oc7 kV7 dc7 pm7 cd7 ct7 : Value} {g7 : Addr}
    {od8 an8 : Option Addr} {sl8 : Array (Option Value)} {oc8 kV8 dc8 pm8 cd8 ct8 : Value} {g8 : Addr}
    {od9 an9 : Option Addr} {sl9 : Array (Option Value)} {oc9 kV9 dc9 pm9 cd9 ct9 : Value} {g9 : Addr}
    {od10 an10 : Option Addr} {sl10 : Array (Option Value)} {oc10 kV10 dc10 pm10 cd10 ct10 : Value} {g10 : Addr}
    {od11 an11 : Option Addr} {sl11 : Array (Option Value)} {oc11 kV11 dc11 pm11 cd11 ct11 : Value} {g11 : Addr}
    {od12 an12 : Option Addr} {sl12 : Array (Option Value)} {oc12 kV12 dc12 pm12 cd12 ct12 : Value} {g12 : Addr}
    {od13 an13 : Option Addr} {sl13 : Array (Option Value)} {oc13 kV13 dc13 pm13 cd13 ct13 : Value} {g13 : Addr}
    {od14 an14 : Option Addr} {sl14 : Array (Option Value)} {oc14 kV14 dc14 pm14 cd14 ct14 : Value} {g14 : Addr}
    {od15 an15 : Option Addr} {sl15 : Array (Option Value)} {oc15 kV15 dc15 pm15 cd15 ct15 : Value} {g15 : Addr}
    {od16 an16 : Option Addr} {sl16 : Array (Option Value)} {oc16 kV16 dc16 pm16 cd16 ct16 : Value} {g16 : Addr}
    {od17 an17 : Option Addr} {sl17 : Array (Option Value)} {oc17 kV17 dc17 pm17 cd17 ct17 : Value} {g17 : Addr}
    {od18 an18 : Option Addr} {sl18 : Array (Option Value)} {oc18 kV18 dc18 pm18 cd18 ct18 : Value} {g18 : Addr}
    {od19 an19 : Option Addr} {sl19 : Array (Option Value)} {oc19 kV19 dc19 pm19 cd19 ct19 : Value} {g19 : Addr}
    {od20 an20 : Option Addr} {sl20 : Array (Option Value)} {oc20 kV20 dc20 pm20 cd20 ct20 : Value} {g20 : Addr}
    {od21 an21 : Option Addr} {sl21 : Array (Option Value)} {oc21 kV21 dc21 pm21 cd21 ct21 : Value} {g21 : Addr}
    {od22 an22 : Option Addr} {sl22 : Array (Option Value)} {oc22 kV22 dc22 pm22 cd22 ct22 : Value} {g22 : Addr}
    {od23 an23 : Option Addr} {sl23 : Array (Option Value)} {oc23 kV23 dc23 pm23 cd23 ct23 : Value} {g23 : Addr}
    {od24 an24 : Option Addr} {sl24 : Array (Option Value)} {oc24 kV24 dc24 pm24 cd24 ct24 : Value} {g24 : Addr}
    {od25 an25 : Option Addr} {sl25 : Array (Option Value)} {oc25 kV25 dc25 pm25 cd25 ct25 : Value} {g25 : Addr}
    {od26 an26 : Option Addr} {sl26 : Array (Option Value)} {oc26 kV26 dc26 pm26 cd26 ct26 : Value} {g26 : Addr}
    {od27 an27 : Option Addr} {sl27 : Array (Option Value)} {oc27 kV27 dc27 pm27 cd27 ct27 : Value} {g27 : Addr}
    {od28 an28 : Option Addr} {sl28 : Array (Option Value)} {oc28 kV28 dc28 pm28 cd28 ct28 : Value} {g28 : Addr}
    {od29 an29 : Option Addr} {sl29 : Array (Option Value)} {oc29 kV29 dc29 pm29 cd29 ct29 : Value} {g29 : Addr}
    {od30 an30 : Option Addr} {sl30 : Array (Option Value)} {oc30 kV30 dc30 pm30 cd30 ct30 : Value} {g30 : Addr}
    {od31 an31 : Option Addr} {sl31 : Array (Option Value)} {oc31 kV31 dc31 pm31 cd31 ct31 : Value} {g31 : Addr}
    {od32 an32 : Option Addr} {sl32 : Array (Option Value)} {oc32 kV32 dc32 pm32 cd32 ct32 : Value} {g32 : Addr}
    {od33 an33 : Option Addr} {sl33 : Array (Option Value)} {oc33 kV33 dc33 pm33 cd33 ct33 : Value} {g33 : Addr}
    {od34 an34 : Option Addr} {sl34 : Array (Option Value)} {oc34 kV34 dc34 pm34 cd34 ct34 : Value} {g34 : Addr}
    {od35 an35 : Option Addr} {sl35 : Array (Option Value)} {oc35 kV35 dc35 pm35 cd35 ct35 : Value} {g35 : Addr}
    {od36 an36 : Option Addr} {sl36 : Array (Option Value)} {oc36 kV36 dc36 pm36 cd36 ct36 : Value} {g36 : Addr}
    {od37 an37 : Option Addr} {sl37 : Array (Option Value)} {oc37 kV37 dc37 pm37 cd37 ct37 : Value} {g37 : Addr}
    {od38 an38 : Option Addr} {sl38 : Array (Option Value)} {oc38 kV38 dc38 pm38 cd38 ct38 : Value} {g38 : Addr}
    {od39 an39 : Option Addr} {sl39 : Array (Option Value)} {oc39 kV39 dc39 pm39 cd39 ct39 : Value} {g39 : Addr}
    {od40 an40 : Option Addr} {sl40 : Array (Option Value)} {oc40 kV40 dc40 pm40 cd40 ct40 : Value} {g40 : Addr}
    {od41 an41 : Option Addr} {sl41 : Array (Option Value)} {oc41 kV41 dc41 pm41 cd41 ct41 : Value} {g41 : Addr}
    {od42 an42 : Option Addr} {sl42 : Array (Option Value)} {oc42 kV42 dc42 pm42 cd42 ct42 : Value} {g42 : Addr}
    {od43 an43 : Option Addr} {sl43 : Array (Option Value)} {oc43 kV43 dc43 pm43 cd43 ct43 : Value} {g43 : Addr}
    {qBadText : Addr}
    {od44 an44 : Option Addr} {sl44 : Array (Option Value)} {oc44 kV44 dc44 pm44 cd44 ct44 : Value} {g44 : Addr}
    {nmXBadText : _} {qnXBadText : _} {NXBadText : _} {bsXBadText : _} {bmXBadText : _} {snXBadText : _} {subXBadText : _} {abXBadText : _} {colXBadText : _} {ddXBadText : _} {k0XBadText : _} {k1XBadText : _} {k2XBadText : _} {k3XBadText : _} {k5XBadText : _}
    {od45 an45 : Option Addr} {sl45 : Array (Option Value)} {oc45 kV45 dc45 pm45 cd45 ct45 : Value} {g45 : Addr}
    {od46 an46 : Option Addr} {sl46 : Array (Option Value)} {oc46 kV46 dc46 pm46 cd46 ct46 : Value} {g46 : Addr}
    {od47 an47 : Option Addr} {sl47 : Array (Option Value)} {oc47 kV47 dc47 pm47 cd47 ct47 : Value} {g47 : Addr}
    {od48 an48 : Option Addr} {sl48 : Array (Option Value)} {oc48 kV48 dc48 pm48 cd48 ct48 : Value} {g48 : Addr}
    {od49 an49 : Option Addr} {sl49 : Array (Option Value)} {oc49 kV49 dc49 pm49 cd49 ct49 : Value} {g49 : Addr}
    {od50 an50 : Option Addr} {sl50 : Array (Option Value)} {oc50 kV50 dc50 pm50 cd50 ct50 : Value} {g50 : Addr}
    {od51 an51 : Option Addr} {sl51 : Array (Option Value)} {oc51 kV51 dc51 pm51 cd51 ct51 : Value} {g51 : Addr}
    {od52 an52 : Option Addr} {sl52 : Array (Option Value)} {oc52 kV52 dc52 pm52 cd52 ct52 : Value} {g52 : Addr}
    {tk1 : Tok}
    {tk2 : Tok}
    {tk3 : Tok}
    {tk4 : Tok}
    {tk5 : Tok}
    {tk6 : Tok}
    {tk7 : Tok}
    {tk8 : Tok}
    {tk9 : Tok}
    {tk10 : Tok}
    {tk11 : Tok}
    {tk12 : Tok}
    {tk13 : Tok}
    {tk14 : Tok}
    {qOnceError : Addr}
    {qBadKinds : Addr}
    {qBadWord : Addr}
    {qTooMany : Addr}
    {qNoSuch : Addr}
    {qFORMS : Addr} {esFORMS : Array DictEntry} {nnFORMS : Nat}
    (a0 : PySem.W.nsIn K mainGlobals "is_sound" = some (some (.ref g0))) (l0 : K.lookup g0 = some ⟨oc0, od0, .func (PySem.W.fnOf "is_sound" "is_sound" (defArgs st_is_sound) (defBody st_is_sound) (defScope st_is_sound) .none kV0 dc0 pm0 an0 cd0 ct0), sl0⟩) (c0 : PySem.W.codeIn K cd0 "is_sound" = true) (k0 : PySem.W.keepIn K (.ref g0) = true)
    (nWeb : PySem.W.nsIn K mainGlobals "Web" = some (some (.ref qWeb)))
    (a1 : PySem.W.findIn K (.ref qWeb) "__init__" = some (some (.ref g1))) (i1 : PySem.W.isFn K (.ref g1) = true) (l1 : K.lookup g1 = some ⟨oc1, od1, .func (PySem.W.fnOf "__init__" "Web.__init__" (defArgs st_Web) (defBody st_Web) (defScope st_Web) .none kV1 dc1 pm1 an1 cd1 ct1), sl1⟩) (c1 : PySem.W.codeIn K cd1 "Web.__init__" = true) (k1 : PySem.W.keepIn K (.ref g1) = true)
    (pgWeb : PySem.W.plainGet K qWeb Str.empty = true) (hdWeb : PySem.W.hasDictIn K qWeb = true) (poWeb : PySem.W.plainOver K qWeb = true) (saWeb : PySem.W.findIn K (.ref qWeb) "__setattr__" = some (some (.builtin "object.__setattr__"))) (mkWeb : PySem.W.makesIn K qWeb = true) (kcWeb : PySem.W.keepIn K (.ref qWeb) = true)
    (naWeb_words : PySem.W.findIn K (.ref qWeb) "words" = some none)
    (naWeb_length : PySem.W.findIn K (.ref qWeb) "length" = some none)
    (a2 : PySem.W.nsIn K mainGlobals "_law_stir" = some (some (.ref g2))) (l2 : K.lookup g2 = some ⟨oc2, od2, .func (PySem.W.fnOf "_law_stir" "_law_stir" (defArgs st_law_stir) (defBody st_law_stir) (defScope st_law_stir) .none kV2 dc2 pm2 an2 cd2 ct2), sl2⟩) (c2 : PySem.W.codeIn K cd2 "_law_stir" = true) (k2 : PySem.W.keepIn K (.ref g2) = true)
    (a3 : PySem.W.nsIn K mainGlobals "_law_text" = some (some (.ref g3))) (l3 : K.lookup g3 = some ⟨oc3, od3, .func (PySem.W.fnOf "_law_text" "_law_text" (defArgs st_law_text) (defBody st_law_text) (defScope st_law_text) .none kV3 dc3 pm3 an3 cd3 ct3), sl3⟩) (c3 : PySem.W.codeIn K cd3 "_law_text" = true) (k3 : PySem.W.keepIn K (.ref g3) = true)
    (a4 : PySem.W.nsIn K mainGlobals "_law_least" = some (some (.ref g4))) (l4 : K.lookup g4 = some ⟨oc4, od4, .func (PySem.W.fnOf "_law_least" "_law_least" (defArgs st_law_least) (defBody st_law_least) (defScope st_law_least) .none kV4 dc4 pm4 an4 cd4 ct4), sl4⟩) (c4 : PySem.W.codeIn K cd4 "_law_least" = true) (k4 : PySem.W.keepIn K (.ref g4) = true)
    (a5 : PySem.W.nsIn K mainGlobals "_law_ask" = some (some (.ref g5))) (l5 : K.lookup g5 = some ⟨oc5, od5, .func (PySem.W.fnOf "_law_ask" "_law_ask" (defArgs st_law_ask) (defBody st_law_ask) (defScope st_law_ask) .none kV5 dc5 pm5 an5 cd5 ct5), sl5⟩) (c5 : PySem.W.codeIn K cd5 "_law_ask" = true) (k5 : PySem.W.keepIn K (.ref g5) = true)
    (a6 : PySem.W.nsIn K mainGlobals "letters" = some (some (.ref g6))) (l6 : K.lookup g6 = some ⟨oc6, od6, .func (PySem.W.fnOf "letters" "letters" (defArgs st_letters) (defBody st_letters) (defScope st_letters) .none kV6 dc6 pm6 an6 cd6 ct6), sl6⟩) (c6 : PySem.W.codeIn K cd6 "letters" = true) (k6 : PySem.W.keepIn K (.ref g6) = true)
    (a7 : PySem.W.nsIn K mainGlobals "looked" = some (some (.ref g7))) (l7 : K.lookup g7 = some ⟨oc7, od7, .func (PySem.W.fnOf "looked" "looked" (defArgs st_looked) (defBody st_looked) (defScope st_looked) .none kV7 dc7 pm7 an7 cd7 ct7), sl7⟩) (c7 : PySem.W.codeIn K cd7 "looked" = true) (k7 : PySem.W.keepIn K (.ref g7) = true)
    (a8 : PySem.W.nsIn K mainGlobals "turns_of" = some (some (.ref g8))) (l8 : K.lookup g8 = some ⟨oc8, od8, .func (PySem.W.fnOf "turns_of" "turns_of" (defArgs st_turns_of) (defBody st_turns_of) (defScope st_turns_of) .none kV8 dc8 pm8 an8 cd8 ct8), sl8⟩) (c8 : PySem.W.codeIn K cd8 "turns_of" = true) (k8 : PySem.W.keepIn K (.ref g8) = true)
    (a9 : PySem.W.nsIn K mainGlobals "least_turn" = some (some (.ref g9))) (l9 : K.lookup g9 = some ⟨oc9, od9, .func (PySem.W.fnOf "least_turn" "least_turn" (defArgs st_least_turn) (defBody st_least_turn) (defScope st_least_turn) .none kV9 dc9 pm9 an9 cd9 ct9), sl9⟩) (c9 : PySem.W.codeIn K cd9 "least_turn" = true) (k9 : PySem.W.keepIn K (.ref g9) = true)
    (a10 : PySem.W.nsIn K mainGlobals "is_least" = some (some (.ref g10))) (l10 : K.lookup g10 = some ⟨oc10, od10, .func (PySem.W.fnOf "is_least" "is_least" (defArgs st_is_least) (defBody st_is_least) (defScope st_is_least) .none kV10 dc10 pm10 an10 cd10 ct10), sl10⟩) (c10 : PySem.W.codeIn K cd10 "is_least" = true) (k10 : PySem.W.keepIn K (.ref g10) = true)
    (a11 : PySem.W.nsIn K mainGlobals "looked_first" = some (some (.ref g11))) (l11 : K.lookup g11 = some ⟨oc11, od11, .func (PySem.W.fnOf "looked_first" "looked_first" (defArgs st_looked_first) (defBody st_looked_first) (defScope st_looked_first) .none kV11 dc11 pm11 an11 cd11 ct11), sl11⟩) (c11 : PySem.W.codeIn K cd11 "looked_first" = true) (k11 : PySem.W.keepIn K (.ref g11) = true)
    (a12 : PySem.W.nsIn K mainGlobals "word_count" = some (some (.ref g12))) (l12 : K.lookup g12 = some ⟨oc12, od12, .func (PySem.W.fnOf "word_count" "word_count" (defArgs st_word_count) (defBody st_word_count) (defScope st_word_count) .none kV12 dc12 pm12 an12 cd12 ct12), sl12⟩) (c12 : PySem.W.codeIn K cd12 "word_count" = true) (k12 : PySem.W.keepIn K (.ref g12) = true)
    (a13 : PySem.W.nsIn K mainGlobals "is_beginning" = some (some (.ref g13))) (l13 : K.lookup g13 = some ⟨oc13, od13, .func (PySem.W.fnOf "is_beginning" "is_beginning" (defArgs st_is_beginning) (defBody st_is_beginning) (defScope st_is_beginning) .none kV13 dc13 pm13 an13 cd13 ct13), sl13⟩) (c13 : PySem.W.codeIn K cd13 "is_beginning" = true) (k13 : PySem.W.keepIn K (.ref g13) = true)
    (a14 : PySem.W.nsIn K mainGlobals "last_least" = some (some (.ref g14))) (l14 : K.lookup g14 = some ⟨oc14, od14, .func (PySem.W.fnOf "last_least" "last_least" (defArgs st_last_least) (defBody st_last_least) (defScope st_last_least) .none kV14 dc14 pm14 an14 cd14 ct14), sl14⟩) (c14 : PySem.W.codeIn K cd14 "last_least" = true) (k14 : PySem.W.keepIn K (.ref g14) = true)
    (a15 : PySem.W.nsIn K mainGlobals "drops" = some (some (.ref g15))) (l15 : K.lookup g15 = some ⟨oc15, od15, .func (PySem.W.fnOf "drops" "drops" (defArgs st_drops) (defBody st_drops) (defScope st_drops) .none kV15 dc15 pm15 an15 cd15 ct15), sl15⟩) (c15 : PySem.W.codeIn K cd15 "drops" = true) (k15 : PySem.W.keepIn K (.ref g15) = true)
    (a16 : PySem.W.nsIn K mainGlobals "returns" = some (some (.ref g16))) (l16 : K.lookup g16 = some ⟨oc16, od16, .func (PySem.W.fnOf "returns" "returns" (defArgs st_returns) (defBody st_returns) (defScope st_returns) .none kV16 dc16 pm16 an16 cd16 ct16), sl16⟩) (c16 : PySem.W.codeIn K cd16 "returns" = true) (k16 : PySem.W.keepIn K (.ref g16) = true)
    (a17 : PySem.W.nsIn K mainGlobals "above" = some (some (.ref g17))) (l17 : K.lookup g17 = some ⟨oc17, od17, .func (PySem.W.fnOf "above" "above" (defArgs st_above) (defBody st_above) (defScope st_above) .none kV17 dc17 pm17 an17 cd17 ct17), sl17⟩) (c17 : PySem.W.codeIn K cd17 "above" = true) (k17 : PySem.W.keepIn K (.ref g17) = true)
    (a18 : PySem.W.nsIn K mainGlobals "up_to" = some (some (.ref g18))) (l18 : K.lookup g18 = some ⟨oc18, od18, .func (PySem.W.fnOf "up_to" "up_to" (defArgs st_up_to) (defBody st_up_to) (defScope st_up_to) .none kV18 dc18 pm18 an18 cd18 ct18), sl18⟩) (c18 : PySem.W.codeIn K cd18 "up_to" = true) (k18 : PySem.W.keepIn K (.ref g18) = true)
    (a19 : PySem.W.nsIn K mainGlobals "root" = some (some (.ref g19))) (l19 : K.lookup g19 = some ⟨oc19, od19, .func (PySem.W.fnOf "root" "root" (defArgs st_root) (defBody st_root) (defScope st_root) .none kV19 dc19 pm19 an19 cd19 ct19), sl19⟩) (c19 : PySem.W.codeIn K cd19 "root" = true) (k19 : PySem.W.keepIn K (.ref g19) = true)
    (a20 : PySem.W.nsIn K mainGlobals "words_below" = some (some (.ref g20))) (l20 : K.lookup g20 = some ⟨oc20, od20, .func (PySem.W.fnOf "words_below" "words_below" (defArgs st_words_below) (defBody st_words_below) (defScope st_words_below) .none kV20 dc20 pm20 an20 cd20 ct20), sl20⟩) (c20 : PySem.W.codeIn K cd20 "words_below" = true) (k20 : PySem.W.keepIn K (.ref g20) = true)
    (a21 : PySem.W.nsIn K mainGlobals "ring_size" = some (some (.ref g21))) (l21 : K.lookup g21 = some ⟨oc21, od21, .func (PySem.W.fnOf "ring_size" "ring_size" (defArgs st_ring_size) (defBody st_ring_size) (defScope st_ring_size) .none kV21 dc21 pm21 an21 cd21 ct21), sl21⟩) (c21 : PySem.W.codeIn K cd21 "ring_size" = true) (k21 : PySem.W.keepIn K (.ref g21) = true)
    (a22 : PySem.W.nsIn K mainGlobals "least_at" = some (some (.ref g22))) (l22 : K.lookup g22 = some ⟨oc22, od22, .func (PySem.W.fnOf "least_at" "least_at" (defArgs st_least_at) (defBody st_least_at) (defScope st_least_at) .none kV22 dc22 pm22 an22 cd22 ct22), sl22⟩) (c22 : PySem.W.codeIn K cd22 "least_at" = true) (k22 : PySem.W.keepIn K (.ref g22) = true)
    (a23 : PySem.W.nsIn K mainGlobals "letter_again" = some (some (.ref g23))) (l23 : K.lookup g23 = some ⟨oc23, od23, .func (PySem.W.fnOf "letter_again" "letter_again" (defArgs st_letter_again) (defBody st_letter_again) (defScope st_letter_again) .none kV23 dc23 pm23 an23 cd23 ct23), sl23⟩) (c23 : PySem.W.codeIn K cd23 "letter_again" = true) (k23 : PySem.W.keepIn K (.ref g23) = true)
    (a24 : PySem.W.nsIn K mainGlobals "filled_least" = some (some (.ref g24))) (l24 : K.lookup g24 = some ⟨oc24, od24, .func (PySem.W.fnOf "filled_least" "filled_least" (defArgs st_filled_least) (defBody st_filled_least) (defScope st_filled_least) .none kV24 dc24 pm24 an24 cd24 ct24), sl24⟩) (c24 : PySem.W.codeIn K cd24 "filled_least" = true) (k24 : PySem.W.keepIn K (.ref g24) = true)
    (a25 : PySem.W.nsIn K mainGlobals "next_least" = some (some (.ref g25))) (l25 : K.lookup g25 = some ⟨oc25, od25, .func (PySem.W.fnOf "next_least" "next_least" (defArgs st_next_least) (defBody st_next_least) (defScope st_next_least) .none kV25 dc25 pm25 an25 cd25 ct25), sl25⟩) (c25 : PySem.W.codeIn K cd25 "next_least" = true) (k25 : PySem.W.keepIn K (.ref g25) = true)
    (a26 : PySem.W.nsIn K mainGlobals "piece_from" = some (some (.ref g26))) (l26 : K.lookup g26 = some ⟨oc26, od26, .func (PySem.W.fnOf "piece_from" "piece_from" (defArgs st_piece_from) (defBody st_piece_from) (defScope st_piece_from) .none kV26 dc26 pm26 an26 cd26 ct26), sl26⟩) (c26 : PySem.W.codeIn K cd26 "piece_from" = true) (k26 : PySem.W.keepIn K (.ref g26) = true)
    (a27 : PySem.W.nsIn K mainGlobals "piece_at" = some (some (.ref g27))) (l27 : K.lookup g27 = some ⟨oc27, od27, .func (PySem.W.fnOf "piece_at" "piece_at" (defArgs st_piece_at) (defBody st_piece_at) (defScope st_piece_at) .none kV27 dc27 pm27 an27 cd27 ct27), sl27⟩) (c27 : PySem.W.codeIn K cd27 "piece_at" = true) (k27 : PySem.W.keepIn K (.ref g27) = true)
    (a28 : PySem.W.nsIn K mainGlobals "turn_by" = some (some (.ref g28))) (l28 : K.lookup g28 = some ⟨oc28, od28, .func (PySem.W.fnOf "turn_by" "turn_by" (defArgs st_turn_by) (defBody st_turn_by) (defScope st_turn_by) .none kV28 dc28 pm28 an28 cd28 ct28), sl28⟩) (c28 : PySem.W.codeIn K cd28 "turn_by" = true) (k28 : PySem.W.keepIn K (.ref g28) = true)
    (a29 : PySem.W.nsIn K mainGlobals "tops_behind" = some (some (.ref g29))) (l29 : K.lookup g29 = some ⟨oc29, od29, .func (PySem.W.fnOf "tops_behind" "tops_behind" (defArgs st_tops_behind) (defBody st_tops_behind) (defScope st_tops_behind) .none kV29 dc29 pm29 an29 cd29 ct29), sl29⟩) (c29 : PySem.W.codeIn K cd29 "tops_behind" = true) (k29 : PySem.W.keepIn K (.ref g29) = true)
    (a30 : PySem.W.nsIn K mainGlobals "least_beginning" = some (some (.ref g30))) (l30 : K.lookup g30 = some ⟨oc30, od30, .func (PySem.W.fnOf "least_beginning" "least_beginning" (defArgs st_least_beginning) (defBody st_least_beginning) (defScope st_least_beginning) .none kV30 dc30 pm30 an30 cd30 ct30), sl30⟩) (c30 : PySem.W.codeIn K cd30 "least_beginning" = true) (k30 : PySem.W.keepIn K (.ref g30) = true)
    (a31 : PySem.W.nsIn K mainGlobals "least_from" = some (some (.ref g31))) (l31 : K.lookup g31 = some ⟨oc31, od31, .func (PySem.W.fnOf "least_from" "least_from" (defArgs st_least_from) (defBody st_least_from) (defScope st_least_from) .none kV31 dc31 pm31 an31 cd31 ct31), sl31⟩) (c31 : PySem.W.codeIn K cd31 "least_from" = true) (k31 : PySem.W.keepIn K (.ref g31) = true)
    (a32 : PySem.W.nsIn K mainGlobals "place_of" = some (some (.ref g32))) (l32 : K.lookup g32 = some ⟨oc32, od32, .func (PySem.W.fnOf "place_of" "place_of" (defArgs st_place_of) (defBody st_place_of) (defScope st_place_of) .none kV32 dc32 pm32 an32 cd32 ct32), sl32⟩) (c32 : PySem.W.codeIn K cd32 "place_of" = true) (k32 : PySem.W.keepIn K (.ref g32) = true)
    (a33 : PySem.W.nsIn K mainGlobals "_law_due" = some (some (.ref g33))) (l33 : K.lookup g33 = some ⟨oc33, od33, .func (PySem.W.fnOf "_law_due" "_law_due" (defArgs st_law_due) (defBody st_law_due) (defScope st_law_due) .none kV33 dc33 pm33 an33 cd33 ct33), sl33⟩) (c33 : PySem.W.codeIn K cd33 "_law_due" = true) (k33 : PySem.W.keepIn K (.ref g33) = true)
    (a34 : PySem.W.nsIn K mainGlobals "far_told" = some (some (.ref g34))) (l34 : K.lookup g34 = some ⟨oc34, od34, .func (PySem.W.fnOf "far_told" "far_told" (defArgs st_far_told) (defBody st_far_told) (defScope st_far_told) .none kV34 dc34 pm34 an34 cd34 ct34), sl34⟩) (c34 : PySem.W.codeIn K cd34 "far_told" = true) (k34 : PySem.W.keepIn K (.ref g34) = true)
    (a35 : PySem.W.nsIn K mainGlobals "refused_name" = some (some (.ref g35))) (l35 : K.lookup g35 = some ⟨oc35, od35, .func (PySem.W.fnOf "refused_name" "refused_name" (defArgs st_refused_name) (defBody st_refused_name) (defScope st_refused_name) .none kV35 dc35 pm35 an35 cd35 ct35), sl35⟩) (c35 : PySem.W.codeIn K cd35 "refused_name" = true) (k35 : PySem.W.keepIn K (.ref g35) = true)
    (a36 : PySem.W.nsIn K mainGlobals "far_answer" = some (some (.ref g36))) (l36 : K.lookup g36 = some ⟨oc36, od36, .func (PySem.W.fnOf "far_answer" "far_answer" (defArgs st_far_answer) (defBody st_far_answer) (defScope st_far_answer) .none kV36 dc36 pm36 an36 cd36 ct36), sl36⟩) (c36 : PySem.W.codeIn K cd36 "far_answer" = true) (k36 : PySem.W.keepIn K (.ref g36) = true)
    (a37 : PySem.W.nsIn K mainGlobals "answered" = some (some (.ref g37))) (l37 : K.lookup g37 = some ⟨oc37, od37, .func (PySem.W.fnOf "answered" "answered" (defArgs st_answered) (defBody st_answered) (defScope st_answered) .none kV37 dc37 pm37 an37 cd37 ct37), sl37⟩) (c37 : PySem.W.codeIn K cd37 "answered" = true) (k37 : PySem.W.keepIn K (.ref g37) = true)
    (a38 : PySem.W.nsIn K mainGlobals "is_number" = some (some (.ref g38))) (l38 : K.lookup g38 = some ⟨oc38, od38, .func (PySem.W.fnOf "is_number" "is_number" (defArgs st_is_number) (defBody st_is_number) (defScope st_is_number) .none kV38 dc38 pm38 an38 cd38 ct38), sl38⟩) (c38 : PySem.W.codeIn K cd38 "is_number" = true) (k38 : PySem.W.keepIn K (.ref g38) = true)
    (a39 : PySem.W.nsIn K mainGlobals "is_text" = some (some (.ref g39))) (l39 : K.lookup g39 = some ⟨oc39, od39, .func (PySem.W.fnOf "is_text" "is_text" (defArgs st_is_text) (defBody st_is_text) (defScope st_is_text) .none kV39 dc39 pm39 an39 cd39 ct39), sl39⟩) (c39 : PySem.W.codeIn K cd39 "is_text" = true) (k39 : PySem.W.keepIn K (.ref g39) = true)
    (a40 : PySem.W.nsIn K mainGlobals "are_of" = some (some (.ref g40))) (l40 : K.lookup g40 = some ⟨oc40, od40, .func (PySem.W.fnOf "are_of" "are_of" (defArgs st_are_of) (defBody st_are_of) (defScope st_are_of) .none kV40 dc40 pm40 an40 cd40 ct40), sl40⟩) (c40 : PySem.W.codeIn K cd40 "are_of" = true) (k40 : PySem.W.keepIn K (.ref g40) = true)
    (a41 : PySem.W.nsIn K mainGlobals "is_ask" = some (some (.ref g41))) (l41 : K.lookup g41 = some ⟨oc41, od41, .func (PySem.W.fnOf "is_ask" "is_ask" (defArgs st_is_ask) (defBody st_is_ask) (defScope st_is_ask) .none kV41 dc41 pm41 an41 cd41 ct41), sl41⟩) (c41 : PySem.W.codeIn K cd41 "is_ask" = true) (k41 : PySem.W.keepIn K (.ref g41) = true)
    (a42 : PySem.W.nsIn K mainGlobals "row_kind" = some (some (.ref g42))) (l42 : K.lookup g42 = some ⟨oc42, od42, .func (PySem.W.fnOf "row_kind" "row_kind" (defArgs st_row_kind) (defBody st_row_kind) (defScope st_row_kind) .none kV42 dc42 pm42 an42 cd42 ct42), sl42⟩) (c42 : PySem.W.codeIn K cd42 "row_kind" = true) (k42 : PySem.W.keepIn K (.ref g42) = true)
    (a43 : PySem.W.nsIn K mainGlobals "may_follow" = some (some (.ref g43))) (l43 : K.lookup g43 = some ⟨oc43, od43, .func (PySem.W.fnOf "may_follow" "may_follow" (defArgs st_may_follow) (defBody st_may_follow) (defScope st_may_follow) .none kV43 dc43 pm43 an43 cd43 ct43), sl43⟩) (c43 : PySem.W.codeIn K cd43 "may_follow" = true) (k43 : PySem.W.keepIn K (.ref g43) = true)
    (nBadText : PySem.W.nsIn K mainGlobals "BadText" = some (some (.ref qBadText)))
    (a44 : PySem.W.findIn K (.ref qBadText) "__init__" = some (some (.ref g44))) (i44 : PySem.W.typeIn K (.ref g44) = some (.type "function")) (l44 : K.lookup g44 = some ⟨oc44, od44, .func (PySem.W.fnOf "__init__" "BadText.__init__" (defArgs st_BadText) (defBody st_BadText) (defScope st_BadText) .none kV44 dc44 pm44 an44 cd44 ct44), sl44⟩) (c44 : PySem.W.codeIn K cd44 "BadText.__init__" = true) (k44 : PySem.W.keepIn K (.ref g44) = true)
    (clBadText : K.lookup qBadText = some (excClassObj nmXBadText qnXBadText qBadText NXBadText bsXBadText bmXBadText true snXBadText subXBadText abXBadText colXBadText ddXBadText k0XBadText k1XBadText k2XBadText k3XBadText k5XBadText "ValueError.__new__")) (rvBadText : PySem.HandSPX.refsVE bmXBadText = true) (saBadText : PySem.W.findIn K (.ref qBadText) "__setattr__" = some (some (.builtin "object.__setattr__"))) (s3BadText : PySem.W.subIn K (.ref qBadText) (.type "BaseException") = some true) (s4BadText : PySem.W.typeIn K (.ref qBadText) = some (.type "type")) (s5BadText : PySem.W.keepIn K (.ref qBadText) = true) (naBadText : PySem.W.findIn K (.ref qBadText) "at" = some none)
    (a45 : PySem.W.nsIn K mainGlobals "rows_read" = some (some (.ref g45))) (l45 : K.lookup g45 = some ⟨oc45, od45, .func (PySem.W.fnOf "rows_read" "rows_read" (defArgs st_rows_read) (defBody st_rows_read) (defScope st_rows_read) .none kV45 dc45 pm45 an45 cd45 ct45), sl45⟩) (c45 : PySem.W.codeIn K cd45 "rows_read" = true) (k45 : PySem.W.keepIn K (.ref g45) = true)
    (a46 : PySem.W.nsIn K mainGlobals "count_of" = some (some (.ref g46))) (l46 : K.lookup g46 = some ⟨oc46, od46, .func (PySem.W.fnOf "count_of" "count_of" (defArgs st_count_of) (defBody st_count_of) (defScope st_count_of) .none kV46 dc46 pm46 an46 cd46 ct46), sl46⟩) (c46 : PySem.W.codeIn K cd46 "count_of" = true) (k46 : PySem.W.keepIn K (.ref g46) = true)
    (a47 : PySem.W.nsIn K mainGlobals "word_of" = some (some (.ref g47))) (l47 : K.lookup g47 = some ⟨oc47, od47, .func (PySem.W.fnOf "word_of" "word_of" (defArgs st_word_of) (defBody st_word_of) (defScope st_word_of) .none kV47 dc47 pm47 an47 cd47 ct47), sl47⟩) (c47 : PySem.W.codeIn K cd47 "word_of" = true) (k47 : PySem.W.keepIn K (.ref g47) = true)
    (a48 : PySem.W.nsIn K mainGlobals "all_words" = some (some (.ref g48))) (l48 : K.lookup g48 = some ⟨oc48, od48, .func (PySem.W.fnOf "all_words" "all_words" (defArgs st_all_words) (defBody st_all_words) (defScope st_all_words) .none kV48 dc48 pm48 an48 cd48 ct48), sl48⟩) (c48 : PySem.W.codeIn K cd48 "all_words" = true) (k48 : PySem.W.keepIn K (.ref g48) = true)
    (a49 : PySem.W.nsIn K mainGlobals "all_told" = some (some (.ref g49))) (l49 : K.lookup g49 = some ⟨oc49, od49, .func (PySem.W.fnOf "all_told" "all_told" (defArgs st_all_told) (defBody st_all_told) (defScope st_all_told) .none kV49 dc49 pm49 an49 cd49 ct49), sl49⟩) (c49 : PySem.W.codeIn K cd49 "all_told" = true) (k49 : PySem.W.keepIn K (.ref g49) = true)
    (a50 : PySem.W.nsIn K mainGlobals "read_page" = some (some (.ref g50))) (l50 : K.lookup g50 = some ⟨oc50, od50, .func (PySem.W.fnOf "read_page" "read_page" (defArgs st_read_page) (defBody st_read_page) (defScope st_read_page) .none kV50 dc50 pm50 an50 cd50 ct50), sl50⟩) (c50 : PySem.W.codeIn K cd50 "read_page" = true) (k50 : PySem.W.keepIn K (.ref g50) = true)
    (a51 : PySem.W.nsIn K mainGlobals "answers" = some (some (.ref g51))) (l51 : K.lookup g51 = some ⟨oc51, od51, .func (PySem.W.fnOf "answers" "answers" (defArgs st_answers) (defBody st_answers) (defScope st_answers) .none kV51 dc51 pm51 an51 cd51 ct51), sl51⟩) (c51 : PySem.W.codeIn K cd51 "answers" = true) (k51 : PySem.W.keepIn K (.ref g51) = true)
    (a52 : PySem.W.nsIn K mainGlobals "law" = some (some (.ref g52))) (l52 : K.lookup g52 = some ⟨oc52, od52, .func (PySem.W.fnOf "law" "law" (defArgs st_law) (defBody st_law) (defScope st_law) .none kV52 dc52 pm52 an52 cd52 ct52), sl52⟩) (c52 : PySem.W.codeIn K cd52 "law" = true) (k52 : PySem.W.keepIn K (.ref g52) = true)
    (z1 : PySem.W.nsIn K mainGlobals "ALL_LETTERS" = some (some (.str "abcdef" tk1)))
    (z2 : PySem.W.nsIn K mainGlobals "FIGURES" = some (some (.str "0123456789" tk2)))
    (z3 : PySem.W.nsIn K mainGlobals "LETTERS" = some (some (.str "abcdef" tk3)))
    (z4 : PySem.W.nsIn K mainGlobals "LONGEST" = some (some (.int 24 tk4)))
    (z5 : PySem.W.nsIn K mainGlobals "MOST_FIGURES" = some (some (.int 60 tk5)))
    (z6 : PySem.W.nsIn K mainGlobals "MOST_LENGTH" = some (some (.int 8 tk6)))
    (z7 : PySem.W.nsIn K mainGlobals "MOST_LETTERS_pages" = some (some (.int 200 tk7)))
    (z8 : PySem.W.nsIn K mainGlobals "MOST_LETTERS_primes" = some (some (.int 24 tk8)))
    (z9 : PySem.W.nsIn K mainGlobals "MOST_LETTERS_webs" = some (some (.int 8 tk9)))
    (z10 : PySem.W.nsIn K mainGlobals "MOST_PIECE" = some (some (.int 200 tk10)))
    (z11 : PySem.W.nsIn K mainGlobals "MOST_WORDS_pages" = some (some (.int 64 tk11)))
    (z12 : PySem.W.nsIn K mainGlobals "MOST_WORDS_webs" = some (some (.int 64 tk12)))
    (z13 : PySem.W.nsIn K mainGlobals "MOST_WORDS_words" = some (some (.int 4096 tk13)))
    (z14 : PySem.W.nsIn K mainGlobals "SIGNS" = some (some (.str "abcdef" tk14)))
    (z31 : PySem.W.nsIn K mainGlobals "enumerate" = some none)
    (z32 : PySem.W.nsIn K mainGlobals "int" = some none)
    (z33 : PySem.W.nsIn K mainGlobals "isinstance" = some none)
    (z34 : PySem.W.nsIn K mainGlobals "len" = some none)
    (z35 : PySem.W.nsIn K mainGlobals "max" = some none)
    (z36 : PySem.W.nsIn K mainGlobals "min" = some none)
    (z37 : PySem.W.nsIn K mainGlobals "range" = some none)
    (z38 : PySem.W.nsIn K mainGlobals "reversed" = some none)
    (z39 : PySem.W.nsIn K mainGlobals "set" = some none)
    (z40 : PySem.W.nsIn K mainGlobals "sorted" = some none)
    (z41 : PySem.W.nsIn K mainGlobals "str" = some none)
    (z42 : PySem.W.nsIn K mainGlobals "sum" = some none)
    (z43 : PySem.W.nsIn K mainGlobals "tuple" = some none)
    (z44 : PySem.W.nsIn K mainGlobals "zip" = some none)
    (nOnceError : PySem.W.nsIn K mainGlobals "OnceError" = some (some (.ref qOnceError)))
    (nBadKinds : PySem.W.nsIn K mainGlobals "BadKinds" = some (some (.ref qBadKinds)))
    (nBadWord : PySem.W.nsIn K mainGlobals "BadWord" = some (some (.ref qBadWord)))
    (nTooMany : PySem.W.nsIn K mainGlobals "TooMany" = some (some (.ref qTooMany)))
    (nNoSuch : PySem.W.nsIn K mainGlobals "NoSuch" = some (some (.ref qNoSuch)))
    (bn : PySem.W.specialIn K (.builtin "object.__class__") "__get__" = some (some (.builtin "getset_descriptor.__get__")))
    (bt : PySem.W.takesIn K (.builtin "object.__class__") = some true)
    (b1BadKinds : PySem.W.isClsIn K qBadKinds = true)
    (b2BadKinds : PySem.W.findIn K (.ref qBadKinds) "__getattribute__" = some (some (.builtin "BaseException.__getattribute__")))
    (b3BadKinds : PySem.W.findIn K (.ref qBadKinds) "__getattr__" = some none)
    (b4BadKinds : PySem.W.subIn K (.ref qBadKinds) (.type "BaseException") = some true)
    (b5BadKinds : PySem.W.findIn K (.ref qBadKinds) "__class__" = some (some (.builtin "object.__class__")))
    (b6BadKinds : PySem.W.mroIn K qBadKinds (.type "object") = some true)
    (b1BadWord : PySem.W.isClsIn K qBadWord = true)
    (b2BadWord : PySem.W.findIn K (.ref qBadWord) "__getattribute__" = some (some (.builtin "BaseException.__getattribute__")))
    (b3BadWord : PySem.W.findIn K (.ref qBadWord) "__getattr__" = some none)
    (b4BadWord : PySem.W.subIn K (.ref qBadWord) (.type "BaseException") = some true)
    (b5BadWord : PySem.W.findIn K (.ref qBadWord) "__class__" = some (some (.builtin "object.__class__")))
    (b6BadWord : PySem.W.mroIn K qBadWord (.type "object") = some true)
    (b1TooMany : PySem.W.isClsIn K qTooMany = true)
    (b2TooMany : PySem.W.findIn K (.ref qTooMany) "__getattribute__" = some (some (.builtin "BaseException.__getattribute__")))
    (b3TooMany : PySem.W.findIn K (.ref qTooMany) "__getattr__" = some none)
    (b4TooMany : PySem.W.subIn K (.ref qTooMany) (.type "BaseException") = some true)
    (b5TooMany : PySem.W.findIn K (.ref qTooMany) "__class__" = some (some (.builtin "object.__class__")))
    (b6TooMany : PySem.W.mroIn K qTooMany (.type "object") = some true)
    (b1NoSuch : PySem.W.isClsIn K qNoSuch = true)
    (b2NoSuch : PySem.W.findIn K (.ref qNoSuch) "__getattribute__" = some (some (.builtin "BaseException.__getattribute__")))
    (b3NoSuch : PySem.W.findIn K (.ref qNoSuch) "__getattr__" = some none)
    (b4NoSuch : PySem.W.subIn K (.ref qNoSuch) (.type "BaseException") = some true)
    (b5NoSuch : PySem.W.findIn K (.ref qNoSuch) "__class__" = some (some (.builtin "object.__class__")))
    (b6NoSuch : PySem.W.mroIn K qNoSuch (.type "object") = some true)
    (b1BadText : PySem.W.isClsIn K qBadText = true)
    (b2BadText : PySem.W.findIn K (.ref qBadText) "__getattribute__" = some (some (.builtin "BaseException.__getattribute__")))
    (b3BadText : PySem.W.findIn K (.ref qBadText) "__getattr__" = some none)
    (b4BadText : PySem.W.subIn K (.ref qBadText) (.type "BaseException") = some true)
    (b5BadText : PySem.W.findIn K (.ref qBadText) "__class__" = some (some (.builtin "object.__class__")))
    (b6BadText : PySem.W.mroIn K qBadText (.type "object") = some true)
    (eBadKinds_BadKinds : PySem.W.exmOne K (.ref qBadKinds) (.ref qBadKinds) = some (isX 1 1))
    (eBadKinds_BadWord : PySem.W.exmOne K (.ref qBadWord) (.ref qBadKinds) = some (isX 2 1))
    (eBadKinds_TooMany : PySem.W.exmOne K (.ref qTooMany) (.ref qBadKinds) = some (isX 3 1))
    (eBadKinds_NoSuch : PySem.W.exmOne K (.ref qNoSuch) (.ref qBadKinds) = some (isX 5 1))
    (eBadKinds_BadText : PySem.W.exmOne K (.ref qBadText) (.ref qBadKinds) = some (isX 9 1))
    (eBadWord_BadKinds : PySem.W.exmOne K (.ref qBadKinds) (.ref qBadWord) = some (isX 1 2))
    (eBadWord_BadWord : PySem.W.exmOne K (.ref qBadWord) (.ref qBadWord) = some (isX 2 2))
    (eBadWord_TooMany : PySem.W.exmOne K (.ref qTooMany) (.ref qBadWord) = some (isX 3 2))
    (eBadWord_NoSuch : PySem.W.exmOne K (.ref qNoSuch) (.ref qBadWord) = some (isX 5 2))
    (eBadWord_BadText : PySem.W.exmOne K (.ref qBadText) (.ref qBadWord) = some (isX 9 2))
    (eNoSuch_BadKinds : PySem.W.exmOne K (.ref qBadKinds) (.ref qNoSuch) = some (isX 1 5))
    (eNoSuch_BadWord : PySem.W.exmOne K (.ref qBadWord) (.ref qNoSuch) = some (isX 2 5))
    (eNoSuch_TooMany : PySem.W.exmOne K (.ref qTooMany) (.ref qNoSuch) = some (isX 3 5))
    (eNoSuch_NoSuch : PySem.W.exmOne K (.ref qNoSuch) (.ref qNoSuch) = some (isX 5 5))
    (eNoSuch_BadText : PySem.W.exmOne K (.ref qBadText) (.ref qNoSuch) = some (isX 9 5))
    (eOnceError_BadKinds : PySem.W.exmOne K (.ref qBadKinds) (.ref qOnceError) = some (isX 1 0))
    (eOnceError_BadWord : PySem.W.exmOne K (.ref qBadWord) (.ref qOnceError) = some (isX 2 0))
    (eOnceError_TooMany : PySem.W.exmOne K (.ref qTooMany) (.ref qOnceError) = some (isX 3 0))
    (eOnceError_NoSuch : PySem.W.exmOne K (.ref qNoSuch) (.ref qOnceError) = some (isX 5 0))
    (eOnceError_BadText : PySem.W.exmOne K (.ref qBadText) (.ref qOnceError) = some (isX 9 0))
    (eTooMany_BadKinds : PySem.W.exmOne K (.ref qBadKinds) (.ref qTooMany) = some (isX 1 3))
    (eTooMany_BadWord : PySem.W.exmOne K (.ref qBadWord) (.ref qTooMany) = some (isX 2 3))
    (eTooMany_TooMany : PySem.W.exmOne K (.ref qTooMany) (.ref qTooMany) = some (isX 3 3))
    (eTooMany_NoSuch : PySem.W.exmOne K (.ref qNoSuch) (.ref qTooMany) = some (isX 5 3))
    (eTooMany_BadText : PySem.W.exmOne K (.ref qBadText) (.ref qTooMany) = some (isX 9 3))
    (i0BadWord : PySem.W.kitOne K (.type "NoneType") (.ref qBadWord) = some false)
    (iBadWord_BadKinds : PySem.W.kitOne K (.ref qBadKinds) (.ref qBadWord) = some (isX 1 2))
    (iBadWord_BadWord : PySem.W.kitOne K (.ref qBadWord) (.ref qBadWord) = some (isX 2 2))
    (iBadWord_TooMany : PySem.W.kitOne K (.ref qTooMany) (.ref qBadWord) = some (isX 3 2))
    (iBadWord_NoSuch : PySem.W.kitOne K (.ref qNoSuch) (.ref qBadWord) = some (isX 5 2))
    (iBadWord_BadText : PySem.W.kitOne K (.ref qBadText) (.ref qBadWord) = some (isX 9 2))
    (i0NoSuch : PySem.W.kitOne K (.type "NoneType") (.ref qNoSuch) = some false)
    (iNoSuch_BadKinds : PySem.W.kitOne K (.ref qBadKinds) (.ref qNoSuch) = some (isX 1 5))
    (iNoSuch_BadWord : PySem.W.kitOne K (.ref qBadWord) (.ref qNoSuch) = some (isX 2 5))
    (iNoSuch_TooMany : PySem.W.kitOne K (.ref qTooMany) (.ref qNoSuch) = some (isX 3 5))
    (iNoSuch_NoSuch : PySem.W.kitOne K (.ref qNoSuch) (.ref qNoSuch) = some (isX 5 5))
    (iNoSuch_BadText : PySem.W.kitOne K (.ref qBadText) (.ref qNoSuch) = some (isX 9 5))
    (i0TooMany : PySem.W.kitOne K (.type "NoneType") (.ref qTooMany) = some false)
    (iTooMany_BadKinds : PySem.W.kitOne K (.ref qBadKinds) (.ref qTooMany) = some (isX 1 3))
    (iTooMany_BadWord : PySem.W.kitOne K (.ref qBadWord) (.ref qTooMany) = some (isX 2 3))
    (iTooMany_TooMany : PySem.W.kitOne K (.ref qTooMany) (.ref qTooMany) = some (isX 3 3))
    (iTooMany_NoSuch : PySem.W.kitOne K (.ref qNoSuch) (.ref qTooMany) = some (isX 5 3))
    (iTooMany_BadText : PySem.W.kitOne K (.ref qBadText) (.ref qTooMany) = some (isX 9 3))
    (o1OnceError : PySem.W.specialIn K (.ref qOnceError) "__getattribute__" = some (some (.builtin "type.__getattribute__")))
    (o2OnceError : PySem.W.typeIn K (.ref qOnceError) = some (.type "type"))
    (o3OnceError : PySem.W.readsIn K qOnceError (.type "type") = true)
    (o4OnceError : PySem.W.findCls K (.ref qOnceError) (.type "type") "__init__" = some (.val (.builtin "ValueError.__init__")))
    (nFORMS : PySem.W.nsIn K mainGlobals "FORMS" = some (some (.ref qFORMS)))
    (t1FORMS : K.lookup qFORMS = some ⟨.type "dict", none, .dict esFORMS nnFORMS, #[]⟩)
    (t2FORMS : PySem.W.KeysLit w.params esFORMS.toList)
    (t3FORMS : (qFORMS == sysModules) = false)
    (t4FORMS : entsB esFORMS.toList = ([([114, 105, 110, 103, 115], []), ([114, 111, 119, 115], []), ([110, 117, 109, 98, 101, 114], [116]), ([108, 101, 97, 100], [116, 116]), ([112, 105, 101, 99, 101], [116, 110, 110, 110]), ([112, 108, 97, 99, 101], [116, 110, 116])] : List (List Nat × List Nat)).map some)
    (t5FORMS : esFORMS.toList.any (·.refKey) = false)
    (x1BadKinds : PySem.W.excIn K qBadKinds [.type "ValueError", .type "Exception", .type "BaseException", .type "object"] "ValueError.__new__" = true)
    (x2BadKinds : PySem.W.keepIn K (.ref qBadKinds) = true)
    (x3BadKinds : PySem.W.subIn K (.ref qBadKinds) (.type "BaseException") = some true)
    (x4BadKinds : PySem.W.typeIn K (.ref qBadKinds) = some (.type "type"))
    (x1BadWord : PySem.W.excIn K qBadWord [.type "ValueError", .type "Exception", .type "BaseException", .type "object"] "ValueError.__new__" = true)
    (x2BadWord : PySem.W.keepIn K (.ref qBadWord) = true)
    (x3BadWord : PySem.W.subIn K (.ref qBadWord) (.type "BaseException") = some true)
    (x4BadWord : PySem.W.typeIn K (.ref qBadWord) = some (.type "type"))
    (x1NoSuch : PySem.W.excIn K qNoSuch [.type "ValueError", .type "Exception", .type "BaseException", .type "object"] "ValueError.__new__" = true)
    (x2NoSuch : PySem.W.keepIn K (.ref qNoSuch) = true)
    (x3NoSuch : PySem.W.subIn K (.ref qNoSuch) (.type "BaseException") = some true)
    (x4NoSuch : PySem.W.typeIn K (.ref qNoSuch) = some (.type "type"))
    (x1TooMany : PySem.W.excIn K qTooMany [.type "ValueError", .type "Exception", .type "BaseException", .type "object"] "ValueError.__new__" = true)
    (x2TooMany : PySem.W.keepIn K (.ref qTooMany) = true)
    (x3TooMany : PySem.W.subIn K (.ref qTooMany) (.type "BaseException") = some true)
    (x4TooMany : PySem.W.typeIn K (.ref qTooMany) = some (.type "type")) :
    ∃ fd : FuncData, (∀ (s : Shared) (v : Value), BindsTo s fd ⟨[v], []⟩ [("script", v)]) ∧ ∀ base : Heap, K.In base → base.Ns mainGlobals mg → FnOk l.prog w K mg base (L2.CX l.prog w) 15 fa fd ["script"] (spD G 1 f_law false) := by
  have e := hfa.symm.trans (PySem.W.mg_of X Gm a52)
  cases e
  have F0 := fun_mk (st := st_is_sound) l0 c0 k0
  have b0 := F0.binds (ps := ["word"]) fun _ _ _ _ _ _ us hl => match us, hl with | [_], _ => rfl
  have F1 := fun_mk (st := st_Web) l1 c1 k1
  have b1 := F1.binds (ps := ["self", "words"]) fun _ _ _ _ _ _ us hl => match us, hl with | [_, _], _ => rfl
  have F2 := fun_mk (st := st_law_stir) l2 c2 k2
  have b2 := F2.binds (ps := ["cell", "k"]) fun _ _ _ _ _ _ us hl => match us, hl with | [_, _], _ => rfl
  have F3 := fun_mk (st := st_law_text) l3 c3 k3
  have b3 := F3.binds (ps := ["n", "size", "kinds"]) fun _ _ _ _ _ _ us hl => match us, hl with | [_, _, _], _ => rfl
  have F4 := fun_mk (st := st_law_least) l4 c4 k4
  have b4 := F4.binds (ps := ["word"]) fun _ _ _ _ _ _ us hl => match us, hl with | [_], _ => rfl
  have F5 := fun_mk (st := st_law_ask) l5 c5 k5
  have b5 := F5.binds (ps := ["cell", "long"]) fun _ _ _ _ _ _ us hl => match us, hl with | [_, _], _ => rfl
  have F6 := fun_mk (st := st_letters) l6 c6 k6
  have b6 := F6.binds (ps := ["kinds"]) fun _ _ _ _ _ _ us hl => match us, hl with | [_], _ => rfl
  have F7 := fun_mk (st := st_looked) l7 c7 k7
  have b7 := F7.binds (ps := ["word", "kinds"]) fun _ _ _ _ _ _ us hl => match us, hl with | [_, _], _ => rfl
  have F8 := fun_mk (st := st_turns_of) l8 c8 k8
  have b8 := F8.binds (ps := ["word"]) fun _ _ _ _ _ _ us hl => match us, hl with | [_], _ => rfl
  have F9 := fun_mk (st := st_least_turn) l9 c9 k9
  have b9 := F9.binds (ps := ["word"]) fun _ _ _ _ _ _ us hl => match us, hl with | [_], _ => rfl
  have F10 := fun_mk (st := st_is_least) l10 c10 k10
  have b10 := F10.binds (ps := ["word"]) fun _ _ _ _ _ _ us hl => match us, hl with | [_], _ => rfl
  have F11 := fun_mk (st := st_looked_first) l11 c11 k11
  have b11 := F11.binds (ps := ["first", "kinds"]) fun _ _ _ _ _ _ us hl => match us, hl with | [_, _], _ => rfl
  have F12 := fun_mk (st := st_word_count) l12 c12 k12
  have b12 := F12.binds (ps := ["length", "kinds"]) fun _ _ _ _ _ _ us hl => match us, hl with | [_, _], _ => rfl
  have F13 := fun_mk (st := st_is_beginning) l13 c13 k13
  have b13 := F13.binds (ps := ["text", "length", "top"]) fun _ _ _ _ _ _ us hl => match us, hl with | [_, _, _], _ => rfl
  have F14 := fun_mk (st := st_last_least) l14 c14 k14
  have b14 := F14.binds (ps := ["word", "kinds"]) fun _ _ _ _ _ _ us hl => match us, hl with | [_, _], _ => rfl
  have F15 := fun_mk (st := st_drops) l15 c15 k15
  have b15 := F15.binds (ps := ["word", "some"]) fun _ _ _ _ _ _ us hl => match us, hl with | [_, _], _ => rfl
  have F16 := fun_mk (st := st_returns) l16 c16 k16
  have b16 := F16.binds (ps := ["down", "many"]) fun _ _ _ _ _ _ us hl => match us, hl with | [_, _], _ => rfl
  have F17 := fun_mk (st := st_above) l17 c17 k17
  have b17 := F17.binds (ps := ["word", "some"]) fun _ _ _ _ _ _ us hl => match us, hl with | [_, _], _ => rfl
  have F18 := fun_mk (st := st_up_to) l18 c18 k18
  have b18 := F18.binds (ps := ["word", "kinds"]) fun _ _ _ _ _ _ us hl => match us, hl with | [_, _], _ => rfl
  have F19 := fun_mk (st := st_root) l19 c19 k19
  have b19 := F19.binds (ps := ["word"]) fun _ _ _ _ _ _ us hl => match us, hl with | [_], _ => rfl
  have F20 := fun_mk (st := st_words_below) l20 c20 k20
  have b20 := F20.binds (ps := ["least", "kinds"]) fun _ _ _ _ _ _ us hl => match us, hl with | [_, _], _ => rfl
  have F21 := fun_mk (st := st_ring_size) l21 c21 k21
  have b21 := F21.binds (ps := ["first", "kinds"]) fun _ _ _ _ _ _ us hl => match us, hl with | [_, _], _ => rfl
  have F22 := fun_mk (st := st_least_at) l22 c22 k22
  have b22 := F22.binds (ps := ["first", "kinds", "place"]) fun _ _ _ _ _ _ us hl => match us, hl with | [_, _, _], _ => rfl
  have F23 := fun_mk (st := st_letter_again) l23 c23 k23
  have b23 := F23.binds (ps := ["text"]) fun _ _ _ _ _ _ us hl => match us, hl with | [_], _ => rfl
  have F24 := fun_mk (st := st_filled_least) l24 c24 k24
  have b24 := F24.binds (ps := ["text", "length", "some"]) fun _ _ _ _ _ _ us hl => match us, hl with | [_, _, _], _ => rfl
  have F25 := fun_mk (st := st_next_least) l25 c25 k25
  have b25 := F25.binds (ps := ["word", "kinds"]) fun _ _ _ _ _ _ us hl => match us, hl with | [_, _], _ => rfl
  have F26 := fun_mk (st := st_piece_from) l26 c26 k26
  have b26 := F26.binds (ps := ["first", "kinds", "place", "many"]) fun _ _ _ _ _ _ us hl => match us, hl with | [_, _, _, _], _ => rfl
  have F27 := fun_mk (st := st_piece_at) l27 c27 k27
  have b27 := F27.binds (ps := ["first", "kinds", "place", "many"]) fun _ _ _ _ _ _ us hl => match us, hl with | [_, _, _, _], _ => rfl
  have F28 := fun_mk (st := st_turn_by) l28 c28 k28
  have b28 := F28.binds (ps := ["word"]) fun _ _ _ _ _ _ us hl => match us, hl with | [_], _ => rfl
  have F29 := fun_mk (st := st_tops_behind) l29 c29 k29
  have b29 := F29.binds (ps := ["text", "top"]) fun _ _ _ _ _ _ us hl => match us, hl with | [_, _], _ => rfl
  have F30 := fun_mk (st := st_least_beginning) l30 c30 k30
  have b30 := F30.binds (ps := ["text", "length", "kinds"]) fun _ _ _ _ _ _ us hl => match us, hl with | [_, _, _], _ => rfl
  have F31 := fun_mk (st := st_least_from) l31 c31 k31
  have b31 := F31.binds (ps := ["first", "kinds", "text"]) fun _ _ _ _ _ _ us hl => match us, hl with | [_, _, _], _ => rfl
  have F32 := fun_mk (st := st_place_of) l32 c32 k32
  have b32 := F32.binds (ps := ["first", "kinds", "word"]) fun _ _ _ _ _ _ us hl => match us, hl with | [_, _, _], _ => rfl
  have F33 := fun_mk (st := st_law_due) l33 c33 k33
  have b33 := F33.binds (ps := ["ask"]) fun _ _ _ _ _ _ us hl => match us, hl with | [_], _ => rfl
  have F34 := fun_mk (st := st_far_told) l34 c34 k34
  have b34 := F34.binds (ps := ["ask"]) fun _ _ _ _ _ _ us hl => match us, hl with | [_], _ => rfl
  have F35 := fun_mk (st := st_refused_name) l35 c35 k35
  have b35 := F35.binds (ps := ["error"]) fun _ _ _ _ _ _ us hl => match us, hl with | [_], _ => rfl
  have F36 := fun_mk (st := st_far_answer) l36 c36 k36
  have b36 := F36.binds (ps := ["ask"]) fun _ _ _ _ _ _ us hl => match us, hl with | [_], _ => rfl
  have F37 := fun_mk (st := st_answered) l37 c37 k37
  have b37 := F37.binds (ps := ["web", "ask"]) fun _ _ _ _ _ _ us hl => match us, hl with | [_, _], _ => rfl
  have F38 := fun_mk (st := st_is_number) l38 c38 k38
  have b38 := F38.binds (ps := ["word"]) fun _ _ _ _ _ _ us hl => match us, hl with | [_], _ => rfl
  have F39 := fun_mk (st := st_is_text) l39 c39 k39
  have b39 := F39.binds (ps := ["word"]) fun _ _ _ _ _ _ us hl => match us, hl with | [_], _ => rfl
  have F40 := fun_mk (st := st_are_of) l40 c40 k40
  have b40 := F40.binds (ps := ["words", "form"]) fun _ _ _ _ _ _ us hl => match us, hl with | [_, _], _ => rfl
  have F41 := fun_mk (st := st_is_ask) l41 c41 k41
  have b41 := F41.binds (ps := ["words"]) fun _ _ _ _ _ _ us hl => match us, hl with | [_], _ => rfl
  have F42 := fun_mk (st := st_row_kind) l42 c42 k42
  have b42 := F42.binds (ps := ["words"]) fun _ _ _ _ _ _ us hl => match us, hl with | [_], _ => rfl
  have F43 := fun_mk (st := st_may_follow) l43 c43 k43
  have b43 := F43.binds (ps := ["kind", "last"]) fun _ _ _ _ _ _ us hl => match us, hl with | [_, _], _ => rfl
  have F44 := fun_mk (st := st_BadText) l44 c44 k44
  have b44 := F44.binds (ps := ["self", "words", "at"]) fun _ _ _ _ _ _ us hl => match us, hl with | [_, _, _], _ => rfl
  have F45 := fun_mk (st := st_rows_read) l45 c45 k45
  have b45 := F45.binds (ps := ["text"]) fun _ _ _ _ _ _ us hl => match us, hl with | [_], _ => rfl
  have F46 := fun_mk (st := st_count_of) l46 c46 k46
  have b46 := F46.binds (ps := ["length", "kinds"]) fun _ _ _ _ _ _ us hl => match us, hl with | [_, _], _ => rfl
  have F47 := fun_mk (st := st_word_of) l47 c47 k47
  have b47 := F47.binds (ps := ["number", "length", "kinds"]) fun _ _ _ _ _ _ us hl => match us, hl with | [_, _, _], _ => rfl
  have F48 := fun_mk (st := st_all_words) l48 c48 k48
  have b48 := F48.binds (ps := ["length", "kinds"]) fun _ _ _ _ _ _ us hl => match us, hl with | [_, _], _ => rfl
  have F49 := fun_mk (st := st_all_told) l49 c49 k49
  have b49 := F49.binds (ps := ["length", "kinds"]) fun _ _ _ _ _ _ us hl => match us, hl with | [_, _], _ => rfl
  have F50 := fun_mk (st := st_read_page) l50 c50 k50
  have b50 := F50.binds (ps := ["text"]) fun _ _ _ _ _ _ us hl => match us, hl with | [_], _ => rfl
  have F51 := fun_mk (st := st_answers) l51 c51 k51
  have b51 := F51.binds (ps := ["text"]) fun _ _ _ _ _ _ us hl => match us, hl with | [_], _ => rfl
  have F52 := fun_mk (st := st_law) l52 c52 k52
  have T : TF w K mg G := ⟨hx ▸ xcl_all (⟨⟨_, nBadKinds, ⟨b1BadKinds, b2BadKinds, b3BadKinds, b4BadKinds, b5BadKinds, bn, bt, b6BadKinds⟩⟩, ⟨⟨_, nBadWord, ⟨b1BadWord, b2BadWord, b3BadWord, b4BadWord, b5BadWord, bn, bt, b6BadWord⟩⟩, ⟨⟨_, nTooMany, ⟨b1TooMany, b2TooMany, b3TooMany, b4TooMany, b5TooMany, bn, bt, b6TooMany⟩⟩, ⟨⟨_, nNoSuch, ⟨b1NoSuch, b2NoSuch, b3NoSuch, b4NoSuch, b5NoSuch, bn, bt, b6NoSuch⟩⟩, ⟨⟨_, nBadText, ⟨b1BadText, b2BadText, b3BadText, b4BadText, b5BadText, bn, bt, b6BadText⟩⟩, trivial⟩⟩⟩⟩⟩), ⟨_, PySem.W.mg_of X Gm z1⟩, ⟨_, PySem.W.mg_of X Gm z2⟩, ⟨_, PySem.W.mg_of X Gm z3⟩, ⟨_, PySem.W.mg_of X Gm z4⟩, ⟨_, PySem.W.mg_of X Gm z5⟩, ⟨_, PySem.W.mg_of X Gm z6⟩, ⟨_, PySem.W.mg_of X Gm z7⟩, ⟨_, PySem.W.mg_of X Gm z8⟩, ⟨_, PySem.W.mg_of X Gm z9⟩, ⟨_, PySem.W.mg_of X Gm z10⟩, ⟨_, PySem.W.mg_of X Gm z11⟩, ⟨_, PySem.W.mg_of X Gm z12⟩, ⟨_, PySem.W.mg_of X Gm z13⟩, ⟨_, PySem.W.mg_of X Gm z14⟩, ⟨_, PySem.W.mg_of X Gm nBadKinds, hx ▸ xcl_all (⟨⟨_, nBadKinds, eBadKinds_BadKinds⟩, ⟨⟨_, nBadWord, eBadKinds_BadWord⟩, ⟨⟨_, nTooMany, eBadKinds_TooMany⟩, ⟨⟨_, nNoSuch, eBadKinds_NoSuch⟩, ⟨⟨_, nBadText, eBadKinds_BadText⟩, trivial⟩⟩⟩⟩⟩)⟩, ⟨_, PySem.W.mg_of X Gm nBadWord, hx ▸ xcl_all (⟨⟨_, nBadKinds, eBadWord_BadKinds⟩, ⟨⟨_, nBadWord, eBadWord_BadWord⟩, ⟨⟨_, nTooMany, eBadWord_TooMany⟩, ⟨⟨_, nNoSuch, eBadWord_NoSuch⟩, ⟨⟨_, nBadText, eBadWord_BadText⟩, trivial⟩⟩⟩⟩⟩)⟩, ⟨_, PySem.W.mg_of X Gm nNoSuch, hx ▸ xcl_all (⟨⟨_, nBadKinds, eNoSuch_BadKinds⟩, ⟨⟨_, nBadWord, eNoSuch_BadWord⟩, ⟨⟨_, nTooMany, eNoSuch_TooMany⟩, ⟨⟨_, nNoSuch, eNoSuch_NoSuch⟩, ⟨⟨_, nBadText, eNoSuch_BadText⟩, trivial⟩⟩⟩⟩⟩)⟩, ⟨_, PySem.W.mg_of X Gm nOnceError, hx ▸ xcl_all (⟨⟨_, nBadKinds, eOnceError_BadKinds⟩, ⟨⟨_, nBadWord, eOnceError_BadWord⟩, ⟨⟨_, nTooMany, eOnceError_TooMany⟩, ⟨⟨_, nNoSuch, eOnceError_NoSuch⟩, ⟨⟨_, nBadText, eOnceError_BadText⟩, trivial⟩⟩⟩⟩⟩)⟩, ⟨_, PySem.W.mg_of X Gm nTooMany, hx ▸ xcl_all (⟨⟨_, nBadKinds, eTooMany_BadKinds⟩, ⟨⟨_, nBadWord, eTooMany_BadWord⟩, ⟨⟨_, nTooMany, eTooMany_TooMany⟩, ⟨⟨_, nNoSuch, eTooMany_NoSuch⟩, ⟨⟨_, nBadText, eTooMany_BadText⟩, trivial⟩⟩⟩⟩⟩)⟩, ⟨_, PySem.W.mg_of X Gm nBadWord, i0BadWord, hx ▸ xcl_all (⟨⟨_, nBadKinds, iBadWord_BadKinds⟩, ⟨⟨_, nBadWord, iBadWord_BadWord⟩, ⟨⟨_, nTooMany, iBadWord_TooMany⟩, ⟨⟨_, nNoSuch, iBadWord_NoSuch⟩, ⟨⟨_, nBadText, iBadWord_BadText⟩, trivial⟩⟩⟩⟩⟩)⟩, ⟨_, PySem.W.mg_of X Gm nNoSuch, i0NoSuch, hx ▸ xcl_all (⟨⟨_, nBadKinds, iNoSuch_BadKinds⟩, ⟨⟨_, nBadWord, iNoSuch_BadWord⟩, ⟨⟨_, nTooMany, iNoSuch_TooMany⟩, ⟨⟨_, nNoSuch, iNoSuch_NoSuch⟩, ⟨⟨_, nBadText, iNoSuch_BadText⟩, trivial⟩⟩⟩⟩⟩)⟩, ⟨_, PySem.W.mg_of X Gm nTooMany, i0TooMany, hx ▸ xcl_all (⟨⟨_, nBadKinds, iTooMany_BadKinds⟩, ⟨⟨_, nBadWord, iTooMany_BadWord⟩, ⟨⟨_, nTooMany, iTooMany_TooMany⟩, ⟨⟨_, nNoSuch, iTooMany_NoSuch⟩, ⟨⟨_, nBadText, iTooMany_BadText⟩, trivial⟩⟩⟩⟩⟩)⟩, ⟨_, PySem.W.mg_of X Gm nOnceError, o1OnceError, o2OnceError, o3OnceError, o4OnceError⟩, ⟨_, _, hc ▸ xcl_get rfl nWeb, hc ▸ xcl_get rfl nWeb, by decide +kernel, by decide, hK ▸ ⟨pgWeb, hdWeb, poWeb, saWeb⟩, hK ▸ naWeb_length⟩, ⟨_, _, hc ▸ xcl_get rfl nWeb, hc ▸ xcl_get rfl nWeb, by decide +kernel, by decide, hK ▸ ⟨pgWeb, hdWeb, poWeb, saWeb⟩, hK ▸ naWeb_words⟩, ⟨_, _, _, PySem.W.mg_of X Gm nFORMS, ⟨t1FORMS, t2FORMS, t3FORMS⟩, t4FORMS, t5FORMS⟩, ⟨_, PySem.W.mg_of X Gm nBadKinds, x1BadKinds, x2BadKinds, x3BadKinds, x4BadKinds, hx ▸ xcl_get rfl nBadKinds⟩, ⟨_, PySem.W.mg_of X Gm nBadWord, x1BadWord, x2BadWord, x3BadWord, x4BadWord, hx ▸ xcl_get rfl nBadWord⟩, ⟨_, PySem.W.mg_of X Gm nNoSuch, x1NoSuch, x2NoSuch, x3NoSuch, x4NoSuch, hx ▸ xcl_get rfl nNoSuch⟩, ⟨_, PySem.W.mg_of X Gm nTooMany, x1TooMany, x2TooMany, x3TooMany, x4TooMany, hx ▸ xcl_get rfl nTooMany⟩, PySem.W.mg_none_of X Gm z31, PySem.W.mg_none_of X Gm z32, PySem.W.mg_none_of X Gm z33, PySem.W.mg_none_of X Gm z34, PySem.W.mg_none_of X Gm z35, PySem.W.mg_none_of X Gm z36, PySem.W.mg_none_of X Gm z37, PySem.W.mg_none_of X Gm z38, PySem.W.mg_none_of X Gm z39, PySem.W.mg_none_of X Gm z40, PySem.W.mg_none_of X Gm z41, PySem.W.mg_none_of X Gm z42, PySem.W.mg_none_of X Gm z43, PySem.W.mg_none_of X Gm z44⟩
  refine ⟨PySem.W.fnOf "law" "law" (defArgs st_law) (defBody st_law) (defScope st_law) .none kV52 dc52 pm52 an52 cd52 ct52, fun s v => .of_eq rfl, fun base _ _ => ?_⟩
  have K_is_sound : Kn l.prog w K mg base G "is_sound" 1 f_is_sound false 1 := kn_mk (ok_is_sound (P := l.prog) (w := w) (base := base) hK T  F0) (PySem.W.mg_of X Gm a0) F0.kp b0
  have K_Web : KnC l.prog w K mg base G "Web" 0 2 1 f_Web 2 := ⟨⟨_, _, _, _, ok_Web (P := l.prog) (w := w) (base := base) hK T K_is_sound F1, PySem.W.mg_of X Gm nWeb, ⟨mkWeb, a1, i1, kcWeb⟩, b1, hc ▸ xcl_get rfl nWeb⟩⟩
  have K__law_stir : Kn l.prog w K mg base G "_law_stir" 2 f_law_stir false 1 := kn_mk (ok_law_stir (P := l.prog) (w := w) (base := base) hK T  F2) (PySem.W.mg_of X Gm a2) F2.kp b2
  have K__law_text : Kn l.prog w K mg base G "_law_text" 3 f_law_text false 2 := kn_mk (ok_law_text (P := l.prog) (w := w) (base := base) hK T K__law_stir F3) (PySem.W.mg_of X Gm a3) F3.kp b3
  have K__law_least : Kn l.prog w K mg base G "_law_least" 1 f_law_least false 1 := kn_mk (ok_law_least (P := l.prog) (w := w) (base := base) hK T  F4) (PySem.W.mg_of X Gm a4) F4.kp b4
  have K__law_ask : Kn l.prog w K mg base G "_law_ask" 2 f_law_ask false 3 := kn_mk (ok_law_ask (P := l.prog) (w := w) (base := base) hK T K__law_stir K__law_text K__law_least F5) (PySem.W.mg_of X Gm a5) F5.kp b5
  have K_letters : Kn l.prog w K mg base G "letters" 1 f_letters false 1 := kn_mk (ok_letters (P := l.prog) (w := w) (base := base) hK T  F6) (PySem.W.mg_of X Gm a6) F6.kp b6
  have K_looked : Kn l.prog w K mg base G "looked" 2 f_looked false 2 := kn_mk (ok_looked (P := l.prog) (w := w) (base := base) hK T K_letters F7) (PySem.W.mg_of X Gm a7) F7.kp b7
  have K_turns_of : Kn l.prog w K mg base G "turns_of" 1 f_turns_of false 1 := kn_mk (ok_turns_of (P := l.prog) (w := w) (base := base) hK T  F8) (PySem.W.mg_of X Gm a8) F8.kp b8
  have K_least_turn : Kn l.prog w K mg base G "least_turn" 1 f_least_turn false 2 := kn_mk (ok_least_turn (P := l.prog) (w := w) (base := base) hK T K_turns_of F9) (PySem.W.mg_of X Gm a9) F9.kp b9
  have K_is_least : Kn l.prog w K mg base G "is_least" 1 f_is_least false 3 := kn_mk (ok_is_least (P := l.prog) (w := w) (base := base) hK T K_least_turn F10) (PySem.W.mg_of X Gm a10) F10.kp b10
  have K_looked_first : Kn l.prog w K mg base G "looked_first" 2 f_looked_first false 4 := kn_mk (ok_looked_first (P := l.prog) (w := w) (base := base) hK T K_looked K_is_least F11) (PySem.W.mg_of X Gm a11) F11.kp b11
  have K_word_count : Kn l.prog w K mg base G "word_count" 2 f_word_count false 2 := kn_mk (ok_word_count (P := l.prog) (w := w) (base := base) hK T K_letters F12) (PySem.W.mg_of X Gm a12) F12.kp b12
  have K_is_beginning : Kn l.prog w K mg base G "is_beginning" 3 f_is_beginning false 4 := kn_mk (ok_is_beginning (P := l.prog) (w := w) (base := base) hK T K_is_least F13) (PySem.W.mg_of X Gm a13) F13.kp b13
  have K_last_least : Kn l.prog w K mg base G "last_least" 2 f_last_least false 5 := kn_mk (ok_last_least (P := l.prog) (w := w) (base := base) hK T K_looked K_letters K_is_least K_is_beginning F14) (PySem.W.mg_of X Gm a14) F14.kp b14
  have K_drops : Kn l.prog w K mg base G "drops" 2 f_drops false 1 := kn_mk (ok_drops (P := l.prog) (w := w) (base := base) hK T  F15) (PySem.W.mg_of X Gm a15) F15.kp b15
  have K_returns : Kn l.prog w K mg base G "returns" 2 f_returns false 1 := kn_mk (ok_returns (P := l.prog) (w := w) (base := base) hK T  F16) (PySem.W.mg_of X Gm a16) F16.kp b16
  have K_above : Kn l.prog w K mg base G "above" 2 f_above false 2 := kn_mk (ok_above (P := l.prog) (w := w) (base := base) hK T K_drops K_returns F17) (PySem.W.mg_of X Gm a17) F17.kp b17
  have K_up_to : Kn l.prog w K mg base G "up_to" 2 f_up_to false 6 := kn_mk (ok_up_to (P := l.prog) (w := w) (base := base) hK T K_looked K_word_count K_last_least K_letters K_above F18) (PySem.W.mg_of X Gm a18) F18.kp b18
  have K_root : Kn l.prog w K mg base G "root" 1 f_root false 1 := kn_mk (ok_root (P := l.prog) (w := w) (base := base) hK T  F19) (PySem.W.mg_of X Gm a19) F19.kp b19
  have K_words_below : Kn l.prog w K mg base G "words_below" 2 f_words_below false 7 := kn_mk (ok_words_below (P := l.prog) (w := w) (base := base) hK T K_up_to K_root F20) (PySem.W.mg_of X Gm a20) F20.kp b20
  have K_ring_size : Kn l.prog w K mg base G "ring_size" 2 f_ring_size false 8 := kn_mk (ok_ring_size (P := l.prog) (w := w) (base := base) hK T K_looked_first K_word_count K_words_below F21) (PySem.W.mg_of X Gm a21) F21.kp b21
  have K_least_at : Kn l.prog w K mg base G "least_at" 3 f_least_at false 8 := kn_mk (ok_least_at (P := l.prog) (w := w) (base := base) hK T K_letters K_words_below K_is_least K_up_to F22) (PySem.W.mg_of X Gm a22) F22.kp b22
  have K_letter_again : Kn l.prog w K mg base G "letter_again" 1 f_letter_again false 1 := kn_mk (ok_letter_again (P := l.prog) (w := w) (base := base) hK T  F23) (PySem.W.mg_of X Gm a23) F23.kp b23
  have K_filled_least : Kn l.prog w K mg base G "filled_least" 3 f_filled_least false 5 := kn_mk (ok_filled_least (P := l.prog) (w := w) (base := base) hK T K_letter_again K_is_beginning F24) (PySem.W.mg_of X Gm a24) F24.kp b24
  have K_next_least : Kn l.prog w K mg base G "next_least" 2 f_next_least false 6 := kn_mk (ok_next_least (P := l.prog) (w := w) (base := base) hK T K_looked K_letters K_is_beginning K_filled_least F25) (PySem.W.mg_of X Gm a25) F25.kp b25
  have K_piece_from : Kn l.prog w K mg base G "piece_from" 4 f_piece_from false 9 := kn_mk (ok_piece_from (P := l.prog) (w := w) (base := base) hK T K_least_at K_root K_next_least F26) (PySem.W.mg_of X Gm a26) F26.kp b26
  have K_piece_at : Kn l.prog w K mg base G "piece_at" 4 f_piece_at false 10 := kn_mk (ok_piece_at (P := l.prog) (w := w) (base := base) hK T K_ring_size K_piece_from F27) (PySem.W.mg_of X Gm a27) F27.kp b27
  have K_turn_by : Kn l.prog w K mg base G "turn_by" 1 f_turn_by false 3 := kn_mk (ok_turn_by (P := l.prog) (w := w) (base := base) hK T K_turns_of K_least_turn F28) (PySem.W.mg_of X Gm a28) F28.kp b28
  have K_tops_behind : Kn l.prog w K mg base G "tops_behind" 2 f_tops_behind false 1 := kn_mk (ok_tops_behind (P := l.prog) (w := w) (base := base) hK T  F29) (PySem.W.mg_of X Gm a29) F29.kp b29
  have K_least_beginning : Kn l.prog w K mg base G "least_beginning" 3 f_least_beginning false 6 := kn_mk (ok_least_beginning (P := l.prog) (w := w) (base := base) hK T K_word_count K_looked K_letters K_is_beginning K_filled_least F30) (PySem.W.mg_of X Gm a30) F30.kp b30
  have K_least_from : Kn l.prog w K mg base G "least_from" 3 f_least_from false 7 := kn_mk (ok_least_from (P := l.prog) (w := w) (base := base) hK T K_least_beginning F31) (PySem.W.mg_of X Gm a31) F31.kp b31
  have K_place_of : Kn l.prog w K mg base G "place_of" 3 f_place_of false 9 := kn_mk (ok_place_of (P := l.prog) (w := w) (base := base) hK T K_ring_size K_looked K_least_turn K_root K_letters K_turn_by K_words_below K_tops_behind K_least_from F32) (PySem.W.mg_of X Gm a32) F32.kp b32
  have K__law_due : Kn l.prog w K mg base G "_law_due" 1 f_law_due false 11 := kn_mk (ok_law_due (P := l.prog) (w := w) (base := base) hK T K_piece_at K_place_of F33) (PySem.W.mg_of X Gm a33) F33.kp b33
  have K_far_told : Kn l.prog w K mg base G "far_told" 1 f_far_told false 11 := kn_mk (ok_far_told (P := l.prog) (w := w) (base := base) hK T K_piece_at K_place_of F34) (PySem.W.mg_of X Gm a34) F34.kp b34
  have K_refused_name : KnQ l.prog w K mg base G "refused_name" 1 f_refused_name 1 := kn_mkQ (ok_refused_name (P := l.prog) (w := w) (base := base) hK T  F35) (PySem.W.mg_of X Gm a35) F35.kp b35
  have K_far_answer : Kn l.prog w K mg base G "far_answer" 1 f_far_answer false 12 := kn_mk (ok_far_answer (P := l.prog) (w := w) (base := base) hK T K_far_told K_refused_name F36) (PySem.W.mg_of X Gm a36) F36.kp b36
  have K_answered : Kn l.prog w K mg base G "answered" 2 f_answered false 13 := kn_mk (ok_answered (P := l.prog) (w := w) (base := base) hK T K_far_answer F37) (PySem.W.mg_of X Gm a37) F37.kp b37
  have K_is_number : Kn l.prog w K mg base G "is_number" 1 f_is_number false 1 := kn_mk (ok_is_number (P := l.prog) (w := w) (base := base) hK T  F38) (PySem.W.mg_of X Gm a38) F38.kp b38
  have K_is_text : Kn l.prog w K mg base G "is_text" 1 f_is_text false 1 := kn_mk (ok_is_text (P := l.prog) (w := w) (base := base) hK T  F39) (PySem.W.mg_of X Gm a39) F39.kp b39
  have K_are_of : Kn l.prog w K mg base G "are_of" 2 f_are_of false 2 := kn_mk (ok_are_of (P := l.prog) (w := w) (base := base) hK T K_is_number K_is_text F40) (PySem.W.mg_of X Gm a40) F40.kp b40
  have K_is_ask : Kn l.prog w K mg base G "is_ask" 1 f_is_ask false 3 := kn_mk (ok_is_ask (P := l.prog) (w := w) (base := base) hK T K_are_of F41) (PySem.W.mg_of X Gm a41) F41.kp b41
  have K_row_kind : Kn l.prog w K mg base G "row_kind" 1 f_row_kind false 4 := kn_mk (ok_row_kind (P := l.prog) (w := w) (base := base) hK T K_are_of K_is_ask F42) (PySem.W.mg_of X Gm a42) F42.kp b42
  have K_may_follow : Kn l.prog w K mg base G "may_follow" 2 f_may_follow false 1 := kn_mk (ok_may_follow (P := l.prog) (w := w) (base := base) hK T  F43) (PySem.W.mg_of X Gm a43) F43.kp b43
  have K_BadText : XmkC l.prog w K mg base G "BadText" 9 "at" 1 := ⟨⟨_, _, _, _, ok_BadText (P := l.prog) (w := w) (base := base) T F44, PySem.W.mg_of X Gm nBadText, ⟨⟨_, _, _, _, _, _, _, _, _, _, _, _, _, _, _, clBadText, rvBadText⟩, saBadText, s3BadText, s4BadText, s5BadText⟩, naBadText, a44, i44, b44, hx ▸ xcl_get rfl nBadText⟩⟩
  have K_rows_read : Kn l.prog w K mg base G "rows_read" 1 f_rows_read false 5 := kn_mk (ok_rows_read (P := l.prog) (w := w) (base := base) hK T K_row_kind K_may_follow K_BadText F45) (PySem.W.mg_of X Gm a45) F45.kp b45
  have K_count_of : Kn l.prog w K mg base G "count_of" 2 f_count_of false 2 := kn_mk (ok_count_of (P := l.prog) (w := w) (base := base) hK T K_letters F46) (PySem.W.mg_of X Gm a46) F46.kp b46
  have K_word_of : Kn l.prog w K mg base G "word_of" 3 f_word_of false 3 := kn_mk (ok_word_of (P := l.prog) (w := w) (base := base) hK T K_count_of F47) (PySem.W.mg_of X Gm a47) F47.kp b47
  have K_all_words : Kn l.prog w K mg base G "all_words" 2 f_all_words true 4 := kn_mk (ok_all_words (P := l.prog) (w := w) (base := base) hK T K_count_of K_word_of F48) (PySem.W.mg_of X Gm a48) F48.kp b48
  have K_all_told : Kn l.prog w K mg base G "all_told" 2 f_all_told false 5 := kn_mk (ok_all_told (P := l.prog) (w := w) (base := base) hK T K_letters K_word_count K_all_words F49) (PySem.W.mg_of X Gm a49) F49.kp b49
  have K_read_page : Kn l.prog w K mg base G "read_page" 1 f_read_page false 6 := kn_mk (ok_read_page (P := l.prog) (w := w) (base := base) hK T K_rows_read K_all_told K_Web F50) (PySem.W.mg_of X Gm a50) F50.kp b50
  have K_answers : Kn l.prog w K mg base G "answers" 1 f_answers false 14 := kn_mk (ok_answers (P := l.prog) (w := w) (base := base) hK T K_read_page K_answered F51) (PySem.W.mg_of X Gm a51) F51.kp b51
  exact ok_law (P := l.prog) (w := w) (base := base) hK T K_Web K__law_ask K__law_due K_answered K_answers F52
end L81
open PySem PySem.W PyProof.Rows
set_option maxRecDepth 100000 in
set_option maxHeartbeats 0 in
theorem PySem.Challenge.cw_onceround_k81_answers_from_far_holds : PySem.Challenge.rw_onceround_k81_answers_from_far.Holds := by
  w_on; o_law; k_head; (case hw => w_witness2)
  k_fill
  refine L2.walk_of (l := PySem.Challenge.rw_onceround_k81_answers_from_far) (n := 63) (k := 15) (x := "script") (CX := fun w => L2.CX PySem.Challenge.rw_onceround_k81_answers_from_far.prog w) (sp := fun w => Z.spD (L81.GOf _) 1 L81.f_law false) rfl (by decide) rfl ⟨rfl, by decide, by decide⟩ (fun w h Y => PySem.W.kIn_of Y) ?F (fun w H a ns hl _ hS => Z.law_sp rfl L81.main H a ns hl hS) (fun _ _ _ _ _ h => Z.law_cx (P := PySem.Challenge.rw_onceround_k81_answers_from_far.prog) h)
  case F =>
    intro w mg fa h KX Gm hmg
    refine' L81.all_mk rfl rfl rfl KX Gm hmg ?a0 ?l0 ?c0 ?k0 ?nWeb ?a1 ?i1 ?l1 ?c1 ?k1 ?pgWeb ?hdWeb ?poWeb ?saWeb ?mkWeb ?kcWeb ?naWeb_words ?naWeb_length ?a2 ?l2 ?c2 ?k2 ?a3 ?l3 ?c3 ?k3 ?a4 ?l4 ?c4 ?k4 ?a5 ?l5 ?c5 ?k5 ?a6 ?l6 ?c6 ?k6 ?a7 ?l7 ?c7 ?k7 ?a8 ?l8 ?c8 ?k8 ?a9 ?l9 ?c9 ?k9 ?a10 ?l10 ?c10 ?k10 ?a11 ?l11 ?c11 ?k11 ?a12 ?l12 ?c12 ?k12 ?a13 ?l13 ?c13 ?k13 ?a14 ?l14 ?c14 ?k14 ?a15 ?l15 ?c15 ?k15 ?a16 ?l16 ?c16 ?k16 ?a17 ?l17 ?c17 ?k17 ?a18 ?l18 ?c18 ?k18 ?a19 ?l19 ?c19 ?k19 ?a20 ?l20 ?c20 ?k20 ?a21 ?l21 ?c21 ?k21 ?a22 ?l22 ?c22 ?k22 ?a23 ?l23 ?c23 ?k23 ?a24 ?l24 ?c24 ?k24 ?a25 ?l25 ?c25 ?k25 ?a26 ?l26 ?c26 ?k26 ?a27 ?l27 ?c27 ?k27 ?a28 ?l28 ?c28 ?k28 ?a29 ?l29 ?c29 ?k29 ?a30 ?l30 ?c30 ?k30 ?a31 ?l31 ?c31 ?k31 ?a32 ?l32 ?c32 ?k32 ?a33 ?l33 ?c33 ?k33 ?a34 ?l34 ?c34 ?k34 ?a35 ?l35 ?c35 ?k35 ?a36 ?l36 ?c36 ?k36 ?a37 ?l37 ?c37 ?k37 ?a38 ?l38 ?c38 ?k38 ?a39 ?l39 ?c39 ?k39 ?a40 ?l40 ?c40 ?k40 ?a41 ?l41 ?c41 ?k41 ?a42 ?l42 ?c42 ?k42 ?a43 ?l43 ?c43 ?k43 ?nBadText ?a44 ?i44 ?l44 ?c44 ?k44 ?clBadText ?rvBadText ?saBadText ?s3BadText ?s4BadText ?s5BadText ?naBadText ?a45 ?l45 ?c45 ?k45 ?a46 ?l46 ?c46 ?k46 ?a47 ?l47 ?c47 ?k47 ?a48 ?l48 ?c48 ?k48 ?a49 ?l49 ?c49 ?k49 ?a50 ?l50 ?c50 ?k50 ?a51 ?l51 ?c51 ?k51 ?a52 ?l52 ?c52 ?k52 ?z1 ?z2 ?z3 ?z4 ?z5 ?z6 ?z7 ?z8 ?z9 ?z10 ?z11 ?z12 ?z13 ?z14 ?z31 ?z32 ?z33 ?z34 ?z35 ?z36 ?z37 ?z38 ?z39 ?z40 ?z41 ?z42 ?z43 ?z44 ?nOnceError ?nBadKinds ?nBadWord ?nTooMany ?nNoSuch ?bn ?bt ?b1BadKinds ?b2BadKinds ?b3BadKinds ?b4BadKinds ?b5BadKinds ?b6BadKinds ?b1BadWord ?b2BadWord ?b3BadWord ?b4BadWord ?b5BadWord ?b6BadWord ?b1TooMany ?b2TooMany ?b3TooMany ?b4TooMany ?b5TooMany ?b6TooMany ?b1NoSuch ?b2NoSuch ?b3NoSuch ?b4NoSuch ?b5NoSuch ?b6NoSuch ?b1BadText ?b2BadText ?b3BadText ?b4BadText ?b5BadText ?b6BadText ?eBadKinds_BadKinds ?eBadKinds_BadWord ?eBadKinds_TooMany ?eBadKinds_NoSuch ?eBadKinds_BadText ?eBadWord_BadKinds ?eBadWord_BadWord ?eBadWord_TooMany ?eBadWord_NoSuch ?eBadWord_BadText ?eNoSuch_BadKinds ?eNoSuch_BadWord ?eNoSuch_TooMany ?eNoSuch_NoSuch ?eNoSuch_BadText ?eOnceError_BadKinds ?eOnceError_BadWord ?eOnceError_TooMany ?eOnceError_NoSuch ?eOnceError_BadText ?eTooMany_BadKinds ?eTooMany_BadWord ?eTooMany_TooMany ?eTooMany_NoSuch ?eTooMany_BadText ?i0BadWord ?iBadWord_BadKinds ?iBadWord_BadWord ?iBadWord_TooMany ?iBadWord_NoSuch ?iBadWord_BadText ?i0NoSuch ?iNoSuch_BadKinds ?iNoSuch_BadWord ?iNoSuch_TooMany ?iNoSuch_NoSuch ?iNoSuch_BadText ?i0TooMany ?iTooMany_BadKinds ?iTooMany_BadWord ?iTooMany_TooMany ?iTooMany_NoSuch ?iTooMany_BadText ?o1OnceError ?o2OnceError ?o3OnceError ?o4OnceError ?nFORMS ?t1FORMS ?t2FORMS ?t3FORMS ?t4FORMS ?t5FORMS ?x1BadKinds ?x2BadKinds ?x3BadKinds ?x4BadKinds ?x1BadWord ?x2BadWord ?x3BadWord ?x4BadWord ?x1NoSuch ?x2NoSuch ?x3NoSuch ?x4NoSuch ?x1TooMany ?x2TooMany ?x3TooMany ?x4TooMany
    (case a0 => k_is); (case l0 => k_is); (case c0 => k_is); (case k0 => k_is); (case nWeb => k_is); (case a1 => k_is); (case i1 => k_is); (case l1 => k_is); (case c1 => k_is); (case k1 => k_is); (case pgWeb => k_is); (case hdWeb => k_is); (case poWeb => k_is); (case saWeb => k_is); (case mkWeb => k_is); (case kcWeb => k_is); (case naWeb_words => k_is); (case naWeb_length => k_is); (case a2 => k_is); (case l2 => k_is); (case c2 => k_is); (case k2 => k_is); (case a3 => k_is); (case l3 => k_is); (case c3 => k_is); (case k3 => k_is); (case a4 => k_is); (case l4 => k_is); (case c4 => k_is); (case k4 => k_is); (case a5 => k_is); (case l5 => k_is); (case c5 => k_is); (case k5 => k_is); (case a6 => k_is); (case l6 => k_is); (case c6 => k_is); (case k6 => k_is); (case a7 => k_is); (case l7 => k_is); (case c7 => k_is); (case k7 => k_is); (case a8 => k_is); (case l8 => k_is); (case c8 => k_is); (case k8 => k_is); (case a9 => k_is); (case l9 => k_is); (case c9 => k_is); (case k9 => k_is); (case a10 => k_is); (case l10 => k_is); (case c10 => k_is); (case k10 => k_is); (case a11 => k_is); (case l11 => k_is); (case c11 => k_is); (case k11 => k_is); (case a12 => k_is); (case l12 => k_is); (case c12 => k_is); (case k12 => k_is); (case a13 => k_is); (case l13 => k_is); (case c13 => k_is); (case k13 => k_is); (case a14 => k_is); (case l14 => k_is); (case c14 => k_is); (case k14 => k_is); (case a15 => k_is); (case l15 => k_is); (case c15 => k_is); (case k15 => k_is); (case a16 => k_is); (case l16 => k_is); (case c16 => k_is); (case k16 => k_is); (case a17 => k_is); (case l17 => k_is); (case c17 => k_is); (case k17 => k_is); (case a18 => k_is); (case l18 => k_is); (case c18 => k_is); (case k18 => k_is); (case a19 => k_is); (case l19 => k_is); (case c19 => k_is); (case k19 => k_is); (case a20 => k_is); (case l20 => k_is); (case c20 => k_is); (case k20 => k_is); (case a21 => k_is); (case l21 => k_is); (case c21 => k_is); (case k21 => k_is); (case a22 => k_is); (case l22 => k_is); (case c22 => k_is); (case k22 => k_is); (case a23 => k_is); (case l23 => k_is); (case c23 => k_is); (case k23 => k_is); (case a24 => k_is); (case l24 => k_is); (case c24 => k_is); (case k24 => k_is); (case a25 => k_is); (case l25 => k_is); (case c25 => k_is); (case k25 => k_is); (case a26 => k_is); (case l26 => k_is); (case c26 => k_is); (case k26 => k_is); (case a27 => k_is); (case l27 => k_is); (case c27 => k_is); (case k27 => k_is); (case a28 => k_is); (case l28 => k_is); (case c28 => k_is); (case k28 => k_is); (case a29 => k_is); (case l29 => k_is); (case c29 => k_is); (case k29 => k_is); (case a30 => k_is); (case l30 => k_is); (case c30 => k_is); (case k30 => k_is); (case a31 => k_is); (case l31 => k_is); (case c31 => k_is); (case k31 => k_is); (case a32 => k_is); (case l32 => k_is); (case c32 => k_is); (case k32 => k_is); (case a33 => k_is); (case l33 => k_is); (case c33 => k_is); (case k33 => k_is); (case a34 => k_is); (case l34 => k_is); (case c34 => k_is); (case k34 => k_is); (case a35 => k_is); (case l35 => k_is); (case c35 => k_is); (case k35 => k_is); (case a36 => k_is); (case l36 => k_is); (case c36 => k_is); (case k36 => k_is); (case a37 => k_is); (case l37 => k_is); (case c37 => k_is); (case k37 => k_is); (case a38 => k_is); (case l38 => k_is); (case c38 => k_is); (case k38 => k_is); (case a39 => k_is); (case l39 => k_is); (case c39 => k_is); (case k39 => k_is); (case a40 => k_is); (case l40 => k_is); (case c40 => k_is); (case k40 => k_is); (case a41 => k_is); (case l41 => k_is); (case c41 => k_is); (case k41 => k_is); (case a42 => k_is); (case l42 => k_is); (case c42 => k_is); (case k42 => k_is); (case a43 => k_is); (case l43 => k_is); (case c43 => k_is); (case k43 => k_is); (case nBadText => k_is); (case a44 => k_is); (case i44 => k_is); (case l44 => k_is); (case c44 => k_is); (case k44 => k_is); (case clBadText => k_is); (case rvBadText => decide +kernel); (case saBadText => k_is); (case s3BadText => k_is); (case s4BadText => k_is); (case s5BadText => k_is); (case naBadText => k_is); (case a45 => k_is); (case l45 => k_is); (case c45 => k_is); (case k45 => k_is); (case a46 => k_is); (case l46 => k_is); (case c46 => k_is); (case k46 => k_is); (case a47 => k_is); (case l47 => k_is); (case c47 => k_is); (case k47 => k_is); (case a48 => k_is); (case l48 => k_is); (case c48 => k_is); (case k48 => k_is); (case a49 => k_is); (case l49 => k_is); (case c49 => k_is); (case k49 => k_is); (case a50 => k_is); (case l50 => k_is); (case c50 => k_is); (case k50 => k_is); (case a51 => k_is); (case l51 => k_is); (case c51 => k_is); (case k51 => k_is); (case a52 => k_is); (case l52 => k_is); (case c52 => k_is); (case k52 => k_is); (case z1 => k_is); (case z2 => k_is); (case z3 => k_is); (case z4 => k_is); (case z5 => k_is); (case z6 => k_is); (case z7 => k_is); (case z8 => k_is); (case z9 => k_is); (case z10 => k_is); (case z11 => k_is); (case z12 => k_is); (case z13 => k_is); (case z14 => k_is); (case z31 => k_is); (case z32 => k_is); (case z33 => k_is); (case z34 => k_is); (case z35 => k_is); (case z36 => k_is); (case z37 => k_is); (case z38 => k_is); (case z39 => k_is); (case z40 => k_is); (case z41 => k_is); (case z42 => k_is); (case z43 => k_is); (case z44 => k_is); (case nOnceError => k_is); (case nBadKinds => k_is); (case nBadWord => k_is); (case nTooMany => k_is); (case nNoSuch => k_is); (case bn => k_is); (case bt => k_is); (case b1BadKinds => k_is); (case b2BadKinds => k_is); (case b3BadKinds => k_is); (case b4BadKinds => k_is); (case b5BadKinds => k_is); (case b6BadKinds => k_is); (case b1BadWord => k_is); (case b2BadWord => k_is); (case b3BadWord => k_is); (case b4BadWord => k_is); (case b5BadWord => k_is); (case b6BadWord => k_is); (case b1TooMany => k_is); (case b2TooMany => k_is); (case b3TooMany => k_is); (case b4TooMany => k_is); (case b5TooMany => k_is); (case b6TooMany => k_is); (case b1NoSuch => k_is); (case b2NoSuch => k_is); (case b3NoSuch => k_is); (case b4NoSuch => k_is); (case b5NoSuch => k_is); (case b6NoSuch => k_is); (case b1BadText => k_is); (case b2BadText => k_is); (case b3BadText => k_is); (case b4BadText => k_is); (case b5BadText => k_is); (case b6BadText => k_is); (case eBadKinds_BadKinds => kts_exm); (case eBadKinds_BadWord => kts_exm); (case eBadKinds_TooMany => kts_exm); (case eBadKinds_NoSuch => kts_exm); (case eBadKinds_BadText => kts_exm); (case eBadWord_BadKinds => kts_exm); (case eBadWord_BadWord => kts_exm); (case eBadWord_TooMany => kts_exm); (case eBadWord_NoSuch => kts_exm); (case eBadWord_BadText => kts_exm); (case eNoSuch_BadKinds => kts_exm); (case eNoSuch_BadWord => kts_exm); (case eNoSuch_TooMany => kts_exm); (case eNoSuch_NoSuch => kts_exm); (case eNoSuch_BadText => kts_exm); (case eOnceError_BadKinds => kts_exm); (case eOnceError_BadWord => kts_exm); (case eOnceError_TooMany => kts_exm); (case eOnceError_NoSuch => kts_exm); (case eOnceError_BadText => kts_exm); (case eTooMany_BadKinds => kts_exm); (case eTooMany_BadWord => kts_exm); (case eTooMany_TooMany => kts_exm); (case eTooMany_NoSuch => kts_exm); (case eTooMany_BadText => kts_exm); (case i0BadWord => kit_is); (case iBadWord_BadKinds => kit_is); (case iBadWord_BadWord => kit_is); (case iBadWord_TooMany => kit_is); (case iBadWord_NoSuch => kit_is); (case iBadWord_BadText => kit_is); (case i0NoSuch => kit_is); (case iNoSuch_BadKinds => kit_is); (case iNoSuch_BadWord => kit_is); (case iNoSuch_TooMany => kit_is); (case iNoSuch_NoSuch => kit_is); (case iNoSuch_BadText => kit_is); (case i0TooMany => kit_is); (case iTooMany_BadKinds => kit_is); (case iTooMany_BadWord => kit_is); (case iTooMany_TooMany => kit_is); (case iTooMany_NoSuch => kit_is); (case iTooMany_BadText => kit_is); (case o1OnceError => k_is); (case o2OnceError => k_is); (case o3OnceError => k_is); (case o4OnceError => k_is); (case nFORMS => k_is); (case t1FORMS => k_is); (case t2FORMS => exact ⟨⟨_, _, rfl, rfl⟩, ⟨⟨_, _, rfl, rfl⟩, ⟨⟨_, _, rfl, rfl⟩, ⟨⟨_, _, rfl, rfl⟩, ⟨⟨_, _, rfl, rfl⟩, ⟨⟨_, _, rfl, rfl⟩, trivial⟩⟩⟩⟩⟩⟩); (case t3FORMS => rfl); (case t4FORMS => rfl); (case t5FORMS => rfl); (case x1BadKinds => k_exc); (case x2BadKinds => k_is); (case x3BadKinds => k_is); (case x4BadKinds => k_is); (case x1BadWord => k_exc); (case x2BadWord => k_is); (case x3BadWord => k_is); (case x4BadWord => k_is); (case x1NoSuch => k_exc); (case x2NoSuch => k_is); (case x3NoSuch => k_is); (case x4NoSuch => k_is); (case x1TooMany => k_exc); (case x2TooMany => k_is); (case x3TooMany => k_is); (case x4TooMany => k_is)
