import PyProof.Rows.All
import Wide.All
import OpenK.AllK
import Wide.FinOn
import HandS.ForMost
import HandS.ForExc
import HandS.TupAny
import HandS.Flow
import HandS.IsInst
import HandS.Style
import HandS.Text
import KE.GoesRaise
import HandS.Defaults
import HandS.Head0
import HandS.Head1
import HandS.Head2
import HandS.HeadEnd
import HandS.HeadHook1
import HandS.HeadHook2
import PySem.Challenge.RW_unringed_k65_codes
import KE.BitLaws
set_option Elab.async false
set_option linter.all false
set_option maxRecDepth 100000
/-! MP: values, things, and what stands for them in the abstract heap. -/
namespace MP
open PySem PySem.Spec PyProof.Rows L2

/-- a value: tuples (and lists that nobody changes any more) are values; ref n: the n-th thing -/
inductive D where
  | non | bl (b : Bool) | int (i : Int) | str (s : Str)
  | tup (l : List D) | lst (l : List D) | frz (l : List D) | ref (n : Nat)
  deriving Inhabited

/-- a thing that may change -/
inductive O where
  | lst (l : List D) | dct (l : List (D × D)) | ins (c : Str) (fs : List (Str × D))
  deriving Inhabited
abbrev Th := List O
abbrev Ro := List (Option D)
/-- an exception: its class, its fields -/
structure Exn where
  c : Str
  fs : List (Str × D)

inductive Res (α : Type) where
  | ok (a : α) (h : Th) | ex (x : Exn) (h : Th) | bad

/-- what is written, and where the classes stand -/
structure Cfg where
  K : PySem.W.Frag
  cl : Str → Addr

/-- where the things stand; addresses that are nobody's business (a comprehension's list while it grows) -/
structure Mu where
  m : List Addr
  p : List Addr
def Mu.out (mu : Mu) (a : Addr) : Prop := a ∉ mu.m ∧ a ∉ mu.p
def TupAt (K : PySem.W.Frag) (mu : Mu) (H : Hp) (a : Addr) (xs : List V) : Prop :=
  (Rd H a (.tup xs) ∧ mu.out a) ∨
    ∃ (o : Obj) (its : Array Value) (n : Nat), K.lookup a = some o ∧ o.cls = .type "tuple" ∧ o.data = .seq its n ∧ its.size ≤ sizeLine ∧ Vals xs its.toList
/-- a list that nobody changes any more -/
def LstAt (mu : Mu) (H : Hp) (a : Addr) (xs : List V) : Prop := H a = some (.lst xs) ∧ mu.out a
/-- a list that is known to the object (the script) -/
def FrzAt (K : PySem.W.Frag) (mu : Mu) (H : Hp) (a : Addr) (xs : List V) : Prop :=
  (Rd H a (.lst xs) ∧ mu.out a) ∨
    ∃ (o : Obj) (its : Array Value) (n : Nat), K.lookup a = some o ∧ o.cls = .type "list" ∧ o.dict = none ∧ o.data = .seq its n ∧ its.size ≤ sizeLine ∧ Vals xs its.toList

theorem TupAt.sq {K : PySem.W.Frag} {mu : Mu} {H : Hp} {a : Addr} {xs : List V} (h : TupAt K mu H a xs) : SqT K H a xs := h.elim (fun q => .inl q.1) .inr
theorem LstAt.sq {K : PySem.W.Frag} {mu : Mu} {H : Hp} {a : Addr} {xs : List V} (h : LstAt mu H a xs) : SqL K H a xs := .inl (.inl h.1)
theorem FrzAt.sq {K : PySem.W.Frag} {mu : Mu} {H : Hp} {a : Addr} {xs : List V} (h : FrzAt K mu H a xs) : SqL K H a xs := h.elim (fun q => .inl q.1) .inr

mutual
def RV (K : PySem.W.Frag) (mu : Mu) (H : Hp) : D → V → Prop
  | .non, v => v = .non
  | .bl b, v => v = .bl b
  | .int i, v => v = .int i
  | .str s, v => v = .str s
  | .tup l, v => ∃ a vs, v = .ref a ∧ TupAt K mu H a vs ∧ vs.length ≤ sizeLine ∧ RVs K mu H l vs
  | .lst l, v => ∃ a vs, v = .ref a ∧ LstAt mu H a vs ∧ vs.length ≤ sizeLine ∧ RVs K mu H l vs
  | .frz l, v => ∃ a vs, v = .ref a ∧ FrzAt K mu H a vs ∧ vs.length ≤ sizeLine ∧ RVs K mu H l vs
  | .ref n, v => ∃ a, v = .ref a ∧ mu.m[n]? = some a
def RVs (K : PySem.W.Frag) (mu : Mu) (H : Hp) : List D → List V → Prop
  | [], vs => vs = []
  | d :: ds, vs => ∃ v r, vs = v :: r ∧ RV K mu H d v ∧ RVs K mu H ds r
end

/-- fields, by name -/
def RFs (K : PySem.W.Frag) (mu : Mu) (H : Hp) : List (Str × D) → List (Str × V) → Prop
  | [], vs => vs = []
  | p :: ds, vs => ∃ v r, vs = (p.1, v) :: r ∧ RV K mu H p.2 v ∧ RFs K mu H ds r

def RO (G : Cfg) (mu : Mu) (H : Hp) (o : O) (a : Addr) : Prop := match o with
  | .lst l => ∃ vs, H a = some (.lst vs) ∧ vs.length ≤ sizeLine ∧ RVs G.K mu H l vs
  | .dct _ => False
  | .ins c fs => ∃ dx vs, H a = some (.ins (G.cl c) dx vs) ∧ RFs G.K mu H fs vs

structure RS (G : Cfg) (mu : Mu) (H : Hp) (h : Th) : Prop where
  len : mu.m.length = h.length
  nd : mu.m.Nodup
  obj : ∀ (i : Nat) (o : O) (a : Addr), h[i]? = some o → mu.m[i]? = some a → RO G mu H o a
  pr : ∀ a ∈ mu.p, a ∉ mu.m ∧ ∃ u, H a = some u

structure RE (K : PySem.W.Frag) (mu : Mu) (H : Hp) (rho : Ro) (sg : L2.St) : Prop where
  len : sg.length = rho.length
  at_ : ∀ (i : Nat) (d : D), rho[i]? = some (some d) → ∃ v, sg[i]? = some (some v) ∧ RV K mu H d v

structure Ext (mu : Mu) (H : Hp) (mu' : Mu) (H' : Hp) : Prop where
  pre : ∃ t, mu'.m = mu.m ++ t
  np : ∀ a, a ∈ mu'.p → a ∈ mu.p ∨ H a = none ∨ a ∈ mu.m
  hid : ∀ a, a ∈ mu.p → a ∈ mu'.p
  keep : ∀ a o, H a = some o → a ∉ mu.m → H' a = some o
  new : ∀ a, a ∈ mu'.m → a ∈ mu.m ∨ H a = none

theorem Ext.refl (mu : Mu) (H : Hp) : Ext mu H mu H := ⟨⟨[], by simp⟩, fun _ h => .inl h, fun _ h => h, fun _ _ e _ => e, fun _ h => .inl h⟩
theorem Ext.trans {m0 m1 m2 : Mu} {H0 H1 H2 : Hp} (a : Ext m0 H0 m1 H1) (b : Ext m1 H1 m2 H2) : Ext m0 H0 m2 H2 := by
  obtain ⟨⟨t, e⟩, p, hh, k, n⟩ := a
  obtain ⟨⟨t', e'⟩, p', hh', k', n'⟩ := b
  refine ⟨⟨t ++ t', by rw [e', e, List.append_assoc]⟩, fun c hc => ?_, fun c hc => hh' c (hh c hc), fun c o h hc => ?_, fun c hc => ?_⟩
  · have gone : H1 c = none → H0 c = none ∨ c ∈ m0.m := fun z => by
      by_cases hm : c ∈ m0.m
      · exact .inr hm
      · left
        cases q : H0 c with
        | none => rfl
        | some o =>
          rw [k c o q hm] at z
          cases z
    rcases p' c hc with z | z | z
    · exact p c z
    · exact .inr (gone z)
    · rcases n c z with z | z
      · exact .inr (.inr z)
      · exact .inr (.inl z)
  · refine k' c o (k c o h hc) fun z => ?_
    rcases n c z with z | z
    · exact hc z
    · rw [h] at z; cases z
  · rcases n' c hc with z | z
    · exact n c z
    · by_cases hm : c ∈ m0.m
      · exact .inl hm
      · refine .inr ?_
        cases q : H0 c with
        | none => rfl
        | some o =>
          rw [k c o q hm] at z
          cases z

theorem Ext.nmem {m0 m1 : Mu} {H0 H1 : Hp} (a : Ext m0 H0 m1 H1) {c : Addr} {o : HO} (h : H0 c = some o) (hc : c ∉ m0.m) : c ∉ m1.m := fun z => by
  rcases a.new c z with z | z
  · exact hc z
  · rw [h] at z; cases z
theorem Ext.out {m0 m1 : Mu} {H0 H1 : Hp} (a : Ext m0 H0 m1 H1) {c : Addr} {o : HO} (h : H0 c = some o) (hc : m0.out c) : m1.out c :=
  ⟨a.nmem h hc.1, fun z => by
    rcases a.np c z with z | z | z
    · exact hc.2 z
    · rw [h] at z; cases z
    · exact hc.1 z⟩

theorem TupAt.ext {K : PySem.W.Frag} {m0 m1 : Mu} {H0 H1 : Hp} (e : Ext m0 H0 m1 H1) {a : Addr} {xs : List V} (h : TupAt K m0 H0 a xs) : TupAt K m1 H1 a xs := by
  rcases h with ⟨q, n⟩ | h
  · left
    rcases q with q | ⟨o, q⟩
    · exact ⟨.inl (e.keep _ _ q n.1), e.out q n⟩
    · exact ⟨.inr ⟨o, e.keep _ _ q n.1⟩, e.out q n⟩
  · exact .inr h
theorem LstAt.ext {m0 m1 : Mu} {H0 H1 : Hp} (e : Ext m0 H0 m1 H1) {a : Addr} {xs : List V} (h : LstAt m0 H0 a xs) : LstAt m1 H1 a xs := ⟨e.keep _ _ h.1 h.2.1, e.out h.1 h.2⟩
theorem FrzAt.ext {K : PySem.W.Frag} {m0 m1 : Mu} {H0 H1 : Hp} (e : Ext m0 H0 m1 H1) {a : Addr} {xs : List V} (h : FrzAt K m0 H0 a xs) : FrzAt K m1 H1 a xs := by
  rcases h with ⟨q, n⟩ | h
  · left
    rcases q with q | ⟨o, q⟩
    · exact ⟨.inl (e.keep _ _ q n.1), e.out q n⟩
    · exact ⟨.inr ⟨o, e.keep _ _ q n.1⟩, e.out q n⟩
  · exact .inr h

mutual
theorem RV.ext {K : PySem.W.Frag} {m0 m1 : Mu} {H0 H1 : Hp} (e : Ext m0 H0 m1 H1) : ∀ (d : D) (v : V), RV K m0 H0 d v → RV K m1 H1 d v
  | .non, v, h => by unfold RV at *; exact h
  | .bl b, v, h => by unfold RV at *; exact h
  | .int b, v, h => by unfold RV at *; exact h
  | .str b, v, h => by unfold RV at *; exact h
  | .tup l, v, h => by
    unfold RV at *
    obtain ⟨a, vs, rfl, t, z, r⟩ := h
    exact ⟨a, vs, rfl, t.ext e, z, RVs.ext e l vs r⟩
  | .lst l, v, h => by
    unfold RV at *
    obtain ⟨a, vs, rfl, t, z, r⟩ := h
    exact ⟨a, vs, rfl, t.ext e, z, RVs.ext e l vs r⟩
  | .frz l, v, h => by
    unfold RV at *
    obtain ⟨a, vs, rfl, t, z, r⟩ := h
    exact ⟨a, vs, rfl, t.ext e, z, RVs.ext e l vs r⟩
  | .ref n, v, h => by
    unfold RV at *
    obtain ⟨a, rfl, q⟩ := h
    obtain ⟨t, ht⟩ := e.pre
    refine ⟨a, rfl, ?_⟩
    rw [ht, List.getElem?_append_left (List.getElem?_eq_some_iff.mp q).1]
    exact q
theorem RVs.ext {K : PySem.W.Frag} {m0 m1 : Mu} {H0 H1 : Hp} (e : Ext m0 H0 m1 H1) : ∀ (ds : List D) (vs : List V), RVs K m0 H0 ds vs → RVs K m1 H1 ds vs
  | [], vs, h => by unfold RVs at *; exact h
  | d :: ds, vs, h => by
    unfold RVs at *
    obtain ⟨v, r, rfl, h1, h2⟩ := h
    exact ⟨v, r, rfl, RV.ext e d v h1, RVs.ext e ds r h2⟩
end
theorem RFs.ext {K : PySem.W.Frag} {m0 m1 : Mu} {H0 H1 : Hp} (e : Ext m0 H0 m1 H1) : ∀ (ds : List (Str × D)) (vs : List (Str × V)), RFs K m0 H0 ds vs → RFs K m1 H1 ds vs
  | [], vs, h => by unfold RFs at *; exact h
  | d :: ds, vs, h => by
    unfold RFs at *
    obtain ⟨v, r, rfl, h1, h2⟩ := h
    exact ⟨v, r, rfl, RV.ext e _ v h1, RFs.ext e ds r h2⟩
/-- what stands at a thing's place stays if the place is as it was -/
theorem RO.ext {G : Cfg} {m0 m1 : Mu} {H0 H1 : Hp} (e : Ext m0 H0 m1 H1) {o : O} {a : Addr} (ha : H1 a = H0 a) (h : RO G m0 H0 o a) : RO G m1 H1 o a := by
  cases o with
  | lst l =>
    obtain ⟨vs, q, z, r⟩ := h
    exact ⟨vs, by rw [ha]; exact q, z, RVs.ext e _ _ r⟩
  | dct _ => exact h
  | ins c fs =>
    obtain ⟨dx, vs, q, r⟩ := h
    exact ⟨dx, vs, by rw [ha]; exact q, RFs.ext e _ _ r⟩
theorem RO.there {G : Cfg} {m : Mu} {H : Hp} {o : O} {a : Addr} (h : RO G m H o a) : ∃ u, H a = some u := by
  cases o with
  | lst l => obtain ⟨vs, q, _⟩ := h; exact ⟨_, q⟩
  | dct _ => exact h.elim
  | ins c fs => obtain ⟨dx, vs, q, _⟩ := h; exact ⟨_, q⟩
theorem RS.there {G : Cfg} {m : Mu} {H : Hp} {h : Th} (s : RS G m H h) {a : Addr} (ha : a ∈ m.m) : ∃ u, H a = some u := by
  obtain ⟨i, hi, e⟩ := List.getElem_of_mem ha
  have hl : i < h.length := by rw [← s.len]; exact hi
  exact (s.obj i h[i] a (List.getElem?_eq_getElem hl) (by rw [List.getElem?_eq_getElem hi, e])).there
/-- what is free is nobody's -/
theorem RS.outF {G : Cfg} {m : Mu} {H : Hp} {h : Th} (s : RS G m H h) {p : Addr} (hp : H p = none) : m.out p := by
  refine ⟨fun z => ?_, fun z => ?_⟩
  · obtain ⟨u, q⟩ := s.there z; rw [hp] at q; cases q
  · obtain ⟨_, u, q⟩ := s.pr p z; rw [hp] at q; cases q
/-- all things stand as they stood -/
theorem RS.ext {G : Cfg} {m : Mu} {H H1 : Hp} {h : Th} (s : RS G m H h) (e : Ext m H m H1) (k : ∀ a ∈ m.m, H1 a = H a) : RS G m H1 h :=
  ⟨s.len, s.nd, fun i o a h1 h2 => (s.obj i o a h1 h2).ext e (k a (List.mem_of_getElem? h2)), fun a ha => ⟨(s.pr a ha).1, let ⟨n, u, q⟩ := s.pr a ha; ⟨u, e.keep a u q n⟩⟩⟩
theorem RE.ext {K : PySem.W.Frag} {m0 m1 : Mu} {H0 H1 : Hp} {rho : Ro} {sg : L2.St} (e : Ext m0 H0 m1 H1) (r : RE K m0 H0 rho sg) : RE K m1 H1 rho sg :=
  ⟨r.len, fun i d h => let ⟨v, a, b⟩ := r.at_ i d h; ⟨v, a, RV.ext e d v b⟩⟩
/-- something new is laid that is no thing -/
theorem Ext.laid {G : Cfg} {m : Mu} {H : Hp} {h : Th} (s : RS G m H h) {p : Addr} (hp : H p = none) (o : HO) : Ext m H m (upd H p o) ∧ RS G m (upd H p o) h ∧ m.out p := by
  have hn := s.outF hp
  have e : Ext m H m (upd H p o) := ⟨⟨[], by simp⟩, fun _ h => .inl h, fun _ h => h, fun a u q _ => by rw [upd_ne (ne_of_none q hp)]; exact q, fun a h => .inl h⟩
  exact ⟨e, s.ext e fun a ha => upd_ne (fun z => hn.1 (z ▸ ha)), hn⟩
def Mu.add (m : Mu) (p : Addr) : Mu := ⟨m.m ++ [p], m.p⟩
theorem Ext.add {m : Mu} {H : Hp} {p : Addr} (hp : H p = none) (u : HO) : Ext m H (m.add p) (upd H p u) :=
  ⟨⟨[p], rfl⟩, fun _ h => .inl h, fun _ h => h, fun a w q _ => by rw [upd_ne (ne_of_none q hp)]; exact q, fun a h => by
    rcases List.mem_append.mp h with z | z
    · exact .inl z
    · simp at z; subst z; exact .inr hp⟩
/-- a new thing -/
theorem Ext.made {G : Cfg} {m : Mu} {H : Hp} {h : Th} (s : RS G m H h) {p : Addr} (hp : H p = none) (u : HO) (o : O) (ho : RO G (m.add p) (upd H p u) o p) :
    RS G (m.add p) (upd H p u) (h ++ [o]) := by
  have hn := s.outF hp
  have e := Ext.add (m := m) hp u
  refine ⟨by show (m.m ++ [p]).length = _; simp [s.len], ?_, fun i o' a h1 h2 => ?_, fun a ha => ?_⟩
  · show (m.m ++ [p]).Nodup
    rw [List.nodup_append]
    exact ⟨s.nd, by simp, fun a ha b hb => by simp at hb; subst hb; exact fun z => hn.1 (z ▸ ha)⟩
  · have h2 : (m.m ++ [p])[i]? = some a := h2
    by_cases hi : i < m.m.length
    · rw [List.getElem?_append_left (by rw [← s.len]; exact hi)] at h1
      rw [List.getElem?_append_left hi] at h2
      exact (s.obj i o' a h1 h2).ext e (upd_ne fun z => hn.1 (z ▸ List.mem_of_getElem? h2))
    · rw [List.getElem?_append_right (by rw [← s.len]; omega)] at h1
      rw [List.getElem?_append_right (by omega)] at h2
      rw [← s.len] at h1
      cases q : i - m.m.length with
      | zero =>
        rw [q] at h1 h2
        simp at h1 h2
        subst h1 h2
        exact ho
      | succ n => rw [q] at h2; simp at h2
  · have ha : a ∈ m.p := ha
    obtain ⟨n, v, q⟩ := s.pr a ha
    refine ⟨fun z => ?_, v, e.keep a v q n⟩
    rcases List.mem_append.mp z with z | z
    · exact n z
    · simp at z; subst z; exact hn.2 ha
/-- a thing is changed -/
theorem Ext.wrote {G : Cfg} {m : Mu} {H : Hp} {h : Th} (s : RS G m H h) {n : Nat} {p : Addr} (hp : m.m[n]? = some p) (u : HO) (o : O) (ho : Ext m H m (upd H p u) → RO G m (upd H p u) o p) :
    Ext m H m (upd H p u) ∧ RS G m (upd H p u) (h.set n o) := by
  have hm : p ∈ m.m := List.mem_of_getElem? hp
  have e : Ext m H m (upd H p u) := ⟨⟨[], by simp⟩, fun _ h => .inl h, fun _ h => h, fun a w q hn => by rw [upd_ne (a := p) (b := a) (fun z => hn (by rw [z]; exact hm))]; exact q, fun a h => .inl h⟩
  refine ⟨e, by simp [s.len], s.nd, fun i o' a h1 h2 => ?_, fun a ha => ?_⟩
  · by_cases hi : i = n
    · subst hi
      have hl : i < h.length := by
        have := (List.getElem?_eq_some_iff.mp hp).1
        rw [s.len] at this; exact this
      rw [List.getElem?_set_self hl] at h1
      cases h1
      rw [hp] at h2
      cases h2
      exact ho e
    · rw [List.getElem?_set_ne (Ne.symm hi)] at h1
      refine (s.obj i o' a h1 h2).ext e (upd_ne fun z => ?_)
      subst z
      exact hi ((List.getElem?_inj (List.getElem?_eq_some_iff.mp h2).1 s.nd).mp (by rw [h2, hp]))
  · obtain ⟨n, v, q⟩ := s.pr a ha
    exact ⟨n, v, e.keep a v q n⟩

/-! ### something new that is nobody's business for a while -/
def Mu.hide (m : Mu) (p : Addr) : Mu := ⟨m.m, p :: m.p⟩
def Mu.show_ (m : Mu) (p : Addr) : Mu := ⟨m.m, m.p.filter fun a => decide (a ≠ p)⟩
theorem Ext.hide {G : Cfg} {m : Mu} {H : Hp} {h : Th} (s : RS G m H h) {p : Addr} (hp : H p = none) (u : HO) : Ext m H (m.hide p) (upd H p u) ∧ RS G (m.hide p) (upd H p u) h := by
  have hn := s.outF hp
  have e : Ext m H (m.hide p) (upd H p u) := ⟨⟨[], by simp [Mu.hide]⟩, fun a h => by
    rcases List.mem_cons.mp h with z | z
    · subst z; exact .inr (.inl hp)
    · exact .inl z, fun a h => List.mem_cons_of_mem _ h, fun a w q _ => by rw [upd_ne (ne_of_none q hp)]; exact q, fun a h => .inl h⟩
  refine ⟨e, s.len, s.nd, fun i o a h1 h2 => ?_, fun a ha => ?_⟩
  · have h2 : m.m[i]? = some a := h2
    exact (s.obj i o a h1 h2).ext e (upd_ne fun z => hn.1 (z ▸ List.mem_of_getElem? h2))
  · rcases List.mem_cons.mp ha with z | z
    · subst z
      exact ⟨hn.1, u, upd_same⟩
    · obtain ⟨n, v, q⟩ := s.pr a z
      exact ⟨n, v, e.keep a v q n⟩
/-- nothing that is told leans on what is nobody's -/
theorem TupAt.upd {K : PySem.W.Frag} {m : Mu} {H : Hp} {p : Addr} {u : HO} (hp : p ∈ m.p) {a : Addr} {xs : List V} (h : TupAt K m H a xs) : TupAt K m (upd H p u) a xs := by
  rcases h with ⟨q, n⟩ | h
  · have ne : a ≠ p := fun z => n.2 (z ▸ hp)
    left
    rcases q with q | ⟨o, q⟩
    · exact ⟨.inl (by rw [upd_ne ne]; exact q), n⟩
    · exact ⟨.inr ⟨o, by rw [upd_ne ne]; exact q⟩, n⟩
  · exact .inr h
theorem LstAt.upd {m : Mu} {H : Hp} {p : Addr} {u : HO} (hp : p ∈ m.p) {a : Addr} {xs : List V} (h : LstAt m H a xs) : LstAt m (upd H p u) a xs :=
  ⟨by rw [upd_ne (a := p) (b := a) fun z => h.2.2 (by rw [z]; exact hp)]; exact h.1, h.2⟩
theorem FrzAt.upd {K : PySem.W.Frag} {m : Mu} {H : Hp} {p : Addr} {u : HO} (hp : p ∈ m.p) {a : Addr} {xs : List V} (h : FrzAt K m H a xs) : FrzAt K m (upd H p u) a xs := by
  rcases h with ⟨q, n⟩ | h
  · have ne : a ≠ p := fun z => n.2 (z ▸ hp)
    left
    rcases q with q | ⟨o, q⟩
    · exact ⟨.inl (by rw [upd_ne ne]; exact q), n⟩
    · exact ⟨.inr ⟨o, by rw [upd_ne ne]; exact q⟩, n⟩
  · exact .inr h
mutual
theorem RV.upd {K : PySem.W.Frag} {m : Mu} {H : Hp} {p : Addr} {u : HO} (hp : p ∈ m.p) : ∀ (d : D) (v : V), RV K m H d v → RV K m (upd H p u) d v
  | .non, v, h => by unfold RV at *; exact h
  | .bl b, v, h => by unfold RV at *; exact h
  | .int b, v, h => by unfold RV at *; exact h
  | .str b, v, h => by unfold RV at *; exact h
  | .tup l, v, h => by
    unfold RV at *
    obtain ⟨a, vs, rfl, t, z, r⟩ := h
    exact ⟨a, vs, rfl, t.upd hp, z, RVs.upd hp l vs r⟩
  | .lst l, v, h => by
    unfold RV at *
    obtain ⟨a, vs, rfl, t, z, r⟩ := h
    exact ⟨a, vs, rfl, t.upd hp, z, RVs.upd hp l vs r⟩
  | .frz l, v, h => by
    unfold RV at *
    obtain ⟨a, vs, rfl, t, z, r⟩ := h
    exact ⟨a, vs, rfl, t.upd hp, z, RVs.upd hp l vs r⟩
  | .ref n, v, h => by unfold RV at *; exact h
theorem RVs.upd {K : PySem.W.Frag} {m : Mu} {H : Hp} {p : Addr} {u : HO} (hp : p ∈ m.p) : ∀ (ds : List D) (vs : List V), RVs K m H ds vs → RVs K m (upd H p u) ds vs
  | [], vs, h => by unfold RVs at *; exact h
  | d :: ds, vs, h => by
    unfold RVs at *
    obtain ⟨v, r, rfl, h1, h2⟩ := h
    exact ⟨v, r, rfl, RV.upd hp d v h1, RVs.upd hp ds r h2⟩
end
theorem RFs.upd {K : PySem.W.Frag} {m : Mu} {H : Hp} {p : Addr} {u : HO} (hp : p ∈ m.p) : ∀ (ds : List (Str × D)) (vs : List (Str × V)), RFs K m H ds vs → RFs K m (upd H p u) ds vs
  | [], vs, h => by unfold RFs at *; exact h
  | d :: ds, vs, h => by
    unfold RFs at *
    obtain ⟨v, r, rfl, h1, h2⟩ := h
    exact ⟨v, r, rfl, RV.upd hp _ v h1, RFs.upd hp ds r h2⟩
theorem RS.upd {G : Cfg} {m : Mu} {H : Hp} {h : Th} {p : Addr} {u : HO} (s : RS G m H h) (hp : p ∈ m.p) : RS G m (upd H p u) h := by
  refine ⟨s.len, s.nd, fun i o a h1 h2 => ?_, fun a ha => ⟨(s.pr a ha).1, ?_⟩⟩
  · have ne : a ≠ p := fun z => (s.pr p hp).1 (z ▸ List.mem_of_getElem? h2)
    have q := s.obj i o a h1 h2
    cases o with
    | lst l =>
      obtain ⟨vs, q, z, r⟩ := q
      exact ⟨vs, by rw [upd_ne ne]; exact q, z, RVs.upd hp _ _ r⟩
    | dct _ => exact q
    | ins c fs =>
      obtain ⟨dx, vs, q, r⟩ := q
      exact ⟨dx, vs, by rw [upd_ne ne]; exact q, RFs.upd hp _ _ r⟩
  · by_cases ne : a = p
    · subst ne; exact ⟨u, upd_same⟩
    · obtain ⟨v, q⟩ := (s.pr a ha).2
      exact ⟨v, by rw [upd_ne ne]; exact q⟩
/-- told to fewer -/
structure Less (m m' : Mu) : Prop where
  mm : m'.m = m.m
  pp : ∀ a, a ∈ m'.p → a ∈ m.p
theorem Less.out {m m' : Mu} (l : Less m m') {a : Addr} (h : m.out a) : m'.out a := ⟨by rw [l.mm]; exact h.1, fun z => h.2 (l.pp a z)⟩
mutual
theorem RV.less {K : PySem.W.Frag} {m m' : Mu} {H : Hp} (q : Less m m') : ∀ (d : D) (v : V), RV K m H d v → RV K m' H d v
  | .non, v, h => by unfold RV at *; exact h
  | .bl b, v, h => by unfold RV at *; exact h
  | .int b, v, h => by unfold RV at *; exact h
  | .str b, v, h => by unfold RV at *; exact h
  | .tup l, v, h => by
    unfold RV at *
    obtain ⟨a, vs, rfl, t, z, r⟩ := h
    exact ⟨a, vs, rfl, t.elim (fun t => .inl ⟨t.1, q.out t.2⟩) .inr, z, RVs.less q l vs r⟩
  | .lst l, v, h => by
    unfold RV at *
    obtain ⟨a, vs, rfl, t, z, r⟩ := h
    exact ⟨a, vs, rfl, ⟨t.1, q.out t.2⟩, z, RVs.less q l vs r⟩
  | .frz l, v, h => by
    unfold RV at *
    obtain ⟨a, vs, rfl, t, z, r⟩ := h
    exact ⟨a, vs, rfl, t.elim (fun t => .inl ⟨t.1, q.out t.2⟩) .inr, z, RVs.less q l vs r⟩
  | .ref n, v, h => by unfold RV at *; rw [q.mm]; exact h
theorem RVs.less {K : PySem.W.Frag} {m m' : Mu} {H : Hp} (q : Less m m') : ∀ (ds : List D) (vs : List V), RVs K m H ds vs → RVs K m' H ds vs
  | [], vs, h => by unfold RVs at *; exact h
  | d :: ds, vs, h => by
    unfold RVs at *
    obtain ⟨v, r, rfl, h1, h2⟩ := h
    exact ⟨v, r, rfl, RV.less q d v h1, RVs.less q ds r h2⟩
end
theorem RFs.less {K : PySem.W.Frag} {m m' : Mu} {H : Hp} (q : Less m m') : ∀ (ds : List (Str × D)) (vs : List (Str × V)), RFs K m H ds vs → RFs K m' H ds vs
  | [], vs, h => by unfold RFs at *; exact h
  | d :: ds, vs, h => by
    unfold RFs at *
    obtain ⟨v, r, rfl, h1, h2⟩ := h
    exact ⟨v, r, rfl, RV.less q _ v h1, RFs.less q ds r h2⟩
theorem RS.less {G : Cfg} {m m' : Mu} {H : Hp} {h : Th} (q : Less m m') (s : RS G m H h) : RS G m' H h := by
  refine ⟨by rw [q.mm]; exact s.len, by rw [q.mm]; exact s.nd, fun i o a h1 h2 => ?_, fun a ha => by rw [q.mm]; exact s.pr a (q.pp a ha)⟩
  rw [q.mm] at h2
  have z := s.obj i o a h1 h2
  cases o with
  | lst l =>
    obtain ⟨vs, e, z, r⟩ := z
    exact ⟨vs, e, z, RVs.less q _ _ r⟩
  | dct _ => exact z
  | ins c fs =>
    obtain ⟨dx, vs, e, r⟩ := z
    exact ⟨dx, vs, e, RFs.less q _ _ r⟩
theorem Less.show_ (m : Mu) (p : Addr) : Less m (m.show_ p) := ⟨rfl, fun _ h => (List.mem_filter.mp h).1⟩
theorem Ext.less {m0 m m' : Mu} {H0 H : Hp} (q : Less m m') (z : ∀ a ∈ m0.p, a ∈ m'.p) (e : Ext m0 H0 m H) : Ext m0 H0 m' H :=
  ⟨by rw [q.mm]; exact e.pre, fun a h => e.np a (q.pp a h), z, e.keep, fun a h => e.new a (by rw [← q.mm]; exact h)⟩

/-! ### exceptions in the air -/
/-- an exception in the air of X, fresh, flying, or noted by the frame at L -/
def XA (X : Cx) (L : Addr) (W : WX) (u : Value) (t : Shared) : Prop :=
  ∃ (a : Addr) (B : Heap) (si : Shared) (pins : List (Addr × Obj)) (sg : L2.St) (H : Hp) (cls : Value) (dd : Option Addr),
    u = .ref a ∧ Inv X pins sg H si ∧ (∀ b o, si.heap.get? b = some o → b ∉ frs X.stack → B.get? b = some o) ∧ si.heap.UpToSlots t.heap ∧
      Sky B X.stack a (Zc cls dd) L t.heap ∧ H a = none ∧ t.os = si.os ∧ AllBare t.gens ∧ W cls dd sg H
def TakesA (X : Cx) (L : Addr) (W : WX) : Prop := ∀ u t, XA X L W u t → X.xe u t
theorem takesA_of {X : Cx} {W : WX} (tk : Takes X W) : TakesA X X.env.locals W := tk

section
variable {X : Cx} {pins : List (Addr × Obj)} {sg : L2.St} {H : Hp} {s t : Shared} {B : Heap} {W : WX} {E : XK} {L : Addr}
/-- what a call has let out -/
theorem XA.of_call (I : Inv X pins sg H s) (hW : ∀ cls d H', E cls d H' → W cls d sg H') {u : Value} (c : L2.CX X.prog X.w X.stack H s E u t) : XA X L W u t := by
  obtain ⟨a, B, H1, cls, dd, hu, fl, ok1, ub, na, os, ag, he⟩ := c
  obtain ⟨G, yes, no⟩ := restrict t.heap fun b => decide (b ∈ frs X.stack) || (B.get? b).isSome
  have inB : ∀ b o, B.get? b = some o → G.get? b = some o := by
    intro b o e
    have z := yes b (by rw [e]; simp)
    rw [z]
    exact fl.1 b o e
  have inF : ∀ b, b ∈ frs X.stack → G.get? b = t.heap.get? b := fun b hb => yes b (by simp [hb])
  have out : ∀ b o, G.get? b = some o → t.heap.get? b = some o ∧ (b ∈ frs X.stack ∨ ∃ o', B.get? b = some o') := by
    intro b o e
    by_cases q : (decide (b ∈ frs X.stack) || (B.get? b).isSome) = true
    · rw [yes b q] at e
      refine ⟨e, ?_⟩
      rcases Bool.or_eq_true_iff.mp q with q | q
      · exact .inl (of_decide_eq_true q)
      · exact .inr (Option.isSome_iff_exists.mp q)
    · rw [no b (by simpa using q)] at e
      cases e
  refine ⟨a, B, { s with heap := G, gens := t.gens, drawn := t.drawn, toks := t.toks }, pins, sg, H1, cls, dd, hu, ?_, ?_, Heap.UpToSlots.of_keeps fun b o e => (out b o e).1, .inr (.inl fl), na, os, ag, hW _ _ _ he⟩
  · refine I.call (ch := []) ⟨fun b o e n hb _ => inB b o (ub.keep b o e n hb), ?_, fun b o e n _ => ub.free b o e n, ?_, ub.tups, ub.frzs, ub.tbls⟩ (ok1.kept inB) ag fun _ z => nomatch z
    · intro b o e _ hb _
      obtain ⟨sl, q⟩ := ub.slot b o e hb
      exact ⟨sl, (inF b hb).trans q⟩
    · intro b o e _
      by_cases hb : b ∈ frs X.stack
      · obtain ⟨sl, q⟩ := ub.slot b o e hb
        exact ⟨_, (inF b hb).trans q⟩
      · obtain ⟨o', q⟩ := ub.there b o e hb
        exact ⟨o', inB b o' q⟩
  · intro b o e hb
    obtain ⟨e1, q⟩ := out b o e
    rcases q with q | ⟨o', q⟩
    · exact absurd q hb
    · have z := fl.1 b o' q
      rw [e1] at z
      cases z
      exact q
theorem passA (tk : TakesA X L W) (sg : L2.St) : PassesAt (L2.CX X.prog X.w) X sg (WE W sg) := fun _ _ _ e t I c => tk e t (XA.of_call I (fun _ _ _ h => h) c)
end

/-- the frame at the stack's top is that of this context -/
def Top (X : Cx) (L : Addr) : Prop := ∃ e o, X.stack = e :: o ∧ e.frame = some L ∧ X.env.frame = some L

end MP
set_option Elab.async false
set_option linter.all false
set_option maxRecDepth 100000
/-! MP: denotations of expressions. -/
namespace MP
open PySem PySem.Spec PyProof.Rows L2

theorem line_eq : sizeLine = 16777216 := PySem.sizeLine_eq

/-! ### lists of values -/
section
variable {K : PySem.W.Frag} {mu : Mu} {H : Hp}
theorem RVs.length : ∀ {ds : List D} {vs : List V}, RVs K mu H ds vs → vs.length = ds.length
  | [], vs, h => by unfold RVs at h; subst h; rfl
  | d :: ds, vs, h => by
    unfold RVs at h
    obtain ⟨v, r, rfl, _, h2⟩ := h
    simp [RVs.length h2]
theorem RVs.get : ∀ {ds : List D} {vs : List V} {i : Nat} {d : D}, RVs K mu H ds vs → ds[i]? = some d → ∃ v, vs[i]? = some v ∧ RV K mu H d v
  | [], vs, i, d, _, e => by simp at e
  | x :: ds, vs, i, d, h, e => by
    unfold RVs at h
    obtain ⟨v, r, rfl, h1, h2⟩ := h
    cases i with
    | zero => simp at e; subst e; exact ⟨v, rfl, h1⟩
    | succ i =>
      simp at e
      obtain ⟨w, a, b⟩ := RVs.get h2 e
      exact ⟨w, by simpa using a, b⟩
theorem RVs.append : ∀ {a b : List D} {xs ys : List V}, RVs K mu H a xs → RVs K mu H b ys → RVs K mu H (a ++ b) (xs ++ ys)
  | [], b, xs, ys, h, q => by unfold RVs at h; subst h; exact q
  | x :: ds, b, xs, ys, h, q => by
    unfold RVs at h
    obtain ⟨v, r, rfl, h1, h2⟩ := h
    show RVs K mu H (x :: (ds ++ b)) (v :: (r ++ ys))
    unfold RVs
    exact ⟨v, _, rfl, h1, RVs.append h2 q⟩
theorem RVs.take : ∀ {a : List D} {xs : List V} (n : Nat), RVs K mu H a xs → RVs K mu H (a.take n) (xs.take n)
  | a, xs, 0, h => by simp [RVs]
  | [], xs, n + 1, h => by unfold RVs at h; subst h; simp [RVs]
  | x :: ds, xs, n + 1, h => by
    unfold RVs at h
    obtain ⟨v, r, rfl, h1, h2⟩ := h
    show RVs K mu H (x :: ds.take n) (v :: r.take n)
    unfold RVs
    exact ⟨v, _, rfl, h1, RVs.take n h2⟩
theorem RVs.drop : ∀ {a : List D} {xs : List V} (n : Nat), RVs K mu H a xs → RVs K mu H (a.drop n) (xs.drop n)
  | a, xs, 0, h => by simpa using h
  | [], xs, n + 1, h => by unfold RVs at h; subst h; simp [RVs]
  | x :: ds, xs, n + 1, h => by
    unfold RVs at h
    obtain ⟨v, r, rfl, h1, h2⟩ := h
    exact RVs.drop n h2
theorem RVs.one {d : D} {v : V} (h : RV K mu H d v) : RVs K mu H [d] [v] := by
  unfold RVs
  exact ⟨v, [], rfl, h, by unfold RVs; rfl⟩
theorem RVs.set : ∀ {a : List D} {xs : List V} (n : Nat) {d : D} {v : V}, RVs K mu H a xs → RV K mu H d v → RVs K mu H (a.set n d) (xs.set n v)
  | [], xs, n, d, v, h, q => by unfold RVs at h; subst h; simp [RVs]
  | x :: ds, xs, n, d, v, h, q => by
    unfold RVs at h
    obtain ⟨w, r, rfl, h1, h2⟩ := h
    cases n with
    | zero =>
      show RVs K mu H (d :: ds) (v :: r)
      unfold RVs
      exact ⟨v, _, rfl, q, h2⟩
    | succ n =>
      show RVs K mu H (x :: ds.set n d) (w :: r.set n v)
      unfold RVs
      exact ⟨w, _, rfl, h1, RVs.set n h2 q⟩
theorem RVs.cons {d : D} {v : V} {ds : List D} {vs : List V} (h : RV K mu H d v) (q : RVs K mu H ds vs) : RVs K mu H (d :: ds) (v :: vs) := by
  unfold RVs
  exact ⟨v, vs, rfl, h, q⟩
theorem RVs.nil : RVs K mu H [] [] := by unfold RVs; rfl
end

/-! ### results -/
def Res.bind {α β : Type} (r : Res α) (k : α → Th → Res β) : Res β := match r with
  | .ok a h => k a h
  | .ex x h => .ex x h
  | .bad => .bad
@[simp] theorem ok_bind {α β : Type} (a : α) (h : Th) (k : α → Th → Res β) : (Res.ok a h).bind k = k a h := rfl
@[simp] theorem ex_bind {α β : Type} (x : Exn) (h : Th) (k : α → Th → Res β) : (Res.ex x h : Res α).bind k = .ex x h := rfl
@[simp] theorem bad_bind {α β : Type} (k : α → Th → Res β) : (Res.bad : Res α).bind k = .bad := rfl
theorem bind_assoc {α β γ : Type} (r : Res α) (k : α → Th → Res β) (l : β → Th → Res γ) : (r.bind k).bind l = r.bind fun a h => (k a h).bind l := by cases r <;> rfl
abbrev DE := Ro → Th → Res D
abbrev DA := Ro → Th → Res (List D)
abbrev DT := Ro → Th → Res Bool

def RX (G : Cfg) (mu : Mu) (H : Hp) (x : Exn) (cls : Value) (dd : Option Addr) : Prop :=
  cls = .ref (G.cl x.c) ∧ (x.fs ≠ [] → ∃ a vs, dd = some a ∧ H a = some (.xd vs) ∧ RFs G.K mu H x.fs vs)

section
variable {α β γ δ : Type} (G : Cfg) (W : WX) (R : Mu → Hp → α → β → Prop)
/-- what a result wants -/
def Wp (mu : Mu) (sg : L2.St) (H : Hp) (r : Res α) (Q : β → Hp → Prop) : Prop := match r with
  | .ok a h' => ∀ mu' H' b, Ext mu H mu' H' → RS G mu' H' h' → R mu' H' a b → Q b H'
  | .ex x h' => ∀ mu' H' cls dd, Ext mu H mu' H' → RS G mu' H' h' → RX G mu' H' x cls dd → W cls dd sg H'
  | .bad => False
/-- a denotation as a reading -/
def tG (m : Ro → Th → Res α) : L2.St → Hp → (β → Hp → Prop) → Prop := fun sg H Q =>
  ∃ mu rho h, RS G mu H h ∧ RE G.K mu H rho sg ∧ Wp G W R mu sg H (m rho h) Q
end
section
variable {α β γ δ : Type} {G : Cfg} {W : WX} {R : Mu → Hp → α → β → Prop} {R' : Mu → Hp → γ → δ → Prop}
theorem Wp.ext {mu mu1 : Mu} {sg : L2.St} {H H1 : Hp} {r : Res α} {Q : β → Hp → Prop} (e : Ext mu H mu1 H1) (h : Wp G W R mu sg H r Q) : Wp G W R mu1 sg H1 r Q := by
  cases r with
  | ok a h' => exact fun mu' H' b e' s r => h mu' H' b (e.trans e') s r
  | ex x h' => exact fun mu' H' c d e' s r => h mu' H' c d (e.trans e') s r
  | bad => exact h
theorem Wp.imp {mu : Mu} {sg : L2.St} {H : Hp} {r : Res α} {Q Q' : β → Hp → Prop} (h : Wp G W R mu sg H r Q) (q : ∀ b H', Q b H' → Q' b H') : Wp G W R mu sg H r Q' := by
  cases r with
  | ok a h' => exact fun mu' H' b e' s r => q _ _ (h mu' H' b e' s r)
  | ex x h' => exact h
  | bad => exact h
theorem Wp.bind {mu : Mu} {sg : L2.St} {H : Hp} {r : Res α} {k : α → Th → Res γ} {Q : δ → Hp → Prop} (h : Wp G W R' mu sg H (r.bind k) Q) :
    Wp G W R mu sg H r fun x H1 => ∃ mu1 h1 a, Ext mu H mu1 H1 ∧ RS G mu1 H1 h1 ∧ R mu1 H1 a x ∧ Wp G W R' mu1 sg H1 (k a h1) Q := by
  cases r with
  | ok a h1 => exact fun mu1 H1 x e s r => ⟨mu1, h1, a, e, s, r, h.ext e⟩
  | ex x h' => exact h
  | bad => exact h
theorem Wp.ok {mu : Mu} {sg : L2.St} {H : Hp} {a : α} {h : Th} {b : β} {Q : β → Hp → Prop} (w : Wp G W R mu sg H (.ok a h) Q) (s : RS G mu H h) (r : R mu H a b) : Q b H := w mu H b (Ext.refl _ _) s r
theorem tG.bind {m1 : Ro → Th → Res α} {m2 : α → Ro → Th → Res γ} {sg : L2.St} {H : Hp} {Q : δ → Hp → Prop} (t : tG G W R' (fun rho h => (m1 rho h).bind fun a h1 => m2 a rho h1) sg H Q) :
    tG G W R m1 sg H fun x H1 => ∃ mu1 rho h1 a, RS G mu1 H1 h1 ∧ RE G.K mu1 H1 rho sg ∧ R mu1 H1 a x ∧ Wp G W R' mu1 sg H1 (m2 a rho h1) Q := by
  obtain ⟨mu, rho, h, s, e, w⟩ := t
  refine ⟨mu, rho, h, s, e, (Wp.bind w).imp fun x H1 q => ?_⟩
  obtain ⟨mu1, h1, a, e1, s1, r1, w1⟩ := q
  exact ⟨mu1, rho, h1, a, s1, e.ext e1, r1, w1⟩
end
abbrev RB : Mu → Hp → Bool → Bool → Prop := fun _ _ a b => b = a
abbrev tE (G : Cfg) (W : WX) (m : DE) : TE := tG G W (RV G.K) m
abbrev tA (G : Cfg) (W : WX) (m : DA) : TA := tG G W (RVs G.K) m
abbrev tT (G : Cfg) (W : WX) (m : DT) : TT := tG G W RB m

/-- what the rules ask of a context -/
structure Ctx (X : Cx) (G : Cfg) (W : WX) : Prop where
  k : X.K = G.K
  hu : X.A.units + 70 < cLine
  calm : X.calm = true
  air : ∃ L, Top X L ∧ TakesA X L W
theorem Ctx.pass {X : Cx} {G : Cfg} {W : WX} (c : Ctx X G W) (sg : L2.St) : PassesAt (L2.CX X.prog X.w) X sg (WE W sg) := by
  obtain ⟨L, _, tk⟩ := c.air
  exact passA tk sg

theorem pe_imp {X : Cx} {e : Expr} {t t' : TE} (h : PE X e t) (q : ∀ sg H Q, t' sg H Q → t sg H Q) : PE X e t' := ⟨fun pins s sg H Q I w => h.run pins s sg H Q I (q _ _ _ w)⟩
theorem pt_imp {X : Cx} {e : Expr} {t t' : TT} (h : PT X e t) (q : ∀ sg H Q, t' sg H Q → t sg H Q) : PT X e t' := ⟨fun pins s sg H Q I w => h.run pins s sg H Q I (q _ _ _ w)⟩
theorem pw_imp {X : Cx} {e : Expr} {t t' : TT} (h : PW X e t) (q : ∀ sg H Q, t' sg H Q → t sg H Q) : PW X e t' := ⟨fun wh pins s sg H Q I w => h.run wh pins s sg H Q I (q _ _ _ w)⟩
theorem pa_imp {X : Cx} {e : List Expr} {t t' : TA} (h : PA X e t) (q : ∀ sg H Q, t' sg H Q → t sg H Q) : PA X e t' := ⟨fun pos pins s sg H Q I w => h.run pos pins s sg H Q I (q _ _ _ w)⟩

section
variable {X : Cx} {G : Cfg} {W : WX} {e a b : Expr} {pos p : Pos}

/-! ### names, constants -/
def varE (i : Nat) : DE := fun rho h => match rho[i]? with
  | some (some d) => .ok d h
  | _ => .bad
theorem de_var (i : Nat) {x : Str} (h : PE X (.Name x pos) (tVar i)) : PE X (.Name x pos) (tE G W (varE i)) := by
  refine pe_imp h fun sg H Q ⟨mu, rho, th, s, e, w⟩ => ?_
  unfold varE at w
  split at w
  · rename_i d hd
    obtain ⟨v, hv, r⟩ := e.at_ _ _ hd
    exact ⟨v, hv, w.ok s r⟩
  · exact w.elim
def constE (d : D) : DE := fun _ h => .ok d h
theorem de_const {d : D} {v : V} (h : PE X e (tC v)) (r : ∀ mu H, RV G.K mu H d v) : PE X e (tE G W (constE d)) :=
  pe_imp h fun sg H Q ⟨mu, rho, th, s, e, w⟩ => w.ok s (r mu H)
theorem de_int {i : Int} {j} : PE X (.Constant (.int i) j pos) (tE G W (constE (.int i))) := de_const pe_int fun _ _ => by unfold RV; rfl
theorem de_bl {c : Bool} {j} : PE X (.Constant (.bool c) j pos) (tE G W (constE (.bl c))) := de_const pe_bl fun _ _ => by unfold RV; rfl
theorem de_non {j} : PE X (.Constant .none j pos) (tE G W (constE .non)) := de_const pe_non fun _ _ => by unfold RV; rfl
theorem de_str {z : Str} {j} : PE X (.Constant (.str z) j pos) (tE G W (constE (.str z))) := de_const pe_str fun _ _ => by unfold RV; rfl
theorem de_gint {x : Str} {i : Int} {t : Tok} (hg : Gl X x) (hm : X.mg x = some (.int i t)) (hd : (x == ("__debug__" : Str)) = false := by decide) : PE X (.Name x pos) (tE G W (constE (.int i))) :=
  de_const (pe_glob (v := .int i) hg hm ⟨t, rfl⟩ hd) fun _ _ => by unfold RV; rfl
theorem de_gstr {x : Str} {z : Str} {t : Tok} (hg : Gl X x) (hm : X.mg x = some (.str z t)) (hd : (x == ("__debug__" : Str)) = false := by decide) : PE X (.Name x pos) (tE G W (constE (.str z))) :=
  de_const (pe_glob (v := .str z) hg hm ⟨t, rfl⟩ hd) fun _ _ => by unfold RV; rfl

/-! ### arguments, displays -/
def nilA : DA := fun _ h => .ok [] h
def consA (m : DE) (ms : DA) : DA := fun rho h => (m rho h).bind fun d h1 => (ms rho h1).bind fun ds h2 => .ok (d :: ds) h2
theorem da_nil : PA X [] (tA G W nilA) := pa_imp pa_nil fun sg H Q ⟨mu, rho, th, s, e, w⟩ => w.ok s RVs.nil
theorem da_cons {es : List Expr} {m : DE} {ms : DA} (h : PE X e (tE G W m)) (hs : PA X es (tA G W ms)) (hst : starEach (e :: es) X.env = (false, eval e X.env) :: starEach es X.env := by rfl) :
    PA X (e :: es) (tA G W (consA m ms)) := by
  refine pa_imp (pa_cons h hs hst) fun sg H Q t => ?_
  obtain ⟨mu, rho, th, s, e, w⟩ := tG.bind (R := RV G.K) t
  refine ⟨mu, rho, th, s, e, w.imp fun x H1 q => ?_⟩
  obtain ⟨mu1, rho1, h1, d, s1, e1, r1, w1⟩ := q
  refine ⟨mu1, rho1, h1, s1, e1, (Wp.bind (R := RVs G.K) w1).imp fun xs H2 q => ?_⟩
  obtain ⟨mu2, h2, ds, e2, s2, r2, w2⟩ := q
  exact w2.ok s2 (RVs.cons (RV.ext e2 _ _ r1) r2)
def tupD (l : List D) (h : Th) : Res D := if l.length ≤ 16777216 then .ok (.tup l) h else .bad
def lstD (l : List D) (h : Th) : Res D := if l.length ≤ 16777216 then .ok (.lst l) h else .bad
/-- a new tuple -/
theorem Wp.tup {mu : Mu} {sg : L2.St} {H : Hp} {l : List D} {h : Th} {Q : VK} {vs : List V} (w : Wp G W (RV G.K) mu sg H (.ok (.tup l) h) Q) (s : RS G mu H h) (r : RVs G.K mu H l vs) (hl : vs.length ≤ sizeLine) {p : Addr} (hp : H p = none) : Q (.ref p) (upd H p (.tup vs)) := by
  obtain ⟨e, s', n⟩ := Ext.laid s hp (.tup vs)
  refine w mu _ _ e s' ?_
  unfold RV
  exact ⟨p, vs, rfl, .inl ⟨.inl upd_same, n⟩, hl, RVs.ext e _ _ r⟩
/-- a new list that nobody will change -/
theorem Wp.lst {mu : Mu} {sg : L2.St} {H : Hp} {l : List D} {h : Th} {Q : VK} {vs : List V} (w : Wp G W (RV G.K) mu sg H (.ok (.lst l) h) Q) (s : RS G mu H h) (r : RVs G.K mu H l vs) (hl : vs.length ≤ sizeLine) {p : Addr} (hp : H p = none) : Q (.ref p) (upd H p (.lst vs)) := by
  obtain ⟨e, s', n⟩ := Ext.laid s hp (.lst vs)
  refine w mu _ _ e s' ?_
  unfold RV
  exact ⟨p, vs, rfl, ⟨upd_same, n⟩, hl, RVs.ext e _ _ r⟩
/-- a new list that is a thing -/
theorem Wp.newL {mu : Mu} {sg : L2.St} {H : Hp} {l : List D} {h : Th} {Q : VK} {vs : List V} (w : Wp G W (RV G.K) mu sg H (.ok (.ref h.length) (h ++ [.lst l])) Q) (s : RS G mu H h) (r : RVs G.K mu H l vs) (hl : vs.length ≤ sizeLine) {p : Addr} (hp : H p = none) : Q (.ref p) (upd H p (.lst vs)) := by
  have e := Ext.add (m := mu) hp (.lst vs)
  refine w _ _ _ e (Ext.made s hp (.lst vs) (.lst l) ⟨vs, upd_same, hl, RVs.ext e _ _ r⟩) ?_
  unfold RV
  exact ⟨p, rfl, by show (mu.m ++ [p])[h.length]? = _; rw [← s.len]; simp⟩
def tupE (m : DA) : DE := fun rho h => (m rho h).bind tupD
def lstE (m : DA) : DE := fun rho h => (m rho h).bind lstD
def newLD (l : List D) (h : Th) : Res D := if l.length ≤ 16777216 then .ok (.ref h.length) (h ++ [.lst l]) else .bad
def newLE (m : DA) : DE := fun rho h => (m rho h).bind newLD
section
variable {es : List Expr} {m : DA}
theorem de_tup {x1} (h : PA X es (tA G W m)) : PE X (.Tuple es x1 pos) (tE G W (tupE m)) := by
  refine pe_imp (pe_tup h) fun sg H Q t => ?_
  obtain ⟨mu, rho, th, s, e, w⟩ := tG.bind (m2 := fun a _ h => tupD a h) (R := RVs G.K) t
  refine ⟨mu, rho, th, s, e, w.imp fun xs H1 q => ?_⟩
  obtain ⟨mu1, rho1, h1, l, s1, e1, r1, w1⟩ := q
  unfold tupD at w1
  split at w1
  · rename_i hl
    have hl' : xs.length ≤ sizeLine := by rw [r1.length, line_eq]; exact hl
    exact ⟨hl', fun p hp => w1.tup s1 r1 hl' hp⟩
  · exact w1.elim
theorem de_lst (h : PA X es (tA G W m)) : PE X (.List es pos) (tE G W (lstE m)) := by
  refine pe_imp (pe_lst h) fun sg H Q t => ?_
  obtain ⟨mu, rho, th, s, e, w⟩ := tG.bind (m2 := fun a _ h => lstD a h) (R := RVs G.K) t
  refine ⟨mu, rho, th, s, e, w.imp fun xs H1 q => ?_⟩
  obtain ⟨mu1, rho1, h1, l, s1, e1, r1, w1⟩ := q
  unfold lstD at w1
  split at w1
  · rename_i hl
    have hl' : xs.length ≤ sizeLine := by rw [r1.length, line_eq]; exact hl
    exact ⟨hl', fun p hp => w1.lst s1 r1 hl' hp⟩
  · exact w1.elim
/-- a list display that will be changed -/
theorem de_newL (h : PA X es (tA G W m)) : PE X (.List es pos) (tE G W (newLE m)) := by
  refine pe_imp (pe_lst h) fun sg H Q t => ?_
  obtain ⟨mu, rho, th, s, e, w⟩ := tG.bind (m2 := fun a _ h => newLD a h) (R := RVs G.K) t
  refine ⟨mu, rho, th, s, e, w.imp fun xs H1 q => ?_⟩
  obtain ⟨mu1, rho1, h1, l, s1, e1, r1, w1⟩ := q
  unfold newLD at w1
  split at w1
  · rename_i hl
    have hl' : xs.length ≤ sizeLine := by rw [r1.length, line_eq]; exact hl
    exact ⟨hl', fun p hp => w1.newL s1 r1 hl' hp⟩
  · exact w1.elim
end

/-! ### operators by values -/
/-- what an operator's denotation gives is what the operator's rule asks -/
def OpD (X : Cx) (G : Cfg) (W : WX) (f : Value → Value → Sem Value) (g : D → D → Th → Res D) : Prop :=
  ∃ r : R2, OpR X f r ∧ ∀ mu sg H h x y v u Q, RS G mu H h → RV G.K mu H x v → RV G.K mu H y u → Wp G W (RV G.K) mu sg H (g x y h) Q → r v u H Q
def binE (g : D → D → Th → Res D) (m1 m2 : DE) : DE := fun rho h => (m1 rho h).bind fun x h1 => (m2 rho h1).bind fun y h2 => g x y h2
theorem op_read {r : R2} {g : D → D → Th → Res D} {m1 m2 : DE} (hs : ∀ mu sg H h x y v u Q, RS G mu H h → RV G.K mu H x v → RV G.K mu H y u → Wp G W (RV G.K) mu sg H (g x y h) Q → r v u H Q)
    {sg : L2.St} {H : Hp} {Q : VK} (t : tE G W (binE g m1 m2) sg H Q) : tOp r (tE G W m1) (tE G W m2) sg H Q := by
  obtain ⟨mu, rho, th, s, e, w⟩ := tG.bind (R := RV G.K) t
  refine ⟨mu, rho, th, s, e, w.imp fun v H1 q => ?_⟩
  obtain ⟨mu1, rho1, h1, x, s1, e1, r1, w1⟩ := q
  refine ⟨mu1, rho1, h1, s1, e1, (Wp.bind (R := RV G.K) w1).imp fun u H2 q => ?_⟩
  obtain ⟨mu2, h2, y, e2, s2, r2, w2⟩ := q
  exact hs mu2 sg H2 h2 x y v u Q s2 (RV.ext e2 _ _ r1) r2 w2
theorem de_bin {op : Operator} {g : D → D → Th → Res D} {m1 m2 : DE} (ho : OpD X G W (binaryOp op) g) (ha : PE X a (tE G W m1)) (hb : PE X b (tE G W m2)) : PE X (.BinOp a op b pos) (tE G W (binE g m1 m2)) := by
  obtain ⟨r, hr, hs⟩ := ho
  exact pe_imp (pe_op hr ha hb) fun sg H Q t => op_read hs t
theorem de_cmp {op : CmpOp} {g : D → D → Th → Res D} {m1 m2 : DE} (ho : OpD X G W (compareOp op) g) (ha : PE X a (tE G W m1)) (hb : PE X b (tE G W m2)) (hm : behindInMarks op b = false := by rfl) : PE X (.Compare a [op] [b] pos) (tE G W (binE g m1 m2)) := by
  obtain ⟨r, hr, hs⟩ := ho
  exact pe_imp (pe_cmpR hr ha hb hm) fun sg H Q t => op_read hs t

/-! ### ints -/
theorem RV.int_inv {K : PySem.W.Frag} {mu : Mu} {H : Hp} {i : Int} {v : V} (h : RV K mu H (.int i) v) : v = .int i := by unfold RV at h; exact h
theorem RV.str_inv {K : PySem.W.Frag} {mu : Mu} {H : Hp} {i : Str} {v : V} (h : RV K mu H (.str i) v) : v = .str i := by unfold RV at h; exact h
theorem RV.bl_inv {K : PySem.W.Frag} {mu : Mu} {H : Hp} {i : Bool} {v : V} (h : RV K mu H (.bl i) v) : v = .bl i := by unfold RV at h; exact h
theorem RV.mk_int {K : PySem.W.Frag} {mu : Mu} {H : Hp} {i : Int} : RV K mu H (.int i) (.int i) := by unfold RV; rfl
theorem RV.mk_str {K : PySem.W.Frag} {mu : Mu} {H : Hp} {i : Str} : RV K mu H (.str i) (.str i) := by unfold RV; rfl
theorem RV.mk_bl {K : PySem.W.Frag} {mu : Mu} {H : Hp} {i : Bool} : RV K mu H (.bl i) (.bl i) := by unfold RV; rfl
theorem RV.mk_non {K : PySem.W.Frag} {mu : Mu} {H : Hp} : RV K mu H .non .non := by unfold RV; rfl

/-- an operator of ints with a condition -/
def intOp (c : Int → Int → Prop) [∀ i j, Decidable (c i j)] (g : Int → Int → D) (x y : D) (h : Th) : Res D := match x, y with
  | .int i, .int j => if c i j then .ok (g i j) h else .bad
  | _, _ => .bad
theorem intOp_int (c : Int → Int → Prop) [∀ i j, Decidable (c i j)] (g : Int → Int → D) (i j : Int) (h : Th) : intOp c g (.int i) (.int j) h = if c i j then .ok (g i j) h else .bad := rfl
theorem intOp_inv {c : Int → Int → Prop} [∀ i j, Decidable (c i j)] {g : Int → Int → D} {x y : D} {h : Th} {mu : Mu} {sg : L2.St} {H : Hp} {Q : VK} (w : Wp G W (RV G.K) mu sg H (intOp c g x y h) Q) :
    ∃ i j, x = .int i ∧ y = .int j ∧ c i j ∧ Wp G W (RV G.K) mu sg H (.ok (g i j) h) Q := by
  unfold intOp at w
  split at w
  · split at w
    · exact ⟨_, _, rfl, rfl, ‹_›, w⟩
    · exact w.elim
  · exact w.elim
def cT (_ _ : Int) : Prop := True
instance : ∀ i j, Decidable (cT i j) := fun _ _ => .isTrue trivial
instance : ∀ i j, Decidable (CMul i j) := fun _ _ => by unfold CMul; exact inferInstance
instance : ∀ i j, Decidable (CDiv i j) := fun _ _ => by unfold CDiv; exact inferInstance
instance : ∀ i j, Decidable (CPow i j) := fun _ _ => by unfold CPow; exact inferInstance
def cPos (_ j : Int) : Prop := 0 < j
instance : ∀ i j, Decidable (cPos i j) := fun _ _ => by unfold cPos; exact inferInstance
def cNN (_ j : Int) : Prop := 0 ≤ j
instance : ∀ i j, Decidable (cNN i j) := fun _ _ => by unfold cNN; exact inferInstance

def addD (x y : D) (h : Th) : Res D := match x, y with
  | .int i, .int j => .ok (.int (i + j)) h
  | .str a, .str b => if a.length + b.length ≤ 16777216 then .ok (.str (a ++ b)) h else .bad
  | .tup a, .tup b => if a.length + b.length ≤ 16777216 then .ok (.tup (a ++ b)) h else .bad
  | .lst a, .lst b => if a.length + b.length ≤ 16777216 then .ok (.lst (a ++ b)) h else .bad
  | _, _ => .bad
theorem TupAt.rv {K : PySem.W.Frag} {mu : Mu} {H : Hp} {l : List D} {a : Addr} {vs : List V} (t : TupAt K mu H a vs) (z : vs.length ≤ sizeLine) (r : RVs K mu H l vs) : RV K mu H (.tup l) (.ref a) := by
  unfold RV; exact ⟨a, vs, rfl, t, z, r⟩
theorem RV.tup_inv {K : PySem.W.Frag} {mu : Mu} {H : Hp} {l : List D} {v : V} (h : RV K mu H (.tup l) v) : ∃ a vs, v = .ref a ∧ TupAt K mu H a vs ∧ vs.length ≤ sizeLine ∧ RVs K mu H l vs := by unfold RV at h; exact h
theorem RV.lst_inv {K : PySem.W.Frag} {mu : Mu} {H : Hp} {l : List D} {v : V} (h : RV K mu H (.lst l) v) : ∃ a vs, v = .ref a ∧ LstAt mu H a vs ∧ vs.length ≤ sizeLine ∧ RVs K mu H l vs := by unfold RV at h; exact h
theorem RV.frz_inv {K : PySem.W.Frag} {mu : Mu} {H : Hp} {l : List D} {v : V} (h : RV K mu H (.frz l) v) : ∃ a vs, v = .ref a ∧ FrzAt K mu H a vs ∧ vs.length ≤ sizeLine ∧ RVs K mu H l vs := by unfold RV at h; exact h
theorem RV.ref_inv {K : PySem.W.Frag} {mu : Mu} {H : Hp} {n : Nat} {v : V} (h : RV K mu H (.ref n) v) : ∃ a, v = .ref a ∧ mu.m[n]? = some a := by unfold RV at h; exact h
theorem RVs.nil_iff {K : PySem.W.Frag} {mu : Mu} {H : Hp} {l : List D} {vs : List V} (r : RVs K mu H l vs) : vs = [] ↔ l = [] := by
  have := r.length
  constructor
  · intro e; subst e; simpa using this.symm
  · intro e; subst e; simpa using this
theorem od_add (c : Ctx X G W) : OpD X G W (binaryOp .Add) addD := by
  refine ⟨_, OpR.or (OpR.or (OpR.or op_add op_add_str) op_catA) op_cat, fun mu sg H h x y v u Q s rx ry w => ?_⟩
  unfold addD at w
  split at w
  · exact .inl (.inl (.inl ⟨_, _, rx.int_inv, ry.int_inv, w.ok s .mk_int⟩))
  · split at w
    · rename_i hl
      refine .inl (.inl (.inr ⟨_, _, rx.str_inv, ry.str_inv, by rw [line_eq]; exact hl, w.ok s .mk_str⟩))
    · exact w.elim
  · split at w
    · rename_i hl
      obtain ⟨a, xs, rfl, ta, za, ra⟩ := rx.tup_inv
      obtain ⟨b, ys, rfl, tb, zb, rb⟩ := ry.tup_inv
      have hl' : xs.length + ys.length ≤ sizeLine := by rw [ra.length, rb.length, line_eq]; exact hl
      refine .inl (.inr ⟨a, b, xs, ys, rfl, rfl, c.k ▸ ta.sq, c.k ▸ tb.sq, hl', fun e => ?_, fun _ e => ?_, fun _ _ p hp => ?_⟩)
      · have := ra.nil_iff.mp e
        subst this
        exact w.ok s (tb.rv zb rb)
      · have := rb.nil_iff.mp e
        subst this
        rw [List.append_nil] at w
        exact w.ok s (ta.rv za ra)
      · exact w.tup s (ra.append rb) (by rw [List.length_append]; exact hl') hp
    · exact w.elim
  · split at w
    · rename_i hl
      obtain ⟨a, xs, rfl, ta, za, ra⟩ := rx.lst_inv
      obtain ⟨b, ys, rfl, tb, zb, rb⟩ := ry.lst_inv
      have hl' : xs.length + ys.length ≤ sizeLine := by rw [ra.length, rb.length, line_eq]; exact hl
      exact .inr ⟨a, b, xs, ys, rfl, rfl, ta.1, tb.1, hl', fun p hp => w.lst s (ra.append rb) (by rw [List.length_append]; exact hl') hp⟩
    · exact w.elim
  · exact w.elim
def subD := intOp cT fun i j => .int (i - j)
theorem od_sub : OpD X G W (binaryOp .Sub) subD := ⟨_, op_sub, fun mu sg H h x y v u Q s rx ry w => by
  obtain ⟨i, j, rfl, rfl, _, w⟩ := intOp_inv w
  exact ⟨i, j, rx.int_inv, ry.int_inv, w.ok s .mk_int⟩⟩
def mulD := intOp CMul fun i j => .int (i * j)
theorem od_mul : OpD X G W (binaryOp .Mult) mulD := ⟨_, op_mul, fun mu sg H h x y v u Q s rx ry w => by
  obtain ⟨i, j, rfl, rfl, c, w⟩ := intOp_inv w
  exact ⟨i, j, rx.int_inv, ry.int_inv, c, w.ok s .mk_int⟩⟩
def fdivD := intOp CDiv fun i j => .int (i / j)
theorem od_fdiv : OpD X G W (binaryOp .FloorDiv) fdivD := ⟨_, op_fdiv, fun mu sg H h x y v u Q s rx ry w => by
  obtain ⟨i, j, rfl, rfl, c, w⟩ := intOp_inv w
  exact ⟨i, j, rx.int_inv, ry.int_inv, c, w.ok s .mk_int⟩⟩
def modD := intOp cPos fun i j => .int (i % j)
theorem od_mod : OpD X G W (binaryOp .Mod) modD := ⟨_, op_mod, fun mu sg H h x y v u Q s rx ry w => by
  obtain ⟨i, j, rfl, rfl, c, w⟩ := intOp_inv w
  exact ⟨i, j, rx.int_inv, ry.int_inv, c, w.ok s .mk_int⟩⟩
def powD := intOp CPow fun i j => .int (i ^ j.toNat)
theorem od_pow : OpD X G W (binaryOp .Pow) powD := ⟨_, op_pow, fun mu sg H h x y v u Q s rx ry w => by
  obtain ⟨i, j, rfl, rfl, c, w⟩ := intOp_inv w
  exact ⟨i, j, rx.int_inv, ry.int_inv, c, w.ok s .mk_int⟩⟩
def shrD := intOp cNN fun i j => .int (i / 2 ^ j.toNat)
theorem od_shr : OpD X G W (binaryOp .RShift) shrD := ⟨_, op_shr, fun mu sg H h x y v u Q s rx ry w => by
  obtain ⟨i, j, rfl, rfl, c, w⟩ := intOp_inv w
  exact ⟨i, j, rx.int_inv, ry.int_inv, c, w.ok s .mk_int⟩⟩
def andD := intOp cT fun i j => .int (Builtin.bitAnd i j)
theorem od_and : OpD X G W (binaryOp .BitAnd) andD := ⟨_, op_and, fun mu sg H h x y v u Q s rx ry w => by
  obtain ⟨i, j, rfl, rfl, c, w⟩ := intOp_inv w
  exact ⟨i, j, rx.int_inv, ry.int_inv, w.ok s .mk_int⟩⟩
def ltD := intOp cT fun i j => .bl (decide (i < j))
theorem od_lt : OpD X G W (compareOp .Lt) ltD := ⟨_, op_lt, fun mu sg H h x y v u Q s rx ry w => by
  obtain ⟨i, j, rfl, rfl, c, w⟩ := intOp_inv w
  exact ⟨i, j, rx.int_inv, ry.int_inv, w.ok s .mk_bl⟩⟩
def leD := intOp cT fun i j => .bl (decide (i ≤ j))
theorem od_le : OpD X G W (compareOp .LtE) leD := ⟨_, op_le, fun mu sg H h x y v u Q s rx ry w => by
  obtain ⟨i, j, rfl, rfl, c, w⟩ := intOp_inv w
  exact ⟨i, j, rx.int_inv, ry.int_inv, w.ok s .mk_bl⟩⟩
def gtD := intOp cT fun i j => .bl (decide (j < i))
theorem od_gt : OpD X G W (compareOp .Gt) gtD := ⟨_, op_gt, fun mu sg H h x y v u Q s rx ry w => by
  obtain ⟨i, j, rfl, rfl, c, w⟩ := intOp_inv w
  exact ⟨i, j, rx.int_inv, ry.int_inv, w.ok s .mk_bl⟩⟩
def geD := intOp cT fun i j => .bl (decide (j ≤ i))
theorem od_ge : OpD X G W (compareOp .GtE) geD := ⟨_, op_ge, fun mu sg H h x y v u Q s rx ry w => by
  obtain ⟨i, j, rfl, rfl, c, w⟩ := intOp_inv w
  exact ⟨i, j, rx.int_inv, ry.int_inv, w.ok s .mk_bl⟩⟩
end
end MP
set_option Elab.async false
set_option linter.all false
set_option maxRecDepth 100000
/-! MP: equality, tests, places, slices, calls of built-ins. -/
namespace MP
open PySem PySem.Spec PyProof.Rows L2

/-! ### what a value is as data -/
mutual
def D.py : D → PyData
  | .non => .none
  | .bl b => .bool b
  | .int i => .int i
  | .str s => .str s
  | .tup l => .tuple (pys l)
  | .lst l => .list (pys l)
  | .frz l => .list (pys l)
  | .ref _ => .none
def pys : List D → List PyData
  | [] => []
  | d :: ds => d.py :: pys ds
end
mutual
/-- no thing is in it -/
def D.pure : D → Bool
  | .tup l => pures l
  | .lst l => pures l
  | .frz l => pures l
  | .ref _ => false
  | _ => true
def pures : List D → Bool
  | [] => true
  | d :: ds => d.pure && pures ds
end
mutual
theorem RV.dp {K : PySem.W.Frag} {mu : Mu} {H : Hp} : ∀ (d : D) (v : V), d.pure = true → RV K mu H d v → Dp K H v d.py
  | .non, v, _, h => by unfold RV at h; subst h; exact .non
  | .bl b, v, _, h => by unfold RV at h; subst h; exact .bl b
  | .int b, v, _, h => by unfold RV at h; subst h; exact .int b
  | .str b, v, _, h => by unfold RV at h; subst h; exact .str b
  | .tup l, v, p, h => by
    unfold RV at h; unfold D.pure at p; unfold D.py
    obtain ⟨a, vs, rfl, t, z, r⟩ := h
    exact .tup t.sq (RVs.dp l vs p r)
  | .lst l, v, p, h => by
    unfold RV at h; unfold D.pure at p; unfold D.py
    obtain ⟨a, vs, rfl, t, z, r⟩ := h
    exact .lst t.sq (RVs.dp l vs p r)
  | .frz l, v, p, h => by
    unfold RV at h; unfold D.pure at p; unfold D.py
    obtain ⟨a, vs, rfl, t, z, r⟩ := h
    exact .lst t.sq (RVs.dp l vs p r)
  | .ref n, v, p, h => by unfold D.pure at p; cases p
theorem RVs.dp {K : PySem.W.Frag} {mu : Mu} {H : Hp} : ∀ (ds : List D) (vs : List V), pures ds = true → RVs K mu H ds vs → DpAll K H vs (pys ds)
  | [], vs, _, h => by unfold RVs at h; subst h; exact .nil
  | d :: ds, vs, p, h => by
    unfold RVs at h; unfold pures at p; unfold pys
    obtain ⟨v, r, rfl, h1, h2⟩ := h
    have p' := Bool.and_eq_true_iff.mp p
    exact .cons (RV.dp d v p'.1 h1) (RVs.dp ds r p'.2 h2)
end
/-- fit to be compared -/
def D.fit (d : D) : Bool := d.pure && SeqAt.shaped d.py
def eqB (x y : D) : Bool := PyData.eqv x.py y.py
/-- scalars whose == is plain -/
def scD : D → D → Bool
  | .int _, .int _ | .str _, .str _ | .bl _, .bl _ | .non, .non | .non, .int _ | .int _, .non | .non, .bl _ | .bl _, .non | .non, .str _ | .str _, .non | .int _, .str _ | .str _, .int _ | .bl _, .str _ | .str _, .bl _ => true
  | _, _ => false
def eqD (x y : D) (h : Th) : Res D := if scD x y = true then .ok (.bl (eqB x y)) h else if (x.fit && y.fit) = true then .ok (.bl (eqB x y)) h else .bad
def neD (x y : D) (h : Th) : Res D := if scD x y = true then .ok (.bl (!eqB x y)) h else if (x.fit && y.fit) = true then .ok (.bl (!eqB x y)) h else .bad
theorem scD_sound {K : PySem.W.Frag} {mu : Mu} {H : Hp} {x y : D} {v u : V} (h : scD x y = true) (rx : RV K mu H x v) (ry : RV K mu H y u) : scal v u = true ∧ decide (v = u) = eqB x y := by
  unfold scD at h
  split at h <;> first
    | (cases h; done)
    | (unfold RV at rx ry; subst rx ry; refine ⟨rfl, ?_⟩; simp [eqB, D.py, PyData.eqv] <;> (try rw [Bool.eq_iff_iff]; simp))
section
variable {X : Cx} {G : Cfg} {W : WX} {e a b : Expr} {pos p : Pos}
theorem od_eq (c : Ctx X G W) : OpD X G W (compareOp .Eq) eqD := by
  refine ⟨_, OpR.or op_eq (op_eqD (by have := c.hu; omega)), fun mu sg H h x y v u Q s rx ry w => ?_⟩
  unfold eqD at w
  split at w
  · rename_i hs
    obtain ⟨h1, h2⟩ := scD_sound hs rx ry
    refine .inl ⟨h1, ?_⟩
    rw [h2]
    exact w.ok s .mk_bl
  · split at w
    · rename_i hf
      obtain ⟨f1, f2⟩ := Bool.and_eq_true_iff.mp hf
      obtain ⟨p1, q1⟩ := Bool.and_eq_true_iff.mp f1
      obtain ⟨p2, q2⟩ := Bool.and_eq_true_iff.mp f2
      exact .inr ⟨_, _, c.k ▸ RV.dp _ _ p1 rx, c.k ▸ RV.dp _ _ p2 ry, q1, q2, w.ok s .mk_bl⟩
    · exact w.elim
theorem od_ne (c : Ctx X G W) : OpD X G W (compareOp .NotEq) neD := by
  refine ⟨_, OpR.or op_ne (op_neD (by have := c.hu; omega)), fun mu sg H h x y v u Q s rx ry w => ?_⟩
  unfold neD at w
  split at w
  · rename_i hs
    obtain ⟨h1, h2⟩ := scD_sound hs rx ry
    refine .inl ⟨h1, ?_⟩
    rw [h2]
    exact w.ok s .mk_bl
  · split at w
    · rename_i hf
      obtain ⟨f1, f2⟩ := Bool.and_eq_true_iff.mp hf
      obtain ⟨p1, q1⟩ := Bool.and_eq_true_iff.mp f1
      obtain ⟨p2, q2⟩ := Bool.and_eq_true_iff.mp f2
      exact .inr ⟨_, _, c.k ▸ RV.dp _ _ p1 rx, c.k ▸ RV.dp _ _ p2 ry, q1, q2, w.ok s .mk_bl⟩
    · exact w.elim

/-! ### is None, is True, is False -/
/-- None, True, False: by what they are -/
def D.mark : D → Bool
  | .non | .bl _ => true
  | _ => false
def isB : D → D → Bool
  | .non, .non => true
  | .bl a, .bl b => a == b
  | _, _ => false
def isD (x y : D) (h : Th) : Res D := if y.mark = true then .ok (.bl (isB x y)) h else .bad
def isNotD (x y : D) (h : Th) : Res D := if y.mark = true then .ok (.bl (!isB x y)) h else .bad
def rIsM : R2 := fun x y H Q => (y = .non ∨ ∃ b, y = .bl b) ∧ Q (.bl (decide (x = y))) H
def rNotM : R2 := fun x y H Q => (y = .non ∨ ∃ b, y = .bl b) ∧ Q (.bl (!decide (x = y))) H
theorem plain_mark {x y : V} {v u : Value} (rx : RelV x v) (ry : RelV y u) (m : y = .non ∨ ∃ b, y = .bl b) : plainIs v u = true ∧ (v == u) = decide (x = y) := by
  rcases m with rfl | ⟨b, rfl⟩
  · obtain rfl : u = Value.none := ry
    cases x with
    | non => obtain rfl : v = Value.none := rx; exact ⟨rfl, by simp⟩
    | bl b => obtain rfl : v = Value.bool b := rx; exact ⟨rfl, by simp⟩
    | int i => obtain ⟨t, rfl⟩ : ∃ t, v = Value.int i t := rx; exact ⟨rfl, by simp⟩
    | str i => obtain ⟨t, rfl⟩ : ∃ t, v = Value.str i t := rx; exact ⟨rfl, by simp⟩
    | byt i => obtain ⟨t, rfl⟩ : ∃ t, v = Value.bytes i t := rx; exact ⟨rfl, by simp⟩
    | flt i => obtain ⟨t, rfl⟩ : ∃ t, v = Value.float i t := rx; exact ⟨rfl, by simp⟩
    | ref a => obtain rfl : v = Value.ref a := rx; exact ⟨rfl, by simp⟩
    | ty n => obtain rfl : v = Value.type n := rx; exact ⟨rfl, by simp⟩
  · obtain rfl : u = Value.bool b := ry
    cases x with
    | non => obtain rfl : v = Value.none := rx; exact ⟨rfl, by simp⟩
    | bl c =>
      obtain rfl : v = Value.bool c := rx
      refine ⟨rfl, ?_⟩
      rw [Bool.eq_iff_iff]
      simp
    | int i => obtain ⟨t, rfl⟩ : ∃ t, v = Value.int i t := rx; exact ⟨rfl, by simp⟩
    | str i => obtain ⟨t, rfl⟩ : ∃ t, v = Value.str i t := rx; exact ⟨rfl, by simp⟩
    | byt i => obtain ⟨t, rfl⟩ : ∃ t, v = Value.bytes i t := rx; exact ⟨rfl, by simp⟩
    | flt i => obtain ⟨t, rfl⟩ : ∃ t, v = Value.float i t := rx; exact ⟨rfl, by simp⟩
    | ref a => obtain rfl : v = Value.ref a := rx; exact ⟨rfl, by simp⟩
    | ty n => obtain rfl : v = Value.type n := rx; exact ⟨rfl, by simp⟩
theorem op_isM : OpR X (compareOp .Is) rIsM := by
  intro pins s σ H x y v u Q I rx ry h
  obtain ⟨m, q⟩ := h
  obtain ⟨h1, h2⟩ := plain_mark rx ry m
  exact wpAny_is_plain h1 ⟨.bl _, H, I, rfl, by rw [h2]; exact q⟩
theorem op_notM : OpR X (compareOp .IsNot) rNotM := by
  intro pins s σ H x y v u Q I rx ry h
  obtain ⟨m, q⟩ := h
  obtain ⟨h1, h2⟩ := plain_mark rx ry m
  exact wpAny_isNot_plain h1 ⟨.bl _, H, I, rfl, by rw [h2]; exact q⟩
theorem mark_sound {K : PySem.W.Frag} {mu : Mu} {H : Hp} {x y : D} {v u : V} (m : y.mark = true) (rx : RV K mu H x v) (ry : RV K mu H y u) : (u = .non ∨ ∃ b, u = .bl b) ∧ decide (v = u) = isB x y := by
  cases y <;> first
    | (cases m; done)
    | skip
  · unfold RV at ry
    subst ry
    refine ⟨.inl rfl, ?_⟩
    cases x <;> unfold RV at rx <;> first
      | (subst rx; simp [isB]; done)
      | (obtain ⟨a, vs, rfl, _⟩ := rx; simp [isB]; done)
      | (obtain ⟨a, rfl, _⟩ := rx; simp [isB]; done)
  · unfold RV at ry
    subst ry
    refine ⟨.inr ⟨_, rfl⟩, ?_⟩
    cases x <;> unfold RV at rx <;> first
      | (subst rx; rw [Bool.eq_iff_iff]; simp [isB]; done)
      | (obtain ⟨a, vs, rfl, _⟩ := rx; simp [isB]; done)
      | (obtain ⟨a, rfl, _⟩ := rx; simp [isB]; done)
theorem od_is : OpD X G W (compareOp .Is) isD := by
  refine ⟨_, op_isM, fun mu sg H h x y v u Q s rx ry w => ?_⟩
  unfold isD at w
  split at w
  · obtain ⟨h1, h2⟩ := mark_sound ‹_› rx ry
    exact ⟨h1, by rw [h2]; exact w.ok s .mk_bl⟩
  · exact w.elim
theorem od_isNot : OpD X G W (compareOp .IsNot) isNotD := by
  refine ⟨_, op_notM, fun mu sg H h x y v u Q s rx ry w => ?_⟩
  unfold isNotD at w
  split at w
  · obtain ⟨h1, h2⟩ := mark_sound ‹_› rx ry
    exact ⟨h1, by rw [h2]; exact w.ok s .mk_bl⟩
  · exact w.elim

/-! ### what is walked, counted, asked by a place -/
def listD (h : Th) : D → Option (List D)
  | .lst l => some l
  | .frz l => some l
  | .ref n => match h[n]? with
    | some (.lst l) => some l
    | _ => none
  | _ => none
def seqD (h : Th) : D → Option (List D)
  | .tup l => some l
  | d => listD h d
theorem RS.lst {mu : Mu} {H : Hp} {h : Th} (s : RS G mu H h) {n : Nat} {l : List D} (e : h[n]? = some (.lst l)) : ∃ a vs, mu.m[n]? = some a ∧ H a = some (.lst vs) ∧ vs.length ≤ sizeLine ∧ RVs G.K mu H l vs := by
  have hn : n < mu.m.length := by rw [s.len]; exact (List.getElem?_eq_some_iff.mp e).1
  obtain ⟨vs, q, z, r⟩ := s.obj n (.lst l) mu.m[n] e (List.getElem?_eq_getElem hn)
  exact ⟨mu.m[n], vs, List.getElem?_eq_getElem hn, q, z, r⟩
theorem list_sound {mu : Mu} {H : Hp} {h : Th} {d : D} {v : V} {l : List D} (s : RS G mu H h) (r : RV G.K mu H d v) (e : listD h d = some l) :
    ∃ a vs, v = .ref a ∧ SqL G.K H a vs ∧ vs.length ≤ sizeLine ∧ RVs G.K mu H l vs := by
  unfold listD at e
  split at e
  · cases e
    obtain ⟨a, vs, rfl, t, z, r⟩ := r.lst_inv
    exact ⟨a, vs, rfl, t.sq, z, r⟩
  · cases e
    obtain ⟨a, vs, rfl, t, z, r⟩ := r.frz_inv
    exact ⟨a, vs, rfl, t.sq, z, r⟩
  · split at e
    · cases e
      rename_i hq
      obtain ⟨a, rfl, m⟩ := r.ref_inv
      obtain ⟨a', vs, m', q, z, r⟩ := s.lst hq
      rw [m] at m'
      cases m'
      exact ⟨a, vs, rfl, .inl (.inl q), z, r⟩
    · cases e
  · cases e
theorem seq_sound {mu : Mu} {H : Hp} {h : Th} {d : D} {v : V} {l : List D} (s : RS G mu H h) (r : RV G.K mu H d v) (e : seqD h d = some l) :
    ∃ a vs, v = .ref a ∧ (SqL G.K H a vs ∨ SqT G.K H a vs) ∧ vs.length ≤ sizeLine ∧ RVs G.K mu H l vs := by
  unfold seqD at e
  split at e
  · cases e
    obtain ⟨a, vs, rfl, t, z, r⟩ := r.tup_inv
    exact ⟨a, vs, rfl, .inr t.sq, z, r⟩
  · obtain ⟨a, vs, h1, h2, h3, h4⟩ := list_sound s r e
    exact ⟨a, vs, h1, .inl h2, h3, h4⟩

/-! ### a[i] -/
def getD (x y : D) (h : Th) : Res D := match y with
  | .int i => match x with
    | .str z => if z.length ≤ 16777216 then (match atI z.cps.toList i with
      | some c => .ok (.str ⟨#[c]⟩) h
      | none => .bad) else .bad
    | _ => match seqD h x with
      | some l => (match atI l i with
        | some d => .ok d h
        | none => .bad)
      | none => .bad
  | _ => .bad
theorem atI_rel {K : PySem.W.Frag} {mu : Mu} {H : Hp} {l : List D} {vs : List V} {i : Int} {d : D} (r : RVs K mu H l vs) (e : atI l i = some d) : ∃ v, atI vs i = some v ∧ RV K mu H d v := by
  unfold atI at e ⊢
  rw [r.length]
  cases q : ixN l.length i with
  | none => rw [q] at e; cases e
  | some j =>
    rw [q] at e
    obtain ⟨v, h1, h2⟩ := r.get e
    exact ⟨v, h1, h2⟩
theorem de_get (c : Ctx X G W) {m1 m2 : DE} (ha : PE X a (tE G W m1)) (hb : PE X b (tE G W m2)) (hs : PlainIx b := by exact fun _ _ => rfl) : PE X (.Subscript a b pos) (tE G W (binE getD m1 m2)) := by
  refine pe_imp (pe_ix (IxR.or (IxR.or ix_list ix_tup) ix_str) ha hb hs) fun sg H Q t => op_read (fun mu sg H h x y v u Q s rx ry w => ?_) t
  unfold getD at w
  split at w
  · rename_i i
    have ey := ry.int_inv
    split at w
    · split at w
      · split at w
        · exact .inr ⟨_, i, _, rx.str_inv, ey, by rw [line_eq]; assumption, ‹_›, w.ok s .mk_str⟩
        · exact w.elim
      · exact w.elim
    · split at w
      · rename_i l hl
        split at w
        · rename_i d hd
          obtain ⟨p, vs, rfl, q, z, r⟩ := seq_sound s rx hl
          obtain ⟨v, h1, h2⟩ := atI_rel r hd
          rcases q with q | q
          · exact .inl (.inl ⟨p, vs, i, v, rfl, ey, c.k ▸ q, h1, w.ok s h2⟩)
          · exact .inl (.inr ⟨p, vs, i, v, rfl, ey, c.k ▸ q, h1, w.ok s h2⟩)
        · exact w.elim
      · exact w.elim
  · exact w.elim

/-! ### a[i:j] -/
def cutD (xs : List D) (lo hi : Option Int) : List D := (xs.drop (HT.sIx xs.length 0 lo)).take (HT.sIx xs.length xs.length hi - HT.sIx xs.length 0 lo)
theorem cut_rel {K : PySem.W.Frag} {mu : Mu} {H : Hp} {l : List D} {vs : List V} {lo hi : Option Int} (r : RVs K mu H l vs) : RVs K mu H (cutD l lo hi) (cutV vs lo hi) := by
  unfold cutD cutV
  rw [r.length]
  exact (r.drop _).take _
theorem cut_all {l : List D} {lo hi : Option Int} (h1 : HT.sIx l.length 0 lo = 0) (h2 : HT.sIx l.length l.length hi = l.length) : cutD l lo hi = l := by
  unfold cutD
  rw [h1, h2]
  simp
abbrev DO := Ro → Th → Res (Option Int)
abbrev RI : Mu → Hp → Option Int → Option Int → Prop := fun _ _ a b => b = a
def noP : DO := fun _ h => .ok none h
def someP (m : DE) : DO := fun rho h => (m rho h).bind fun d h1 => match d with
  | .int i => .ok (some i) h1
  | _ => .bad
theorem po_imp {e : Option Expr} {t t' : TO} (h : PO X e t) (q : ∀ sg H Q, t' sg H Q → t sg H Q) : PO X e t' := ⟨fun pins s sg H Q I w => h.run pins s sg H Q I (q _ _ _ w)⟩
theorem do_none : PO X none (tG G W RI noP) := po_imp po_none fun sg H Q ⟨mu, rho, th, s, e, w⟩ => w.ok s rfl
theorem do_some {m : DE} (h : PE X e (tE G W m)) : PO X (some e) (tG G W RI (someP m)) := by
  refine po_imp (po_some h) fun sg H Q t => ?_
  obtain ⟨mu, rho, th, s, e, w⟩ := tG.bind (m2 := fun d _ h1 => match d with
    | .int i => .ok (some i) h1
    | _ => .bad) (R := RV G.K) t
  refine ⟨mu, rho, th, s, e, w.imp fun x H1 q => ?_⟩
  obtain ⟨mu1, rho1, h1, d, s1, e1, r1, w1⟩ := q
  split at w1
  · exact ⟨_, r1.int_inv, w1.ok s1 rfl⟩
  · exact w1.elim
def sliceD (x : D) (lo hi : Option Int) (h : Th) : Res D := match x with
  | .tup l => .ok (.tup (cutD l lo hi)) h
  | .str z => if z.length ≤ 16777216 then .ok (.str (cutS z lo hi)) h else .bad
  | _ => match listD h x with
    | some l => .ok (.lst (cutD l lo hi)) h
    | none => .bad
def sliceE (m : DE) (lo hi : DO) : DE := fun rho h => (m rho h).bind fun x h1 => (lo rho h1).bind fun l h2 => (hi rho h2).bind fun u h3 => sliceD x l u h3
end
end MP
set_option Elab.async false
set_option linter.all false
set_option maxRecDepth 100000
/-! MP: slices, tests, and or not, calls. -/
namespace MP
open PySem PySem.Spec PyProof.Rows L2
section
variable {X : Cx} {G : Cfg} {W : WX} {e a b : Expr} {pos p p2 : Pos}
theorem de_slice (c : Ctx X G W) {m : DE} {lo hi : Option Expr} {ml mh : DO} (he : PE X e (tE G W m)) (hl : PO X lo (tG G W RI ml)) (hh : PO X hi (tG G W RI mh)) : PE X (.Subscript e (.Slice lo hi none p2) pos) (tE G W (sliceE m ml mh)) := by
  refine pe_imp (pe_slice (SlR.or (SlR.or sl_list sl_tupA) sl_str) he hl hh) fun sg H Q t => ?_
  obtain ⟨mu, rho, th, s, e, w⟩ := tG.bind (m2 := fun x rho h1 => (ml rho h1).bind fun l h2 => (mh rho h2).bind fun u h3 => sliceD x l u h3) (R := RV G.K) t
  refine ⟨mu, rho, th, s, e, w.imp fun v H1 q => ?_⟩
  obtain ⟨mu1, rho1, h1, x, s1, e1, r1, w1⟩ := q
  refine ⟨mu1, rho1, h1, s1, e1, (Wp.bind (R := RI) w1).imp fun l H2 q => ?_⟩
  obtain ⟨mu2, h2, l', e2, s2, rl, w2⟩ := q
  cases rl
  refine ⟨mu2, rho1, h2, s2, e1.ext e2, (Wp.bind (R := RI) w2).imp fun u H3 q => ?_⟩
  obtain ⟨mu3, h3, u', e3, s3, ru, w3⟩ := q
  cases ru
  have r3 := RV.ext (e2.trans e3) _ _ r1
  unfold sliceD at w3
  split at w3
  · obtain ⟨a, vs, rfl, t, z, r⟩ := r3.tup_inv
    refine .inl (.inr ⟨a, vs, rfl, c.k ▸ t.sq, fun hw => ?_, fun hw p hp => w3.tup s3 (cut_rel r) (Nat.le_trans (cutV_length _ _ _) z) hp⟩)
    rw [r.length] at hw
    rw [cut_all hw.1 hw.2] at w3
    exact w3.ok s3 (t.rv z r)
  · split at w3
    · exact .inr ⟨_, r3.str_inv, by rw [line_eq]; assumption, w3.ok s3 .mk_str⟩
    · exact w3.elim
  · split at w3
    · rename_i hl
      obtain ⟨a, vs, rfl, q, z, r⟩ := list_sound s3 r3 hl
      exact .inl (.inl ⟨a, vs, rfl, c.k ▸ q, fun p hp => w3.lst s3 (cut_rel r) (Nat.le_trans (cutV_length _ _ _) z) hp⟩)
    · exact w3.elim

/-! ### tests -/
/-- a value's truth -/
def truD (d : D) (h : Th) : Res Bool := match d with
  | .non => .ok false h
  | .bl b => .ok b h
  | .int i => .ok (i != 0) h
  | .str z => if z.length ≤ 16777216 then .ok ((z.length : Int) != 0) h else .bad
  | d => match seqD h d with
    | some l => .ok (!l.isEmpty) h
    | none => .bad
def truT (m : DE) : DT := fun rho h => (m rho h).bind truD
theorem tru_sound {mu : Mu} {sg : L2.St} {H : Hp} {h : Th} {d : D} {v : V} {Q : Bool → Hp → Prop} (s : RS G mu H h) (r : RV G.K mu H d v) (w : Wp G W RB mu sg H (truD d h) Q) : ∃ k, TruV G.K v H k ∧ Q k H := by
  unfold truD at w
  split at w
  · unfold RV at r; subst r; exact ⟨_, rfl, w.ok s rfl⟩
  · unfold RV at r; subst r; exact ⟨_, rfl, w.ok s rfl⟩
  · unfold RV at r; subst r; exact ⟨_, rfl, w.ok s rfl⟩
  · split at w
    · unfold RV at r; subst r; exact ⟨_, ⟨by rw [line_eq]; assumption, rfl⟩, w.ok s rfl⟩
    · exact w.elim
  · split at w
    · rename_i l hl
      obtain ⟨a, vs, rfl, q, z, rs⟩ := seq_sound s r hl
      refine ⟨!l.isEmpty, ?_, w.ok s rfl⟩
      have e : (!l.isEmpty) = !vs.isEmpty := by
        have := rs.length
        cases l <;> cases vs <;> simp_all
      rcases q with q | q
      · exact .inl ⟨vs, q, e⟩
      · exact .inr (.inl ⟨vs, q, e⟩)
    · exact w.elim
/-- any expression but and, or, not as a test -/
theorem dt_val (c : Ctx X G W) {m : DE} (h : PE X a (tE G W m)) (he : ∀ whole, isTrue a X.env whole = (do let v ← whole; standAt a.pos; holding [v] (truthy v)) := by intro _; rfl) : PT X a (tT G W (truT m)) := by
  refine pt_imp (pt_truth h he) fun sg H Q t => ?_
  obtain ⟨mu, rho, th, s, e, w⟩ := tG.bind (m2 := fun d _ h => truD d h) (R := RV G.K) t
  refine ⟨mu, rho, th, s, e, w.imp fun x H1 q => ?_⟩
  obtain ⟨mu1, rho1, h1, d, s1, e1, r1, w1⟩ := q
  obtain ⟨k, h2, h3⟩ := tru_sound s1 r1 w1
  exact ⟨k, c.k ▸ h2, h3⟩
def notT (m : DT) : DT := fun rho h => (m rho h).bind fun b h1 => .ok (!b) h1
theorem dt_not {m : DT} (h : PT X a (tT G W m)) : PT X (.UnaryOp .Not a pos) (tT G W (notT m)) := by
  refine pt_imp (pt_not h) fun sg H Q t => ?_
  obtain ⟨mu, rho, th, s, e, w⟩ := tG.bind (m2 := fun b _ h1 => .ok (!b) h1) (R := RB) t
  refine ⟨mu, rho, th, s, e, w.imp fun x H1 q => ?_⟩
  obtain ⟨mu1, rho1, h1, d, s1, e1, r1, w1⟩ := q
  cases r1
  exact w1.ok s1 rfl
def andT (m1 m2 : DT) : DT := fun rho h => (m1 rho h).bind fun b h1 => if b = true then m2 rho h1 else .ok false h1
def orT (m1 m2 : DT) : DT := fun rho h => (m1 rho h).bind fun b h1 => if b = true then .ok true h1 else m2 rho h1
theorem dw_and1 {m : DT} (h : PT X a (tT G W m)) : PW X (.BoolOp .And [a] pos) (tT G W m) := pw_and1 h
theorem dw_or1 {m : DT} (h : PT X a (tT G W m)) : PW X (.BoolOp .Or [a] pos) (tT G W m) := pw_or1 h
theorem dw_and {rest : List Expr} {m1 m2 : DT} (h : PT X a (tT G W m1)) (hb : PW X (.BoolOp .And (b :: rest) pos) (tT G W m2)) : PW X (.BoolOp .And (a :: b :: rest) pos) (tT G W (andT m1 m2)) := by
  refine pw_imp (pw_and h hb) fun sg H Q t => ?_
  obtain ⟨mu, rho, th, s, e, w⟩ := tG.bind (m2 := fun b rho h1 => if b = true then m2 rho h1 else .ok false h1) (R := RB) t
  refine ⟨mu, rho, th, s, e, w.imp fun x H1 q => ?_⟩
  obtain ⟨mu1, rho1, h1, d, s1, e1, r1, w1⟩ := q
  cases r1
  cases x with
  | true => exact ⟨mu1, rho1, h1, s1, e1, w1⟩
  | false => exact w1.ok s1 rfl
theorem dw_or {rest : List Expr} {m1 m2 : DT} (h : PT X a (tT G W m1)) (hb : PW X (.BoolOp .Or (b :: rest) pos) (tT G W m2)) : PW X (.BoolOp .Or (a :: b :: rest) pos) (tT G W (orT m1 m2)) := by
  refine pw_imp (pw_or h hb) fun sg H Q t => ?_
  obtain ⟨mu, rho, th, s, e, w⟩ := tG.bind (m2 := fun b rho h1 => if b = true then .ok true h1 else m2 rho h1) (R := RB) t
  refine ⟨mu, rho, th, s, e, w.imp fun x H1 q => ?_⟩
  obtain ⟨mu1, rho1, h1, d, s1, e1, r1, w1⟩ := q
  cases r1
  cases x with
  | true => exact w1.ok s1 rfl
  | false => exact ⟨mu1, rho1, h1, s1, e1, w1⟩
/-! ### and, or, not as values (all but the last True or False) -/
def blD (d : D) (h : Th) : Res Bool := match d with
  | .bl b => .ok b h
  | _ => .bad
def andE (m1 m2 : DE) : DE := fun rho h => (m1 rho h).bind fun d h1 => match d with
  | .bl true => m2 rho h1
  | .bl false => .ok (.bl false) h1
  | _ => .bad
def orE (m1 m2 : DE) : DE := fun rho h => (m1 rho h).bind fun d h1 => match d with
  | .bl false => m2 rho h1
  | .bl true => .ok (.bl true) h1
  | _ => .bad
def notD (d : D) (h : Th) : Res D := match d with
  | .bl b => .ok (.bl (!b)) h
  | _ => .bad
def notE (m : DE) : DE := fun rho h => (m rho h).bind notD
theorem de_one {op : BoolOp} {m : DE} (h : PE X a (tE G W m)) : PE X (.BoolOp op [a] pos) (tE G W m) := pe_one h
theorem de_and {rest : List Expr} {m1 m2 : DE} (h : PE X a (tE G W m1)) (hb : PE X (.BoolOp .And (b :: rest) pos) (tE G W m2)) : PE X (.BoolOp .And (a :: b :: rest) pos) (tE G W (andE m1 m2)) := by
  refine pe_imp (pe_and h hb) fun sg H Q t => ?_
  obtain ⟨mu, rho, th, s, e, w⟩ := tG.bind (m2 := fun d rho h1 => match d with
    | .bl true => m2 rho h1
    | .bl false => .ok (.bl false) h1
    | _ => .bad) (R := RV G.K) t
  refine ⟨mu, rho, th, s, e, w.imp fun x H1 q => ?_⟩
  obtain ⟨mu1, rho1, h1, d, s1, e1, r1, w1⟩ := q
  split at w1
  · exact ⟨true, r1.bl_inv, mu1, rho1, h1, s1, e1, w1⟩
  · exact ⟨false, r1.bl_inv, w1.ok s1 .mk_bl⟩
  · exact w1.elim
theorem de_or {rest : List Expr} {m1 m2 : DE} (h : PE X a (tE G W m1)) (hb : PE X (.BoolOp .Or (b :: rest) pos) (tE G W m2)) : PE X (.BoolOp .Or (a :: b :: rest) pos) (tE G W (orE m1 m2)) := by
  refine pe_imp (pe_or h hb) fun sg H Q t => ?_
  obtain ⟨mu, rho, th, s, e, w⟩ := tG.bind (m2 := fun d rho h1 => match d with
    | .bl false => m2 rho h1
    | .bl true => .ok (.bl true) h1
    | _ => .bad) (R := RV G.K) t
  refine ⟨mu, rho, th, s, e, w.imp fun x H1 q => ?_⟩
  obtain ⟨mu1, rho1, h1, d, s1, e1, r1, w1⟩ := q
  split at w1
  · exact ⟨false, r1.bl_inv, mu1, rho1, h1, s1, e1, w1⟩
  · exact ⟨true, r1.bl_inv, w1.ok s1 .mk_bl⟩
  · exact w1.elim
theorem de_not {m : DE} (h : PE X a (tE G W m)) : PE X (.UnaryOp .Not a pos) (tE G W (notE m)) := by
  refine pe_imp (pe_not h) fun sg H Q t => ?_
  obtain ⟨mu, rho, th, s, e, w⟩ := tG.bind (m2 := fun d _ h => notD d h) (R := RV G.K) t
  refine ⟨mu, rho, th, s, e, w.imp fun x H1 q => ?_⟩
  obtain ⟨mu1, rho1, h1, d, s1, e1, r1, w1⟩ := q
  unfold notD at w1
  split at w1
  · exact ⟨_, r1.bl_inv, w1.ok s1 .mk_bl⟩
  · exact w1.elim
def ifE (t : DT) (m1 m2 : DE) : DE := fun rho h => (t rho h).bind fun b h1 => if b = true then m1 rho h1 else m2 rho h1
theorem de_if {cn : Expr} {t : DT} {m1 m2 : DE} (hc : PT X cn (tT G W t)) (h1 : PE X a (tE G W m1)) (h2 : PE X b (tE G W m2)) : PE X (.IfExp cn a b pos) (tE G W (ifE t m1 m2)) := by
  refine pe_imp (pe_ifExp hc h1 h2) fun sg H Q t => ?_
  obtain ⟨mu, rho, th, s, e, w⟩ := tG.bind (m2 := fun b rho h1 => if b = true then m1 rho h1 else m2 rho h1) (R := RB) t
  refine ⟨mu, rho, th, s, e, w.imp fun x H1 q => ?_⟩
  obtain ⟨mu1, rho1, h1, d, s1, e1, r1, w1⟩ := q
  cases r1
  cases x with
  | true => exact ⟨mu1, rho1, h1, s1, e1, w1⟩
  | false => exact ⟨mu1, rho1, h1, s1, e1, w1⟩
/-! ### a < b < c -/
def chainE (g1 g2 : D → D → Th → Res D) (m1 m2 m3 : DE) : DE := fun rho h => (m1 rho h).bind fun x h1 => (m2 rho h1).bind fun y h2 => (g1 x y h2).bind fun d h3 => match d with
  | .bl true => (m3 rho h3).bind fun z h4 => g2 y z h4
  | .bl false => .ok (.bl false) h3
  | _ => .bad
theorem chain_read {r r' : R2} {g1 g2 : D → D → Th → Res D} {m1 m2 m3 : DE} (hs : ∀ mu sg H h x y v u Q, RS G mu H h → RV G.K mu H x v → RV G.K mu H y u → Wp G W (RV G.K) mu sg H (g1 x y h) Q → r v u H Q)
    (hs' : ∀ mu sg H h x y v u Q, RS G mu H h → RV G.K mu H x v → RV G.K mu H y u → Wp G W (RV G.K) mu sg H (g2 x y h) Q → r' v u H Q) {sg : L2.St} {H : Hp} {Q : VK} (t : tE G W (chainE g1 g2 m1 m2 m3) sg H Q) : tChain r r' (tE G W m1) (tE G W m2) (tE G W m3) sg H Q := by
  obtain ⟨mu, rho, th, s, e, w⟩ := tG.bind (m2 := fun x rho h1 => (m2 rho h1).bind fun y h2 => (g1 x y h2).bind fun d h3 => match d with
    | .bl true => (m3 rho h3).bind fun z h4 => g2 y z h4
    | .bl false => .ok (.bl false) h3
    | _ => .bad) (R := RV G.K) t
  refine ⟨mu, rho, th, s, e, w.imp fun v H1 q => ?_⟩
  obtain ⟨mu1, rho1, h1, x, s1, e1, r1, w1⟩ := q
  refine ⟨mu1, rho1, h1, s1, e1, (Wp.bind (R := RV G.K) w1).imp fun u H2 q => ?_⟩
  obtain ⟨mu2, h2, y, e2, s2, r2, w2⟩ := q
  refine hs mu2 sg H2 h2 x y v u _ s2 (RV.ext e2 _ _ r1) r2 ((Wp.bind (R := RV G.K) w2).imp fun z H3 q => ?_)
  obtain ⟨mu3, h3, d, e3, s3, r3, w3⟩ := q
  split at w3
  · refine ⟨true, r3.bl_inv, ?_⟩
    rw [if_pos rfl]
    refine ⟨mu3, rho1, h3, s3, (e1.ext e2).ext e3, (Wp.bind (R := RV G.K) w3).imp fun z H4 q => ?_⟩
    obtain ⟨mu4, h4, d4, e4, s4, r4, w4⟩ := q
    exact hs' mu4 sg H4 h4 y d4 u z Q s4 (RV.ext (e3.trans e4) _ _ r2) r4 w4
  · refine ⟨false, r3.bl_inv, ?_⟩
    rw [if_neg Bool.false_ne_true]
    exact w3.ok s3 .mk_bl
  · exact w3.elim
theorem de_chain {cx : Expr} {op op' : CmpOp} {g1 g2 : D → D → Th → Res D} {m1 m2 m3 : DE} (ho : OpD X G W (compareOp op) g1) (ho' : OpD X G W (compareOp op') g2) (h1 : PE X a (tE G W m1)) (h2 : PE X b (tE G W m2)) (h3 : PE X cx (tE G W m3))
    (hm : lastMarks [op, op'] [b, cx] = false := by with_unfolding_all rfl) : PE X (.Compare a [op, op'] [b, cx] pos) (tE G W (chainE g1 g2 m1 m2 m3)) := by
  obtain ⟨r, hr, hs⟩ := ho
  obtain ⟨r', hr', hs'⟩ := ho'
  exact pe_imp (pe_chain hr hr' h1 h2 h3 hm) fun sg H Q t => chain_read hs hs' t
/-- a comparison as a test -/
def boolT (m : DE) : DT := fun rho h => (m rho h).bind blD
theorem bool_read {m : DE} {sg : L2.St} {H : Hp} {Q : Bool → Hp → Prop} (t : tT G W (boolT m) sg H Q) : tE G W m sg H fun x H' => ∃ k, x = .bl k ∧ Q k H' := by
  obtain ⟨mu, rho, th, s, e, w⟩ := tG.bind (m2 := fun d _ h1 => blD d h1) (R := RV G.K) t
  refine ⟨mu, rho, th, s, e, w.imp fun v H1 q => ?_⟩
  obtain ⟨mu1, rho1, h1, x, s1, e1, r1, w1⟩ := q
  unfold blD at w1
  split at w1
  · exact ⟨_, r1.bl_inv, w1.ok s1 rfl⟩
  · exact w1.elim
theorem dt_cmp {op : CmpOp} {g : D → D → Th → Res D} {m1 m2 : DE} (ho : OpD X G W (compareOp op) g) (ha : PE X a (tE G W m1)) (hb : PE X b (tE G W m2)) (hm : behindInMarks op b = false := by rfl) : PT X (.Compare a [op] [b] pos) (tT G W (boolT (binE g m1 m2))) := by
  obtain ⟨r, hr, hs⟩ := ho
  exact pt_imp (pt_cmpR hr ha hb hm) fun sg H Q t => op_read hs (bool_read t)
theorem dt_chain {cx : Expr} {op op' : CmpOp} {g1 g2 : D → D → Th → Res D} {m1 m2 m3 : DE} (ho : OpD X G W (compareOp op) g1) (ho' : OpD X G W (compareOp op') g2) (h1 : PE X a (tE G W m1)) (h2 : PE X b (tE G W m2)) (h3 : PE X cx (tE G W m3))
    (hm : lastMarks [op, op'] [b, cx] = false := by with_unfolding_all rfl) : PT X (.Compare a [op, op'] [b, cx] pos) (tT G W (boolT (chainE g1 g2 m1 m2 m3))) := by
  obtain ⟨r, hr, hs⟩ := ho
  obtain ⟨r', hr', hs'⟩ := ho'
  exact pt_imp (pt_chain hr hr' h1 h2 h3 hm) fun sg H Q t => chain_read hs hs' (bool_read t)

/-! ### calls of one's own -/
/-- a def's promise: what f says -/
def spOf (G : Cfg) (f : List D → Th → Res D) : Sp := fun vs H Q E => ∃ mu ds h, RS G mu H h ∧ RVs G.K mu H ds vs ∧ Wp G (fun cls d _ H' => E cls d H') (RV G.K) mu [] H (f ds h) Q
def callE (f : List D → Th → Res D) (ms : DA) : DE := fun rho h => (ms rho h).bind fun ds h1 => f ds h1
theorem call_read {f : List D → Th → Res D} {ms : DA} {sg : L2.St} {H : Hp} {Q : VK} (t : tE G W (callE f ms) sg H Q) : tCallS (spOf G f) (WE W) (tA G W ms) sg H Q := by
  obtain ⟨mu, rho, th, s, e, w⟩ := tG.bind (m2 := fun ds _ h1 => f ds h1) (R := RVs G.K) t
  refine ⟨mu, rho, th, s, e, w.imp fun vs H1 q => ?_⟩
  obtain ⟨mu1, rho1, h1, ds, s1, e1, r1, w1⟩ := q
  refine ⟨mu1, ds, h1, s1, r1, ?_⟩
  cases hq : f ds h1 with
  | ok d h' => rw [hq] at w1; exact w1
  | ex x h' => rw [hq] at w1; exact w1
  | bad => rw [hq] at w1; exact w1
theorem de_call (c : Ctx X G W) {k : Nat} {f : Addr} {fd : FuncData} {ps : List Str} {fn : List D → Th → Res D} {x : Str} {es : List Expr} {ms : DA} (F : FnOk X.prog X.w X.K X.mg X.base (L2.CX X.prog X.w) k f fd ps (spOf G fn)) (hr : Room k X.A) (hg : Gl X x)
    (hm : X.mg x = some (.ref f)) (hk : PySem.W.keepIn X.K (.ref f) = true) (hb : Binds X.K fd ps []) (ha : PA X (e :: es) (tA G W ms)) (hdb : (x == ("__debug__" : Str)) = false := by decide)
    (he : starEach (e :: es) X.env = (false, eval e X.env) :: starEach es X.env := by rfl) (hpl : (backTo pos (starEach es X.env)).any (·.1) = false := by rfl) :
    PE X (.Call (.Name x p) (e :: es) [] pos) (tE G W (callE fn ms)) :=
  pe_imp (pe_callS F hr hg hm hk hb c.pass ha hdb he hpl) fun sg H Q t => call_read t

/-! ### calls of built-ins -/
/-- a built-in's denotation is what its rule asks -/
def CallD (X : Cx) (G : Cfg) (W : WX) (f : Value) (g : List D → Th → Res D) : Prop :=
  ∃ r : List V → Hp → VK → Prop, CallR X f r ∧ ∀ mu sg H h xs vs Q, RS G mu H h → RVs G.K mu H xs vs → Wp G W (RV G.K) mu sg H (g xs h) Q → r vs H Q
theorem cb_read {r : List V → Hp → VK → Prop} {g : List D → Th → Res D} {ms : DA} (hs : ∀ mu sg H h xs vs Q, RS G mu H h → RVs G.K mu H xs vs → Wp G W (RV G.K) mu sg H (g xs h) Q → r vs H Q)
    {sg : L2.St} {H : Hp} {Q : VK} (t : tE G W (callE g ms) sg H Q) : tCB r (tA G W ms) sg H Q := by
  obtain ⟨mu, rho, th, s, e, w⟩ := tG.bind (m2 := fun ds _ h1 => g ds h1) (R := RVs G.K) t
  refine ⟨mu, rho, th, s, e, w.imp fun vs H1 q => ?_⟩
  obtain ⟨mu1, rho1, h1, ds, s1, e1, r1, w1⟩ := q
  exact hs mu1 sg H1 h1 ds vs Q s1 r1 w1
theorem de_callB {id : String} {g : List D → Th → Res D} {x : Str} {es : List Expr} {ms : DA} (hc : CallD X G W (.builtin id) g) (hg : Gl X x) (hm : X.mg x = none) (hv : bootBuiltins x = some (.builtin id)) (ha : PA X (e :: es) (tA G W ms))
    (hn : x ≠ "__name__" := by decide) (hdb : (x == ("__debug__" : Str)) = false := by decide)
    (he : starEach (e :: es) X.env = (false, eval e X.env) :: starEach es X.env := by rfl) (hpl : (backTo pos (starEach es X.env)).any (·.1) = false := by rfl) : PE X (.Call (.Name x p) (e :: es) [] pos) (tE G W (callE g ms)) := by
  obtain ⟨r, hr, hs⟩ := hc
  exact pe_imp (pe_callB hr hg hm hv ha hn hdb he hpl) fun sg H Q t => cb_read hs t
theorem de_callTy {T : String} {g : List D → Th → Res D} {x : Str} {es : List Expr} {ms : DA} (hc : CallD X G W (.type T) g) (hg : Gl X x) (hm : X.mg x = none) (hv : bootBuiltins x = some (.type T)) (ha : PA X (e :: es) (tA G W ms))
    (hn : x ≠ "__name__" := by decide) (hdb : (x == ("__debug__" : Str)) = false := by decide)
    (he : starEach (e :: es) X.env = (false, eval e X.env) :: starEach es X.env := by rfl) (hpl : (backTo pos (starEach es X.env)).any (·.1) = false := by rfl) : PE X (.Call (.Name x p) (e :: es) [] pos) (tE G W (callE g ms)) := by
  obtain ⟨r, hr, hs⟩ := hc
  exact pe_imp (pe_callTy hr hg hm hv ha hn hdb he hpl) fun sg H Q t => cb_read hs t
end
end MP
set_option Elab.async false
set_option linter.all false
set_option maxRecDepth 100000
/-! MP: built-ins, methods of lists and texts. -/
namespace MP
open PySem PySem.Spec PyProof.Rows L2
section
variable {X : Cx} {G : Cfg} {W : WX} {e a b : Expr} {pos p p2 : Pos}
theorem RVs.inv1 {K : PySem.W.Frag} {mu : Mu} {H : Hp} {x : D} {vs : List V} (h : RVs K mu H [x] vs) : ∃ v, vs = [v] ∧ RV K mu H x v := by
  unfold RVs at h
  obtain ⟨v, r, rfl, h1, h2⟩ := h
  unfold RVs at h2
  subst h2
  exact ⟨v, rfl, h1⟩
theorem RVs.inv2 {K : PySem.W.Frag} {mu : Mu} {H : Hp} {x y : D} {vs : List V} (h : RVs K mu H [x, y] vs) : ∃ v u, vs = [v, u] ∧ RV K mu H x v ∧ RV K mu H y u := by
  unfold RVs at h
  obtain ⟨v, r, rfl, h1, h2⟩ := h
  obtain ⟨u, rfl, h3⟩ := h2.inv1
  exact ⟨v, u, rfl, h1, h3⟩
theorem RVs.inv0 {K : PySem.W.Frag} {mu : Mu} {H : Hp} {vs : List V} (h : RVs K mu H [] vs) : vs = [] := by unfold RVs at h; exact h

def lenD : List D → Th → Res D
  | [.str z], h => if z.length ≤ 16777216 then .ok (.int z.length) h else .bad
  | [x], h => match seqD h x with
    | some l => .ok (.int l.length) h
    | none => .bad
  | _, _ => .bad
theorem cd_len (c : Ctx X G W) : CallD X G W (.builtin "len") lenD := by
  refine ⟨_, CallR.or call_len_seq call_len_str, fun mu sg H h xs vs Q s r w => ?_⟩
  unfold lenD at w
  split at w
  · obtain ⟨v, rfl, r1⟩ := r.inv1
    obtain rfl := r1.str_inv
    split at w
    · exact .inr ⟨_, rfl, by rw [line_eq]; assumption, w.ok s .mk_int⟩
    · exact w.elim
  · obtain ⟨v, rfl, r1⟩ := r.inv1
    split at w
    · rename_i l hl
      obtain ⟨p, ys, rfl, q, z, rs⟩ := seq_sound s r1 hl
      refine .inl ⟨p, ys, rfl, c.k ▸ q, ?_⟩
      rw [rs.length]
      exact w.ok s .mk_int
    · exact w.elim
  · exact w.elim
def intD : List D → Th → Res D
  | [.int i], h => .ok (.int i) h
  | [.bl b], h => .ok (.int (if b = true then 1 else 0)) h
  | _, _ => .bad
theorem cd_int : CallD X G W (.type "int") intD := by
  refine ⟨_, call_int1, fun mu sg H h xs vs Q s r w => ?_⟩
  unfold intD at w
  split at w
  · obtain ⟨v, rfl, r1⟩ := r.inv1
    obtain rfl := r1.int_inv
    exact .inl ⟨_, rfl, w.ok s .mk_int⟩
  · obtain ⟨v, rfl, r1⟩ := r.inv1
    obtain rfl := r1.bl_inv
    exact .inr ⟨_, rfl, w.ok s .mk_int⟩
  · exact w.elim
def strD : List D → Th → Res D
  | [.int i], h => if i.natAbs < 2 ^ 64 then .ok (.str (toString i)) h else .bad
  | _, _ => .bad
theorem log2_small {n : Nat} (h : n < 2 ^ 64) : n.log2 < 1920 := by
  by_cases h0 : n = 0
  · subst h0; decide
  · have := (Nat.log2_lt h0).mpr h
    omega
theorem cd_str : CallD X G W (.type "str") strD := by
  refine ⟨_, call_str_int, fun mu sg H h xs vs Q s r w => ?_⟩
  unfold strD at w
  split at w
  · obtain ⟨v, rfl, r1⟩ := r.inv1
    obtain rfl := r1.int_inv
    split at w
    · exact ⟨_, rfl, log2_small ‹_›, w.ok s .mk_str⟩
    · exact w.elim
  · exact w.elim
def tupleD : List D → Th → Res D
  | [.tup l], h => .ok (.tup l) h
  | [x], h => match listD h x with
    | some l => .ok (.tup l) h
    | none => .bad
  | _, _ => .bad
theorem cd_tuple (c : Ctx X G W) : CallD X G W (.type "tuple") tupleD := by
  refine ⟨_, call_tuple_of, fun mu sg H h xs vs Q s r w => ?_⟩
  unfold tupleD at w
  split at w
  · obtain ⟨v, rfl, r1⟩ := r.inv1
    obtain ⟨a, vs, rfl, t, z, r⟩ := r1.tup_inv
    exact ⟨a, vs, rfl, .inr ⟨c.k ▸ t.sq, w.ok s (t.rv z r)⟩⟩
  · obtain ⟨v, rfl, r1⟩ := r.inv1
    split at w
    · rename_i l hl
      obtain ⟨p, ys, rfl, q, z, rs⟩ := list_sound s r1 hl
      exact ⟨p, ys, rfl, .inl ⟨c.k ▸ q, fun l hl => w.tup s rs z hl⟩⟩
    · exact w.elim
  · exact w.elim
def listOfD : List D → Th → Res D
  | [x], h => match seqD h x with
    | some l => .ok (.lst l) h
    | none => .bad
  | _, _ => .bad
theorem cd_list (c : Ctx X G W) : CallD X G W (.type "list") listOfD := by
  refine ⟨_, call_list_of, fun mu sg H h xs vs Q s r w => ?_⟩
  unfold listOfD at w
  split at w
  · obtain ⟨v, rfl, r1⟩ := r.inv1
    split at w
    · rename_i l hl
      obtain ⟨p, ys, rfl, q, z, rs⟩ := seq_sound s r1 hl
      exact ⟨p, ys, rfl, c.k ▸ q, fun l hl => w.lst s rs z hl⟩
    · exact w.elim
  · exact w.elim
/-- a list(..) that will be changed -/
def newOfD : List D → Th → Res D
  | [x], h => match seqD h x with
    | some l => .ok (.ref h.length) (h ++ [.lst l])
    | none => .bad
  | _, _ => .bad
theorem cd_newList (c : Ctx X G W) : CallD X G W (.type "list") newOfD := by
  refine ⟨_, call_list_of, fun mu sg H h xs vs Q s r w => ?_⟩
  unfold newOfD at w
  split at w
  · obtain ⟨v, rfl, r1⟩ := r.inv1
    split at w
    · rename_i l hl
      obtain ⟨p, ys, rfl, q, z, rs⟩ := seq_sound s r1 hl
      exact ⟨p, ys, rfl, c.k ▸ q, fun l hl => w.newL s rs z hl⟩
    · exact w.elim
  · exact w.elim
/-- a list of True and False -/
def bools : List D → Option (List Bool)
  | [] => some []
  | .bl b :: ds => (bools ds).map (b :: ·)
  | _ :: _ => none
theorem bools_sound {K : PySem.W.Frag} {mu : Mu} {H : Hp} : ∀ {l : List D} {vs : List V} {bs : List Bool}, RVs K mu H l vs → bools l = some bs → vs = bs.map V.bl
  | [], vs, bs, r, e => by unfold bools at e; cases e; exact r.inv0
  | d :: ds, vs, bs, r, e => by
    unfold RVs at r
    obtain ⟨v, r', rfl, h1, h2⟩ := r
    cases d <;> first
      | (unfold bools at e; cases e; done)
      | skip
    rename_i b
    unfold bools at e
    cases q : bools ds with
    | none => rw [q] at e; cases e
    | some bs' =>
      rw [q] at e
      cases e
      obtain rfl := h1.bl_inv
      rw [bools_sound h2 q]
      rfl
def allD : List D → Th → Res D
  | [x], h => match listD h x with
    | some l => (match bools l with
      | some bs => .ok (.bl (bs.all id)) h
      | none => .bad)
    | none => .bad
  | _, _ => .bad
def anyD : List D → Th → Res D
  | [x], h => match listD h x with
    | some l => (match bools l with
      | some bs => .ok (.bl (bs.any id)) h
      | none => .bad)
    | none => .bad
  | _, _ => .bad
theorem cd_all (c : Ctx X G W) : CallD X G W (.builtin "all") allD := by
  refine ⟨_, cr_all c.calm, fun mu sg H h xs vs Q s r w => ?_⟩
  unfold allD at w
  split at w
  · obtain ⟨v, rfl, r1⟩ := r.inv1
    split at w
    · rename_i l hl
      split at w
      · rename_i bs hb
        obtain ⟨p, ys, rfl, q, z, rs⟩ := list_sound s r1 hl
        obtain rfl := bools_sound rs hb
        exact ⟨p, bs, rfl, c.k ▸ q, w.ok s .mk_bl⟩
      · exact w.elim
    · exact w.elim
  · exact w.elim
theorem cd_any (c : Ctx X G W) : CallD X G W (.builtin "any") anyD := by
  refine ⟨_, cr_any c.calm, fun mu sg H h xs vs Q s r w => ?_⟩
  unfold anyD at w
  split at w
  · obtain ⟨v, rfl, r1⟩ := r.inv1
    split at w
    · rename_i l hl
      split at w
      · rename_i bs hb
        obtain ⟨p, ys, rfl, q, z, rs⟩ := list_sound s r1 hl
        obtain rfl := bools_sound rs hb
        exact ⟨p, bs, rfl, c.k ▸ q, w.ok s .mk_bl⟩
      · exact w.elim
    · exact w.elim
  · exact w.elim
def max2D : List D → Th → Res D
  | [.int i, .int j], h => .ok (.int (if j > i then j else i)) h
  | _, _ => .bad
def min2D : List D → Th → Res D
  | [.int i, .int j], h => .ok (.int (if j < i then j else i)) h
  | _, _ => .bad
theorem cd_max2 (c : Ctx X G W) : CallD X G W (.builtin "max") max2D := by
  refine ⟨_, call_max2 c.calm, fun mu sg H h xs vs Q s r w => ?_⟩
  unfold max2D at w
  split at w
  · obtain ⟨v, u, rfl, r1, r2⟩ := r.inv2
    obtain rfl := r1.int_inv
    obtain rfl := r2.int_inv
    exact ⟨_, _, rfl, w.ok s .mk_int⟩
  · exact w.elim
theorem cd_min2 (c : Ctx X G W) : CallD X G W (.builtin "min") min2D := by
  refine ⟨_, call_min2 c.calm, fun mu sg H h xs vs Q s r w => ?_⟩
  unfold min2D at w
  split at w
  · obtain ⟨v, u, rfl, r1, r2⟩ := r.inv2
    obtain rfl := r1.int_inv
    obtain rfl := r2.int_inv
    exact ⟨_, _, rfl, w.ok s .mk_int⟩
  · exact w.elim
def ordD : List D → Th → Res D
  | [.str z], h => if z.length = 1 then .ok (.int (z.cps.getD 0 0 : Nat)) h else .bad
  | _, _ => .bad
theorem cd_ord : CallD X G W (.builtin "ord") ordD := by
  refine ⟨_, call_ord, fun mu sg H h xs vs Q s r w => ?_⟩
  unfold ordD at w
  split at w
  · obtain ⟨v, rfl, r1⟩ := r.inv1
    obtain rfl := r1.str_inv
    split at w
    · exact ⟨_, rfl, ‹_›, w.ok s .mk_int⟩
    · exact w.elim
  · exact w.elim
/-- a list of intsL -/
def intsL : List D → Option (List Int)
  | [] => some []
  | .int b :: ds => (intsL ds).map (b :: ·)
  | _ :: _ => none
theorem intsL_sound {K : PySem.W.Frag} {mu : Mu} {H : Hp} : ∀ {l : List D} {vs : List V} {bs : List Int}, RVs K mu H l vs → intsL l = some bs → vs = bs.map V.int
  | [], vs, bs, r, e => by unfold intsL at e; cases e; exact r.inv0
  | d :: ds, vs, bs, r, e => by
    unfold RVs at r
    obtain ⟨v, r', rfl, h1, h2⟩ := r
    cases d <;> first
      | (unfold intsL at e; cases e; done)
      | skip
    rename_i b
    unfold intsL at e
    cases q : intsL ds with
    | none => rw [q] at e; cases e
    | some bs' =>
      rw [q] at e
      cases e
      obtain rfl := h1.int_inv
      rw [intsL_sound h2 q]
      rfl
def sumD : List D → Th → Res D
  | [x], h => match listD h x with
    | some l => (match intsL l with
      | some bs => .ok (.int bs.sum) h
      | none => .bad)
    | none => .bad
  | _, _ => .bad
theorem cd_sum (c : Ctx X G W) : CallD X G W (.builtin "sum") sumD := by
  refine ⟨_, cr_sum c.calm, fun mu sg H h xs vs Q s r w => ?_⟩
  unfold sumD at w
  split at w
  · obtain ⟨v, rfl, r1⟩ := r.inv1
    split at w
    · rename_i l hl
      split at w
      · rename_i bs hb
        obtain ⟨p, ys, rfl, q, z, rs⟩ := list_sound s r1 hl
        obtain rfl := intsL_sound rs hb
        exact ⟨p, bs, rfl, c.k ▸ q, w.ok s .mk_int⟩
      · exact w.elim
    · exact w.elim
  · exact w.elim

/-! ### isinstance(e, T), T a built-in type -/
def tyD (h : Th) : D → Option String
  | .non => some "NoneType"
  | .bl _ => some "bool"
  | .int _ => some "int"
  | .str _ => some "str"
  | .tup _ => some "tuple"
  | .lst _ => some "list"
  | .frz _ => some "list"
  | .ref n => match h[n]? with
    | some (.lst _) => some "list"
    | _ => none
def isiB (t T : String) : Bool := t == T || (t == "bool" && T == "int")
def isiD (T : String) (d : D) (h : Th) : Res D := match tyD h d with
  | some t => .ok (.bl (isiB t T)) h
  | none => .bad
def isiE (T : String) (m : DE) : DE := fun rho h => (m rho h).bind (isiD T)
theorem ty_sound {mu : Mu} {H : Hp} {h : Th} {d : D} {v : V} {t : String} (s : RS G mu H h) (r : RV G.K mu H d v) (e : tyD h d = some t) : TyX G.K H v (.type t) := by
  unfold tyD at e
  split at e
  · cases e; unfold RV at r; subst r; exact .base .non
  · cases e; unfold RV at r; subst r; exact .base (.bl _)
  · cases e; unfold RV at r; subst r; exact .base (.int _)
  · cases e; unfold RV at r; subst r; exact .base (.str _)
  · cases e
    obtain ⟨a, vs, rfl, t, z, r⟩ := r.tup_inv
    rcases t with ⟨t | ⟨o, t⟩, _⟩ | ⟨o, its, n, k, hc, _⟩
    · exact .base (.tup t)
    · exact .fTuple t
    · exact .kTuple k hc
  · cases e
    obtain ⟨a, vs, rfl, t, z, r⟩ := r.lst_inv
    exact .base (.lst t.1)
  · cases e
    obtain ⟨a, vs, rfl, t, z, r⟩ := r.frz_inv
    rcases t with ⟨t | ⟨o, t⟩, _⟩ | ⟨o, its, n, k, hc, _⟩
    · exact .base (.lst t)
    · exact .base (.frz t)
    · exact .kList k hc
  · split at e
    · cases e
      rename_i hq
      obtain ⟨a, rfl, m⟩ := r.ref_inv
      obtain ⟨a', vs, m', q, z, r⟩ := s.lst hq
      rw [m] at m'
      cases m'
      exact .base (.lst q)
    · cases e
theorem tyD_some {h : Th} {d : D} {t : String} (e : tyD h d = some t) : t = "NoneType" ∨ t = "bool" ∨ t = "int" ∨ t = "str" ∨ t = "tuple" ∨ t = "list" := by
  unfold tyD at e
  split at e <;> first
    | (cases e; simp; done)
    | (split at e <;> cases e; simp)
/-- T is one of the five -/
def isiT (T : String) : Bool := ["NoneType", "bool", "int", "str", "tuple", "list"].all fun t => kitB t T == some (isiB t T)
theorem isiT_sound {T t : String} (h : isiT T = true) (m : t = "NoneType" ∨ t = "bool" ∨ t = "int" ∨ t = "str" ∨ t = "tuple" ∨ t = "list") : kitB t T = some (isiB t T) := by
  unfold isiT at h
  rw [List.all_eq_true] at h
  exact eq_of_beq (h t (by rcases m with rfl | rfl | rfl | rfl | rfl | rfl <;> simp))
theorem isiT_int : isiT "int" = true := by decide +kernel
theorem isiT_bool : isiT "bool" = true := by decide +kernel
theorem isiT_str : isiT "str" = true := by decide +kernel
theorem isiT_tuple : isiT "tuple" = true := by decide +kernel
theorem isiT_list : isiT "list" = true := by decide +kernel
theorem de_isi (c : Ctx X G W) {m : DE} {T : String} {x : Str} {q : Pos} (ht : isiT T = true) (hg : Gl X "isinstance") (hm : X.mg "isinstance" = none) (hgT : Gl X x) (hmT : X.mg x = none) (hvT : bootBuiltins x = some (.type T)) (he : PE X e (tE G W m))
    (hnT : x ≠ "__name__" := by decide) (hdT : (x == ("__debug__" : Str)) = false := by decide) (hs : starEach [e, .Name x q] X.env = (false, eval e X.env) :: starEach [.Name x q] X.env := by rfl)
    (hs1 : starEach [.Name x q] X.env = (false, eval (.Name x q) X.env) :: starEach [] X.env := by rfl) (hpl : (backTo pos (starEach [.Name x q] X.env)).any (·.1) = false := by rfl) :
    PE X (.Call (.Name "isinstance" p) [e, .Name x q] [] pos) (tE G W (isiE T m)) := by
  refine pe_imp (pe_callB call_isi hg hm (by decide +kernel) (pa_cons he (pa_cons (pe_bltn (v := .ty T) hgT hmT hvT rfl hnT hdT) pa_nil hs1) hs) (by decide) (by decide) hs hpl) fun sg H Q t => ?_
  obtain ⟨mu, rho, th, s, e, w⟩ := tG.bind (m2 := fun d _ h => isiD T d h) (R := RV G.K) t
  refine ⟨mu, rho, th, s, e, w.imp fun x H1 q => ?_⟩
  obtain ⟨mu1, rho1, h1, d, s1, e1, r1, w1⟩ := q
  unfold isiD at w1
  split at w1
  · rename_i t ht'
    exact ⟨_, .ty T, .type t, .type T, isiB t T, rfl, .ty T, c.k ▸ ty_sound s1 r1 ht', kit_ty (isiT_sound ht (tyD_some ht')), w1.ok s1 .mk_bl⟩
  · exact w1.elim

/-! ### methods -/
/-- a method of a list that is a thing -/
def thListD (h : Th) : D → Option (List D)
  | .ref n => match h[n]? with
    | some (.lst l) => some l
    | _ => none
  | _ => none
def methL (g : D → List D → Th → Res D) (m : DE) (ms : DA) : DE := fun rho h => (m rho h).bind fun x h1 => match thListD h1 x with
  | some _ => (ms rho h1).bind fun xs h2 => g x xs h2
  | none => .bad
theorem thList_sound {mu : Mu} {H : Hp} {h : Th} {d : D} {v : V} {l : List D} (s : RS G mu H h) (r : RV G.K mu H d v) (e : thListD h d = some l) :
    ∃ n a vs, d = .ref n ∧ v = .ref a ∧ mu.m[n]? = some a ∧ h[n]? = some (.lst l) ∧ H a = some (.lst vs) ∧ vs.length ≤ sizeLine ∧ RVs G.K mu H l vs := by
  unfold thListD at e
  split at e
  · split at e
    · cases e
      rename_i hq
      obtain ⟨a, rfl, m⟩ := r.ref_inv
      obtain ⟨a', vs, m', q, z, r⟩ := s.lst hq
      rw [m] at m'
      cases m'
      exact ⟨_, a, vs, rfl, rfl, m, hq, q, z, r⟩
    · cases e
  · cases e
theorem methL_read (c : Ctx X G W) {r : V → List V → Hp → VK → Prop} {g : D → List D → Th → Res D} {m : DE} {ms : DA}
    (hs : ∀ mu sg H h x xs v vs Q, RS G mu H h → RV G.K mu H x v → RVs G.K mu H xs vs → Wp G W (RV G.K) mu sg H (g x xs h) Q → r v vs H Q)
    {sg : L2.St} {H : Hp} {Q : VK} (t : tE G W (methL g m ms) sg H Q) : tBM X.K "list" r (tE G W m) (tA G W ms) sg H Q := by
  obtain ⟨mu, rho, th, s, e, w⟩ := tG.bind (m2 := fun x rho h1 => match thListD h1 x with
    | some _ => (ms rho h1).bind fun xs h2 => g x xs h2
    | none => .bad) (R := RV G.K) t
  refine ⟨mu, rho, th, s, e, w.imp fun v H1 q => ?_⟩
  obtain ⟨mu1, rho1, h1, x, s1, e1, r1, w1⟩ := q
  split at w1
  · rename_i l hl
    obtain ⟨n, a, vs, rfl, rfl, hm, hh, hH, hz, hr⟩ := thList_sound s1 r1 hl
    refine ⟨.inl ⟨rfl, vs, .inl (.inl hH)⟩, mu1, rho1, h1, s1, e1, (Wp.bind (R := RVs G.K) w1).imp fun us H2 q => ?_⟩
    obtain ⟨mu2, h2, xs, e2, s2, r2, w2⟩ := q
    exact hs mu2 sg H2 h2 _ xs _ us Q s2 (RV.ext e2 _ _ r1) r2 w2
  · exact w1.elim
def appD (x : D) (xs : List D) (h : Th) : Res D := match x, xs with
  | .ref n, [y] => (match h[n]? with
    | some (.lst l) => if l.length < 16777216 then .ok .non (h.set n (.lst (l ++ [y]))) else .bad
    | _ => .bad)
  | _, _ => .bad
theorem Wp.wroteL {mu : Mu} {sg : L2.St} {H : Hp} {l' : List D} {h : Th} {Q : VK} {vs : List V} {n : Nat} {a : Addr} {d : D} {v : V} (w : Wp G W (RV G.K) mu sg H (.ok d (h.set n (.lst l'))) Q) (s : RS G mu H h) (hm : mu.m[n]? = some a) (r : RVs G.K mu H l' vs) (hl : vs.length ≤ sizeLine)
    (rd : RV G.K mu H d v) : Q v (upd H a (.lst vs)) := by
  obtain ⟨e, s'⟩ := Ext.wrote s hm (.lst vs) (.lst l') fun e => ⟨vs, upd_same, hl, RVs.ext e _ _ r⟩
  exact w mu _ _ e s' (RV.ext e _ _ rd)
theorem de_append (c : Ctx X G W) {o : Expr} {apos cpos : Pos} {m m1 : DE} (ho : PE X o (tE G W m)) (ha : PE X e (tE G W m1)) (hbase : attributeBase o "append" X.env (eval o X.env) = eval o X.env := by rfl)
    (hfew : ((backTo cpos (starEach [e] X.env)).all (fun x => !x.1) && (backToKw cpos (keywordEach [] X.env)).all (fun x => x.1.isSome) && decide (([e] : List Expr).length + ([] : List Keyword).length + (if ([] : List Keyword).isEmpty then 0 else 1) < 30)) = true := by rfl)
    (hline : (apos.endLine == cpos.line) = true := by rfl) (hs : starEach [e] X.env = (false, eval e X.env) :: starEach [] X.env := by rfl) (hpl : (backTo cpos (starEach [] X.env)).any (·.1) = false := by rfl) :
    PE X (.Call (.Attribute o "append" apos) [e] [] cpos) (tE G W (methL appD m (consA m1 nilA))) := by
  refine pe_imp (pe_bm PySem.F.plainAttrs_list PySem.F.slot_list_append PySem.F.type_list_append mt_append ho (da_cons ha da_nil hs) hbase hfew hline hs hpl) fun sg H Q t => methL_read c (fun mu sg H h x xs v vs Q s rx rs w => ?_) t
  unfold appD at w
  split at w
  · split at w
    · rename_i l hl
      split at w
      · obtain ⟨a, rfl, hm⟩ := rx.ref_inv
        obtain ⟨u, rfl, ru⟩ := rs.inv1
        obtain ⟨a', ys, m', q, z, r⟩ := s.lst hl
        rw [hm] at m'
        cases m'
        have hlen : ys.length < sizeLine := by rw [r.length, line_eq]; assumption
        exact ⟨a, ys, u, rfl, rfl, q, hlen, w.wroteL s hm (r.append (RVs.one ru)) (by rw [List.length_append]; exact hlen) .mk_non⟩
      · exact w.elim
    · exact w.elim
  · exact w.elim
/-- extend by another list -/
def extD (x : D) (xs : List D) (h : Th) : Res D := match x, xs with
  | .ref n, [.lst l2] => (match h[n]? with
    | some (.lst l) => if l.length + l2.length ≤ 16777216 then .ok .non (h.set n (.lst (l ++ l2))) else .bad
    | _ => .bad)
  | _, _ => .bad
theorem de_extend (c : Ctx X G W) {o : Expr} {apos cpos : Pos} {m m1 : DE} (ho : PE X o (tE G W m)) (ha : PE X e (tE G W m1)) (hbase : attributeBase o "extend" X.env (eval o X.env) = eval o X.env := by rfl)
    (hfew : ((backTo cpos (starEach [e] X.env)).all (fun x => !x.1) && (backToKw cpos (keywordEach [] X.env)).all (fun x => x.1.isSome) && decide (([e] : List Expr).length + ([] : List Keyword).length + (if ([] : List Keyword).isEmpty then 0 else 1) < 30)) = true := by rfl)
    (hline : (apos.endLine == cpos.line) = true := by rfl) (hs : starEach [e] X.env = (false, eval e X.env) :: starEach [] X.env := by rfl) (hpl : (backTo cpos (starEach [] X.env)).any (·.1) = false := by rfl) :
    PE X (.Call (.Attribute o "extend" apos) [e] [] cpos) (tE G W (methL extD m (consA m1 nilA))) := by
  refine pe_imp (pe_bm PySem.F.plainAttrs_list PySem.F.slot_list_extend PySem.F.type_list_extend mt_extend ho (da_cons ha da_nil hs) hbase hfew hline hs hpl) fun sg H Q t => methL_read c (fun mu sg H h x xs v vs Q s rx rs w => ?_) t
  unfold extD at w
  split at w
  · split at w
    · rename_i l hl
      split at w
      · obtain ⟨a, rfl, hm⟩ := rx.ref_inv
        obtain ⟨u, rfl, ru⟩ := rs.inv1
        obtain ⟨b, zs, rfl, tb, zb, rb⟩ := ru.lst_inv
        obtain ⟨a', ys, m', q, z, r⟩ := s.lst hl
        rw [hm] at m'
        cases m'
        have hlen : ys.length + zs.length ≤ sizeLine := by rw [r.length, rb.length, line_eq]; assumption
        exact ⟨a, b, ys, zs, rfl, rfl, q, tb.1, hlen, w.wroteL s hm (r.append rb) (by rw [List.length_append]; exact hlen) .mk_non⟩
      · exact w.elim
    · exact w.elim
  · exact w.elim
/-- a method of a text with one argument -/
def methS (g : Str → D → Th → Res D) (m m1 : DE) : DE := fun rho h => (m rho h).bind fun x h1 => match x with
  | .str z => (m1 rho h1).bind fun y h2 => g z y h2
  | _ => .bad
theorem methS_read {r : V → List V → Hp → VK → Prop} {g : Str → D → Th → Res D} {m m1 : DE}
    (hs : ∀ mu sg H h z y v Q, RS G mu H h → RV G.K mu H y v → Wp G W (RV G.K) mu sg H (g z y h) Q → r (.str z) [v] H Q)
    {sg : L2.St} {H : Hp} {Q : VK} (t : tE G W (methS g m m1) sg H Q) : tM1 r (tE G W m) (tE G W m1) sg H Q := by
  obtain ⟨mu, rho, th, s, e, w⟩ := tG.bind (m2 := fun x rho h1 => match x with
    | .str z => (m1 rho h1).bind fun y h2 => g z y h2
    | _ => .bad) (R := RV G.K) t
  refine ⟨mu, rho, th, s, e, w.imp fun v H1 q => ?_⟩
  obtain ⟨mu1, rho1, h1, x, s1, e1, r1, w1⟩ := q
  split at w1
  · obtain rfl := r1.str_inv
    refine ⟨⟨_, rfl⟩, mu1, rho1, h1, s1, e1, (Wp.bind (R := RV G.K) w1).imp fun u H2 q => ?_⟩
    obtain ⟨mu2, h2, y, e2, s2, r2, w2⟩ := q
    exact hs mu2 sg H2 h2 _ y u Q s2 r2 w2
  · exact w1.elim
/-- a list of texts -/
def strsL : List D → Option (List Str)
  | [] => some []
  | .str b :: ds => (strsL ds).map (b :: ·)
  | _ :: _ => none
theorem strsL_sound {K : PySem.W.Frag} {mu : Mu} {H : Hp} : ∀ {l : List D} {vs : List V} {bs : List Str}, RVs K mu H l vs → strsL l = some bs → vs = bs.map V.str
  | [], vs, bs, r, e => by unfold strsL at e; cases e; exact r.inv0
  | d :: ds, vs, bs, r, e => by
    unfold RVs at r
    obtain ⟨v, r', rfl, h1, h2⟩ := r
    cases d <;> first
      | (unfold strsL at e; cases e; done)
      | skip
    rename_i b
    unfold strsL at e
    cases q : strsL ds with
    | none => rw [q] at e; cases e
    | some bs' =>
      rw [q] at e
      cases e
      obtain rfl := h1.str_inv
      rw [strsL_sound h2 q]
      rfl
def joinD (z : Str) (y : D) (h : Th) : Res D := match seqD h y with
  | some l => (match strsL l with
    | some ys => if (ys.map (·.length)).sum + ys.length * z.length ≤ 16777216 then .ok (.str (Txt.join z ys)) h else .bad
    | none => .bad)
  | none => .bad
theorem de_join (c : Ctx X G W) {o : Expr} {apos cpos : Pos} {m m1 : DE} (ho : PE X o (tE G W m)) (ha : PE X e (tE G W m1)) (hs : starEach [e] X.env = [(false, eval e X.env)] := by rfl) (hbase : attributeBase o "join" X.env (eval o X.env) = eval o X.env := by rfl)
    (hline : (apos.endLine == cpos.line) = true := by rfl) : PE X (.Call (.Attribute o "join" apos) [e] [] cpos) (tE G W (methS joinD m m1)) := by
  refine pe_imp (pe_join ho ha hs hbase hline) fun sg H Q t => methS_read (fun mu sg H h z y v Q s ry w => ?_) t
  unfold joinD at w
  split at w
  · rename_i l hl
    split at w
    · rename_i ys hy
      split at w
      · obtain ⟨p, vs, rfl, q, hz, rs⟩ := seq_sound s ry hl
        obtain rfl := strsL_sound rs hy
        exact ⟨z, p, ys, rfl, rfl, c.k ▸ q, ‹_›, w.ok s .mk_str⟩
      · exact w.elim
    · exact w.elim
  · exact w.elim
def findD (z : Str) (y : D) (h : Th) : Res D := match y with
  | .str b => .ok (.int (Txt.find z b)) h
  | _ => .bad
theorem de_find {o : Expr} {apos cpos : Pos} {m m1 : DE} (ho : PE X o (tE G W m)) (ha : PE X e (tE G W m1)) (hs : starEach [e] X.env = [(false, eval e X.env)] := by rfl) (hbase : attributeBase o "find" X.env (eval o X.env) = eval o X.env := by rfl)
    (hline : (apos.endLine == cpos.line) = true := by rfl) : PE X (.Call (.Attribute o "find" apos) [e] [] cpos) (tE G W (methS findD m m1)) := by
  refine pe_imp (pe_m1 F.slot_str_find F.type_str_find mt_find ho ha hs hbase hline) fun sg H Q t => methS_read (fun mu sg H h z y v Q s ry w => ?_) t
  unfold findD at w
  split at w
  · obtain rfl := ry.str_inv
    exact ⟨z, _, rfl, rfl, w.ok s .mk_int⟩
  · exact w.elim

/-! ### x in s, of a text; x in a list or tuple of scalars -/
def flatD : D → Bool
  | .non | .bl _ | .int _ | .str _ => true
  | _ => false
def inB (neg : Bool) (x y : D) (h : Th) : Res D := match y with
  | .str z => (match x with
    | .str c => (match c.cps.toList with
      | [k] => .ok (.bl (decide (k ∈ z.cps.toList) != neg)) h
      | _ => .bad)
    | _ => .bad)
  | _ => match seqD h y with
    | some l => if (flatD x && l.all flatD) = true then .ok (.bl ((l.any fun y => eqB y x) != neg)) h else .bad
    | none => .bad
def inD := inB false
def notInD := inB true
theorem flat_sound {K : PySem.W.Frag} {mu : Mu} {H : Hp} {d : D} {v : V} (f : flatD d = true) (r : RV K mu H d v) : flatV v = true := by
  cases d <;> first
    | (cases f; done)
    | (unfold RV at r; subst r; rfl)
theorem flats_sound {K : PySem.W.Frag} {mu : Mu} {H : Hp} : ∀ {l : List D} {vs : List V}, l.all flatD = true → RVs K mu H l vs → vs.all flatV = true
  | [], vs, _, r => by rw [r.inv0]; rfl
  | d :: ds, vs, f, r => by
    unfold RVs at r
    obtain ⟨v, r', rfl, h1, h2⟩ := r
    rw [List.all_cons, Bool.and_eq_true] at f
    rw [List.all_cons, flat_sound f.1 h1, flats_sound f.2 h2]
    rfl
theorem eqV_flat {K : PySem.W.Frag} {mu : Mu} {H : Hp} {x y : D} {v u : V} (fx : flatD x = true) (fy : flatD y = true) (rx : RV K mu H x v) (ry : RV K mu H y u) : eqV u v = eqB y x := by
  cases x <;> first
    | (cases fx; done)
    | skip
  all_goals (cases y <;> first
    | (cases fy; done)
    | (unfold RV at rx ry; subst rx ry; simp [eqV, eqB, D.py, PyData.eqv]))
theorem anyV_flat {K : PySem.W.Frag} {mu : Mu} {H : Hp} {x : D} {v : V} (fx : flatD x = true) (rx : RV K mu H x v) : ∀ {l : List D} {vs : List V}, l.all flatD = true → RVs K mu H l vs → inV v vs = l.any fun y => eqB y x
  | [], vs, _, r => by rw [r.inv0]; rfl
  | d :: ds, vs, f, r => by
    unfold RVs at r
    obtain ⟨u, r', rfl, h1, h2⟩ := r
    rw [List.all_cons, Bool.and_eq_true] at f
    have ih := anyV_flat fx rx f.2 h2
    unfold inV at ih ⊢
    rw [List.any_cons, List.any_cons, ih, eqV_flat fx f.1 rx h1]
theorem od_in (c : Ctx X G W) : OpD X G W (compareOp .In) inD := by
  refine ⟨_, OpR.or op_in_sign op_in_seq, fun mu sg H h x y v u Q s rx ry w => ?_⟩
  unfold inD inB at w
  split at w
  · split at w
    · split at w
      · rename_i cc ll k hk
        obtain rfl := rx.str_inv
        obtain rfl := ry.str_inv
        have e : cc = ⟨#[k]⟩ := by
          have : cc.cps = #[k] := by rw [← Array.toList_inj]; exact hk
          cases cc; simp_all
        refine .inl ⟨k, _, by rw [e], rfl, ?_⟩
        have q := w.ok s .mk_bl
        simpa using q
      · exact w.elim
    · exact w.elim
  · split at w
    · rename_i l hl
      split at w
      · rename_i hf
        obtain ⟨f1, f2⟩ := Bool.and_eq_true_iff.mp hf
        obtain ⟨p, vs, rfl, q, hz, rs⟩ := seq_sound s ry hl
        refine .inr ⟨p, vs, rfl, c.k ▸ q, flat_sound f1 rx, flats_sound f2 rs, ?_⟩
        have q := w.ok s .mk_bl
        rw [anyV_flat f1 rx f2 rs]
        simpa using q
      · exact w.elim
    · exact w.elim
theorem od_notIn (c : Ctx X G W) : OpD X G W (compareOp .NotIn) notInD := by
  refine ⟨_, OpR.or op_notIn_sign op_notIn_seq, fun mu sg H h x y v u Q s rx ry w => ?_⟩
  unfold notInD inB at w
  split at w
  · split at w
    · split at w
      · rename_i cc ll k hk
        obtain rfl := rx.str_inv
        obtain rfl := ry.str_inv
        have e : cc = ⟨#[k]⟩ := by
          have : cc.cps = #[k] := by rw [← Array.toList_inj]; exact hk
          cases cc; simp_all
        refine .inl ⟨k, _, by rw [e], rfl, ?_⟩
        have q := w.ok s .mk_bl
        simpa using q
      · exact w.elim
    · exact w.elim
  · split at w
    · rename_i l hl
      split at w
      · rename_i hf
        obtain ⟨f1, f2⟩ := Bool.and_eq_true_iff.mp hf
        obtain ⟨p, vs, rfl, q, hz, rs⟩ := seq_sound s ry hl
        refine .inr ⟨p, vs, rfl, c.k ▸ q, flat_sound f1 rx, flats_sound f2 rs, ?_⟩
        have q := w.ok s .mk_bl
        rw [anyV_flat f1 rx f2 rs]
        simpa using q
      · exact w.elim
    · exact w.elim
end
end MP
set_option Elab.async false
set_option linter.all false
set_option maxRecDepth 100000
/-! MP: statements. -/
namespace MP
open PySem PySem.Spec PyProof.Rows L2

inductive SR where
  | nx (rho : Ro) (h : Th) | rt (d : D) (h : Th) | bk (rho : Ro) (h : Th) | ct (rho : Ro) (h : Th) | ex (x : Exn) (rho : Ro) (h : Th) | bad
abbrev DS := Ro → Th → SR

def Res.toS {α : Type} (r : Res α) (rho : Ro) (k : α → Th → SR) : SR := match r with
  | .ok a h => k a h
  | .ex x h => .ex x rho h
  | .bad => .bad
@[simp] theorem ok_toS {α : Type} (a : α) (h : Th) (rho : Ro) (k : α → Th → SR) : (Res.ok a h).toS rho k = k a h := rfl
@[simp] theorem ex_toS {α : Type} (x : Exn) (h : Th) (rho : Ro) (k : α → Th → SR) : (Res.ex x h : Res α).toS rho k = .ex x rho h := rfl
@[simp] theorem bad_toS {α : Type} (rho : Ro) (k : α → Th → SR) : (Res.bad : Res α).toS rho k = .bad := rfl

section
variable (G : Cfg) (W : WX)
def WpS (D : Ends) (mu : Mu) (H : Hp) (r : SR) : Prop := match r with
  | .nx rho h' => ∀ mu' H' sg', Ext mu H mu' H' → RS G mu' H' h' → RE G.K mu' H' rho sg' → D.nx sg' H'
  | .rt d h' => ∀ mu' H' v, Ext mu H mu' H' → RS G mu' H' h' → RV G.K mu' H' d v → D.rt v H'
  | .bk rho h' => ∀ mu' H' sg', Ext mu H mu' H' → RS G mu' H' h' → RE G.K mu' H' rho sg' → D.bk sg' H'
  | .ct rho h' => ∀ mu' H' sg', Ext mu H mu' H' → RS G mu' H' h' → RE G.K mu' H' rho sg' → D.ct sg' H'
  | .ex x rho h' => ∀ mu' H' sg' cls dd, Ext mu H mu' H' → RS G mu' H' h' → RE G.K mu' H' rho sg' → RX G mu' H' x cls dd → W cls dd sg' H'
  | .bad => False
def tS (m : DS) : TS := fun D sg H => ∃ mu rho h, RS G mu H h ∧ RE G.K mu H rho sg ∧ WpS G W D mu H (m rho h)
end
section
variable {G : Cfg} {W : WX} {D : Ends}
theorem WpS.ext {mu mu1 : Mu} {H H1 : Hp} {r : SR} (e : Ext mu H mu1 H1) (w : WpS G W D mu H r) : WpS G W D mu1 H1 r := by
  cases r with
  | nx rho h' => exact fun mu' H' sg' e' => w mu' H' sg' (e.trans e')
  | rt d h' => exact fun mu' H' v e' => w mu' H' v (e.trans e')
  | bk rho h' => exact fun mu' H' sg' e' => w mu' H' sg' (e.trans e')
  | ct rho h' => exact fun mu' H' sg' e' => w mu' H' sg' (e.trans e')
  | ex x rho h' => exact fun mu' H' sg' c d e' => w mu' H' sg' c d (e.trans e')
  | bad => exact w
theorem WpS.lift {α β : Type} {R : Mu → Hp → α → β → Prop} {mu : Mu} {sg : L2.St} {rho : Ro} {H : Hp} {r : Res α} {k : α → Th → SR} (re : RE G.K mu H rho sg) (w : WpS G W D mu H (r.toS rho k)) :
    Wp G W R mu sg H r fun x H1 => ∃ mu1 h1 a, Ext mu H mu1 H1 ∧ RS G mu1 H1 h1 ∧ R mu1 H1 a x ∧ WpS G W D mu1 H1 (k a h1) := by
  cases r with
  | ok a h1 => exact fun mu1 H1 x e s r => ⟨mu1, h1, a, e, s, r, w.ext e⟩
  | ex x h' => exact fun mu' H' c d e s rx => w mu' H' sg c d e s (re.ext e) rx
  | bad => exact w
theorem tS.bind {α β : Type} {R : Mu → Hp → α → β → Prop} {m : Ro → Th → Res α} {k : α → Ro → Th → SR} {sg : L2.St} {H : Hp} (t : tS G W (fun rho h => (m rho h).toS rho fun a h1 => k a rho h1) D sg H) :
    tG G W R m sg H fun x H1 => ∃ mu1 rho h1 a, RS G mu1 H1 h1 ∧ RE G.K mu1 H1 rho sg ∧ R mu1 H1 a x ∧ WpS G W D mu1 H1 (k a rho h1) := by
  obtain ⟨mu, rho, h, s, e, w⟩ := t
  refine ⟨mu, rho, h, s, e, (WpS.lift e w).imp fun x H1 q => ?_⟩
  obtain ⟨mu1, h1, a, e1, s1, r1, w1⟩ := q
  exact ⟨mu1, rho, h1, a, s1, e.ext e1, r1, w1⟩
theorem RE.set {K : PySem.W.Frag} {mu : Mu} {H : Hp} {rho : Ro} {sg : L2.St} {i : Nat} {d : MP.D} {v : V} (re : RE K mu H rho sg) (r : RV K mu H d v) : RE K mu H (rho.set i (some d)) (sg.set i (some v)) := by
  refine ⟨by simp [re.len], fun j d' h => ?_⟩
  by_cases hj : j = i
  · subst hj
    have hl : j < rho.length := by
      have := (List.getElem?_eq_some_iff.mp h).1
      simpa using this
    rw [List.getElem?_set_self hl] at h
    cases h
    exact ⟨v, by rw [List.getElem?_set_self (by rw [re.len]; exact hl)], r⟩
  · rw [List.getElem?_set_ne (Ne.symm hj)] at h
    rw [List.getElem?_set_ne (Ne.symm hj)]
    exact re.at_ j d' h
end
theorem ps_imp {X : Cx} {st : Stmt} {t t' : TS} (h : PS X st t) (q : ∀ D sg H, t' D sg H → t D sg H) : PS X st t' := ⟨fun pins s sg H D I w => h.run pins s sg H D I (q _ _ _ w)⟩
theorem pss_imp {X : Cx} {st : List Stmt} {t t' : TS} (h : PSs X st t) (q : ∀ D sg H, t' D sg H → t D sg H) : PSs X st t' := ⟨fun pins s sg H D I w => h.run pins s sg H D I (q _ _ _ w)⟩

section
variable {X : Cx} {G : Cfg} {W : WX} {e a b : Expr} {pos p p2 : Pos} {st : Stmt} {rest : List Stmt} {m1 m2 : DS}
def skipS : DS := fun rho h => .nx rho h
def seqS (m1 m2 : DS) : DS := fun rho h => match m1 rho h with
  | .nx rho' h' => m2 rho' h'
  | r => r
theorem ds_nil : PSs X [] (tS G W skipS) := pss_imp pss_nil fun D sg H ⟨mu, rho, h, s, e, w⟩ => w mu H sg (Ext.refl _ _) s e
theorem ds_one (h : PS X st (tS G W m1)) : PSs X [st] (tS G W m1) := pss_one h
theorem ds_cons (h : PS X st (tS G W m1)) (hr : PSs X rest (tS G W m2)) : PSs X (st :: rest) (tS G W (seqS m1 m2)) := by
  refine pss_imp (pss_cons h hr) fun D sg H ⟨mu, rho, h, s, e, w⟩ => ⟨mu, rho, h, s, e, ?_⟩
  unfold seqS at w
  cases q : m1 rho h with
  | nx rho' h' =>
    rw [q] at w
    exact fun mu' H' sg' e' s' re' => ⟨mu', rho', h', s', re', w.ext e'⟩
  | rt d h' => rw [q] at w; exact w
  | bk rho' h' => rw [q] at w; exact w
  | ct rho' h' => rw [q] at w; exact w
  | ex x rho' h' => rw [q] at w; exact w
  | bad => rw [q] at w; exact w
theorem ds_pass : PS X (.Pass pos) (tS G W skipS) := ps_imp ps_pass fun D sg H ⟨mu, rho, h, s, e, w⟩ => w mu H sg (Ext.refl _ _) s e
def brkS : DS := fun rho h => .bk rho h
def cntS : DS := fun rho h => .ct rho h
theorem ds_break : PS X (.Break pos) (tS G W brkS) := ps_imp ps_break fun D sg H ⟨mu, rho, h, s, e, w⟩ => w mu H sg (Ext.refl _ _) s e
theorem ds_continue : PS X (.Continue pos) (tS G W cntS) := ps_imp ps_continue fun D sg H ⟨mu, rho, h, s, e, w⟩ => w mu H sg (Ext.refl _ _) s e
def exprS (m : DE) : DS := fun rho h => (m rho h).toS rho fun _ h1 => .nx rho h1
theorem ds_expr {m : DE} (h : PE X e (tE G W m)) (hs : swapsWith e none pos.line X.env = pure false := by rfl) : PS X (.Expr e pos) (tS G W (exprS m)) := by
  refine ps_imp (ps_expr h hs) fun D sg H t => ?_
  obtain ⟨mu, rho, th, s, e, w⟩ := tS.bind (k := fun _ rho h1 => .nx rho h1) (R := RV G.K) t
  refine ⟨mu, rho, th, s, e, w.imp fun x H1 q => ?_⟩
  obtain ⟨mu1, rho1, h1, d, s1, e1, r1, w1⟩ := q
  exact w1 mu1 H1 sg (Ext.refl _ _) s1 e1
def retS (m : DE) : DS := fun rho h => (m rho h).toS rho fun d h1 => .rt d h1
theorem ds_ret {m : DE} (h : PE X e (tE G W m)) : PS X (.Return (some e) pos) (tS G W (retS m)) := by
  refine ps_imp (ps_ret h) fun D sg H t => ?_
  obtain ⟨mu, rho, th, s, e, w⟩ := tS.bind (k := fun d _ h1 => .rt d h1) (R := RV G.K) t
  refine ⟨mu, rho, th, s, e, w.imp fun x H1 q => ?_⟩
  obtain ⟨mu1, rho1, h1, d, s1, e1, r1, w1⟩ := q
  exact w1 mu1 H1 x (Ext.refl _ _) s1 r1
def retN : DS := fun _ h => .rt .non h
theorem ds_retN : PS X (.Return none pos) (tS G W retN) := ps_imp ps_retN fun D sg H ⟨mu, rho, h, s, e, w⟩ => w mu H .non (Ext.refl _ _) s .mk_non
def ifS (t : DT) (m1 m2 : DS) : DS := fun rho h => (t rho h).toS rho fun b h1 => if b = true then m1 rho h1 else m2 rho h1
theorem ds_if {cn : Expr} {x y : List Stmt} {t : DT} (hc : PT X cn (tT G W t)) (h1 : PSs X x (tS G W m1)) (h2 : PSs X y (tS G W m2)) : PS X (.If cn x y pos) (tS G W (ifS t m1 m2)) := by
  refine ps_imp (ps_if hc h1 h2) fun D sg H t => ?_
  obtain ⟨mu, rho, th, s, e, w⟩ := tS.bind (k := fun b rho h1 => if b = true then m1 rho h1 else m2 rho h1) (R := RB) t
  refine ⟨mu, rho, th, s, e, w.imp fun x H1 q => ?_⟩
  obtain ⟨mu1, rho1, h1, d, s1, e1, r1, w1⟩ := q
  cases r1
  cases x with
  | true => exact ⟨mu1, rho1, h1, s1, e1, w1⟩
  | false => exact ⟨mu1, rho1, h1, s1, e1, w1⟩

/-! ### targets -/
abbrev DG := MP.D → Ro → Option Ro
def TgS (X : Cx) (G : Cfg) (tg : Expr) (t : TG) (g : DG) (vs : List Nat) : Prop := PG X tg t ∧
  ∀ (mu : Mu) (sg : L2.St) (H : Hp) (d : MP.D) (v : V) (rho rho' : Ro) (Q : L2.St → Hp → Prop), RE G.K mu H rho sg → RV G.K mu H d v → g d rho = some rho' →
    (∀ sg', RE G.K mu H rho' sg' → wipe sg' vs = wipe sg vs → Q sg' H) → t v sg H Q
theorem wipe_set {i : Nat} {x : Option V} : ∀ {vs : List Nat} {sg : L2.St}, i ∈ vs → wipe (sg.set i x) vs = wipe sg vs
  | [], sg, h => by simp at h
  | v :: vs, sg, h => by
    unfold wipe
    by_cases hm : i ∈ vs
    · rw [wipe_set hm]
    · have : i = v := by simpa [hm] using h
      subst this
      have c : ∀ (vs : List Nat) (sg : L2.St), i ∉ vs → wipe (sg.set i x) vs = (wipe sg vs).set i x := by
        intro vs
        induction vs with
        | nil => intro sg _; rfl
        | cons w ws ih =>
          intro sg hn
          simp only [List.mem_cons, not_or] at hn
          unfold wipe
          rw [ih sg hn.2, List.set_comm _ _ hn.1]
      rw [c vs sg hm, List.set_set]
def nameG (i : Nat) : DG := fun d rho => some (rho.set i (some d))
theorem tg_name {i : Nat} {x : Str} {vs : List Nat} (hN : X.N.Nodup) (hi : X.N[i]? = some x) (hx : Loc X.env.scope x) (hv : i ∈ vs) (hf : X.fn x = true ∨ X.env.scope.names.lookup x = some .local := by first | exact .inl rfl | exact .inr rfl | assumption) : TgS X G (.Name x pos) (gName i) (nameG i) vs := by
  refine ⟨pg_name hN hi hx hf, fun mu sg H d v rho rho' Q re r hg q => ?_⟩
  unfold nameG at hg
  cases hg
  exact q _ (re.set r) (wipe_set hv)
/-- several targets -/
def consG (g : DG) (gs : List MP.D → Ro → Option Ro) : List MP.D → Ro → Option Ro
  | d :: ds, rho => (g d rho).bind (gs ds)
  | [], _ => none
def nilG : List MP.D → Ro → Option Ro
  | [], rho => some rho
  | _ :: _, _ => none
def TgsS (X : Cx) (G : Cfg) (tg : List Expr) (t : TGs) (g : List MP.D → Ro → Option Ro) (vs : List Nat) : Prop := PGs X tg t ∧
  ∀ (mu : Mu) (sg : L2.St) (H : Hp) (d : List MP.D) (v : List V) (rho rho' : Ro) (Q : L2.St → Hp → Prop), RE G.K mu H rho sg → RVs G.K mu H d v → g d rho = some rho' →
    (∀ sg', RE G.K mu H rho' sg' → wipe sg' vs = wipe sg vs → Q sg' H) → t v sg H Q
theorem tgs_nil {vs : List Nat} : TgsS X G [] gNil nilG vs := by
  refine ⟨pgs_nil, fun mu sg H d v rho rho' Q re r hg q => ?_⟩
  cases d with
  | nil =>
    unfold nilG at hg
    cases hg
    exact ⟨r.inv0, q _ re rfl⟩
  | cons => cases hg
theorem tgs_cons {es : List Expr} {t : TG} {ts : TGs} {g : DG} {gs : List MP.D → Ro → Option Ro} {vs : List Nat} (h1 : TgS X G e t g vs) (h2 : TgsS X G es ts gs vs) (hs : (assignEach (e :: es) X.env).map (·.2) = assign e X.env :: (assignEach es X.env).map (·.2) := by rfl) : TgsS X G (e :: es) (gCons t ts) (consG g gs) vs := by
  obtain ⟨p1, s1⟩ := h1
  obtain ⟨p2, s2⟩ := h2
  refine ⟨pgs_cons p1 p2 hs, fun mu sg H d v rho rho' Q re r hg q => ?_⟩
  cases d with
  | nil => cases hg
  | cons d ds =>
    unfold RVs at r
    obtain ⟨v, vr, rfl, r1, r2⟩ := r
    have hg : (g d rho).bind (gs ds) = some rho' := hg
    cases hq : g d rho with
    | none => rw [hq] at hg; cases hg
    | some rho1 =>
      rw [hq] at hg
      refine ⟨v, vr, rfl, s1 mu sg H d v rho rho1 _ re r1 hq fun sg1 re1 w1 => ?_⟩
      exact s2 mu sg1 H ds vr rho1 rho' Q re1 r2 hg fun sg2 re2 w2 => q sg2 re2 (w2.trans w1)
def tupG (n : Nat) (gs : List MP.D → Ro → Option Ro) : DG := fun d rho => match d with
  | .tup l => if l.length = n then gs l rho else none
  | _ => none
theorem tg_tup (c : Ctx X G W) {es : List Expr} {k n : Nat} {ts : TGs} {gs : List MP.D → Ro → Option Ro} {vs : List Nat} (h : TgsS X G es ts gs vs) (hn : (assignEach es X.env).length = n := by rfl) (hst : (assignEach es X.env).findIdx? (·.1) = none := by rfl) :
    TgS X G (.Tuple es k pos) (gTup X.K n ts) (tupG n gs) vs := by
  obtain ⟨p1, s1⟩ := h
  refine ⟨pg_tup c.calm p1 hn hst, fun mu sg H d v rho rho' Q re r hg q => ?_⟩
  unfold tupG at hg
  split at hg
  · split at hg
    · obtain ⟨a, vs, rfl, ta, z, rs⟩ := r.tup_inv
      exact ⟨a, vs, rfl, c.k ▸ ta.sq, by rw [rs.length]; assumption, s1 mu sg H _ vs rho rho' Q re rs hg q⟩
    · cases hg
  · cases hg
def asgS (g : DG) (m : DE) : DS := fun rho h => (m rho h).toS rho fun d h1 => match g d rho with
  | some rho' => .nx rho' h1
  | none => .bad
theorem ds_asg {tg : Expr} {t : TG} {g : DG} {vs : List Nat} {m : DE} (he : PE X e (tE G W m)) (hg : TgS X G tg t g vs) (hs : swapsWithSole [tg] e pos.line X.env = pure false := by rfl) (hw : swappedStores [tg] e X.env = pure none := by rfl)
    (h1 : (assignEach [tg] X.env).map (·.2) = [assign tg X.env] := by rfl) : PS X (.Assign [tg] e pos) (tS G W (asgS g m)) := by
  obtain ⟨p1, s1⟩ := hg
  refine ps_imp (ps_asg he p1 hs hw h1) fun D sg H t => ?_
  obtain ⟨mu, rho, th, s, e, w⟩ := tS.bind (k := fun d rho h1 => match g d rho with
    | some rho' => .nx rho' h1
    | none => .bad) (R := RV G.K) t
  refine ⟨mu, rho, th, s, e, w.imp fun x H1 q => ?_⟩
  obtain ⟨mu1, rho1, h1, d, s2, e1, r1, w1⟩ := q
  split at w1
  · exact s1 mu1 sg H1 d x rho1 _ _ e1 r1 ‹_› fun sg' re' _ => w1 mu1 H1 sg' (Ext.refl _ _) s2 re'
  · exact w1.elim
theorem ds_set {i : Nat} {x : Str} {m : DE} {pos' : Pos} (hN : X.N.Nodup) (hi : X.N[i]? = some x) (hx : Loc X.env.scope x) (he : PE X e (tE G W m)) (hs : swapsWith e (some (.Name x pos')) pos.line X.env = pure false := by rfl)
    (hf : X.fn x = true ∨ X.env.scope.names.lookup x = some .local := by first | exact .inl rfl | exact .inr rfl | assumption) : PS X (.Assign [.Name x pos'] e pos) (tS G W (asgS (nameG i) m)) := by
  refine ps_imp (ps_set hN hi hx he hs hf) fun D sg H t => ?_
  obtain ⟨mu, rho, th, s, e, w⟩ := tS.bind (k := fun d rho h1 => match nameG i d rho with
    | some rho' => .nx rho' h1
    | none => .bad) (R := RV G.K) t
  refine ⟨mu, rho, th, s, e, w.imp fun x H1 q => ?_⟩
  obtain ⟨mu1, rho1, h1, d, s2, e1, r1, w1⟩ := q
  exact w1 mu1 H1 _ (Ext.refl _ _) s2 (e1.set r1)
/-- name op= e -/
def IpD (X : Cx) (G : Cfg) (W : WX) (op : Operator) (g : MP.D → MP.D → Th → Res MP.D) : Prop :=
  ∃ t : TIp, PIp X op t ∧ ∀ mu sg H h x y v u Q, RS G mu H h → RV G.K mu H x v → RV G.K mu H y u → Wp G W (RV G.K) mu sg H (g x y h) Q → t v u H Q
theorem id_add : IpD X G W .Add (intOp cT fun i j => .int (i + j)) := ⟨_, ip_add, fun mu sg H h x y v u Q s rx ry w => by
  obtain ⟨i, j, rfl, rfl, _, w⟩ := intOp_inv w
  exact ⟨i, j, rx.int_inv, ry.int_inv, w.ok s .mk_int⟩⟩
theorem id_sub : IpD X G W .Sub (intOp cT fun i j => .int (i - j)) := ⟨_, ip_sub, fun mu sg H h x y v u Q s rx ry w => by
  obtain ⟨i, j, rfl, rfl, _, w⟩ := intOp_inv w
  exact ⟨i, j, rx.int_inv, ry.int_inv, w.ok s .mk_int⟩⟩
def augS (i : Nat) (g : MP.D → MP.D → Th → Res MP.D) (m : DE) : DS := fun rho h => match rho[i]? with
  | some (some d) => ((m rho h).bind fun y h1 => g d y h1).toS rho fun z h2 => .nx (rho.set i (some z)) h2
  | _ => .bad
theorem ds_aug {i : Nat} {x : Str} {m : DE} {op : Operator} {g : MP.D → MP.D → Th → Res MP.D} {pos' : Pos} (hN : X.N.Nodup) (hi : X.N[i]? = some x) (hx : Loc X.env.scope x) (he : PE X e (tE G W m)) (ho : IpD X G W op g)
    (hf : X.fn x = true ∨ X.env.scope.names.lookup x = some .local := by first | exact .inl rfl | exact .inr rfl | assumption) : PS X (.AugAssign (.Name x pos') op e pos) (tS G W (augS i g m)) := by
  obtain ⟨t, p1, s1⟩ := ho
  refine ps_imp (ps_aug hN hi hx he p1 hf) fun D sg H ⟨mu, rho, th, s, re, w⟩ => ?_
  unfold augS at w
  split at w
  · rename_i d hd
    obtain ⟨v, hv, rv⟩ := re.at_ _ _ hd
    refine ⟨v, hv, mu, rho, th, s, re, (Wp.bind (R := RV G.K) (WpS.lift (R := RV G.K) re w)).imp fun u H1 q => ?_⟩
    obtain ⟨mu1, h1, y, e1, s2, r1, w1⟩ := q
    refine s1 mu1 sg H1 h1 d y v u _ s2 (RV.ext e1 _ _ rv) r1 (w1.imp fun z H2 q => ?_)
    obtain ⟨mu2, h2, zd, e2, s3, r2, w2⟩ := q
    exact w2 mu2 H2 _ (Ext.refl _ _) s3 ((re.ext e2).set r2)
  · exact w.elim
/-- o[i] = e, of a list -/
def setD (x y z : MP.D) (h : Th) : Res MP.D := match x, y with
  | .ref n, .int i => (match h[n]? with
    | some (.lst l) => (match ixN l.length i with
      | some j => .ok .non (h.set n (.lst (l.set j z)))
      | none => .bad)
    | _ => .bad)
  | _, _ => .bad
def asgSub (g : MP.D → MP.D → MP.D → Th → Res MP.D) (m mo mi : DE) : DS := fun rho h => ((m rho h).bind fun z h1 => (mo rho h1).bind fun x h2 => (mi rho h2).bind fun y h3 => g x y z h3).toS rho fun _ h4 => .nx rho h4
def SetS (X : Cx) (G : Cfg) (W : WX) (g : MP.D → MP.D → MP.D → Th → Res MP.D) : Prop :=
  ∃ t : TSet, PSet X t ∧ ∀ (mu : Mu) (sg : L2.St) (H : Hp) (h : Th) (x y z : MP.D) (v u w : V) (Q : V → Hp → Prop), RS G mu H h → RV G.K mu H x v → RV G.K mu H y u → RV G.K mu H z w → Wp G W (RV G.K) mu sg H (g x y z h) Q → t v u w H fun H' => Q .non H'
theorem sd_list : SetS X G W setD := by
  refine ⟨_, set_list, fun mu sg H h x y z v u w Q s rx ry rz wp => ?_⟩
  unfold setD at wp
  split at wp
  · split at wp
    · rename_i l hl
      split at wp
      · rename_i j hj
        obtain ⟨a, rfl, hm⟩ := rx.ref_inv
        obtain rfl := ry.int_inv
        obtain ⟨a', vs, m', q, hz, rs⟩ := s.lst hl
        rw [hm] at m'
        cases m'
        refine ⟨a, vs, _, j, rfl, rfl, q, by rw [rs.length]; exact hj, ?_⟩
        exact wp.wroteL s hm (rs.set j rz) (by simpa using hz) .mk_non
      · exact wp.elim
    · exact wp.elim
  · exact wp.elim
theorem ds_asgSub {o i : Expr} {tpos : Pos} {m mo mi : DE} {g : MP.D → MP.D → MP.D → Th → Res MP.D} (he : PE X e (tE G W m)) (ho : PE X o (tE G W mo)) (hi : PE X i (tE G W mi)) (hs : SetS X G W g)
    (ha : ∀ v, assign (.Subscript o i tpos) X.env v = (do
      let ov ← holding [v] (eval o X.env)
      let iv ← holding [v, ov] (eval i X.env)
      standAt tpos
      holding [v, ov, iv] (setItem ov iv v)
      release [v, ov, iv] []) := by intro _; rfl)
    (hs1 : swapsWithSole [.Subscript o i tpos] e pos.line X.env = pure false := by rfl) (hw : swappedStores [.Subscript o i tpos] e X.env = pure none := by rfl)
    (h1 : (assignEach [.Subscript o i tpos] X.env).map (·.2) = [assign (.Subscript o i tpos) X.env] := by rfl) : PS X (.Assign [.Subscript o i tpos] e pos) (tS G W (asgSub g m mo mi)) := by
  obtain ⟨t, p1, s1⟩ := hs
  refine ps_imp (ps_asg he (pg_sub ho hi p1 ha) hs1 hw h1) fun D sg H ⟨mu, rho, th, s, re, w⟩ => ?_
  refine ⟨mu, rho, th, s, re, (Wp.bind (R := RV G.K) (WpS.lift (R := RV G.K) re w)).imp fun zv H1 q => ?_⟩
  obtain ⟨mu1, h1, z, e1, s2, r1, w1⟩ := q
  refine ⟨mu1, rho, h1, s2, re.ext e1, (Wp.bind (R := RV G.K) w1).imp fun xv H2 q => ?_⟩
  obtain ⟨mu2, h2, x, e2, s3, r2, w2⟩ := q
  refine ⟨mu2, rho, h2, s3, re.ext (e1.trans e2), (Wp.bind (R := RV G.K) w2).imp fun yv H3 q => ?_⟩
  obtain ⟨mu3, h3, y, e3, s4, r3, w3⟩ := q
  have z3 := s1 mu3 sg H3 h3 x y z xv yv zv _ s4 (RV.ext e3 _ _ r2) r3 (RV.ext (e2.trans e3) _ _ r1) (w3.imp (Q' := fun _ H4 => D.nx sg H4) fun b H4 q => ?_)
  · exact z3
  · obtain ⟨mu4, h4, _, e4, s5, r4, w4⟩ := q
    exact w4 mu4 H4 sg (Ext.refl _ _) s5 (re.ext e4)
end
end MP
set_option Elab.async false
set_option linter.all false
set_option maxRecDepth 100000
/-! MP: what is walked; for. -/
namespace MP
open PySem PySem.Spec PyProof.Rows L2

/-- what is walked: values, or the thing n that is a list (it must stay as it is) -/
inductive Src where
  | val (l : List D) | live (n : Nat) (l : List D)
def Src.l : Src → List D
  | .val l => l
  | .live _ l => l
def alive : Src → Th → Prop
  | .val _, _ => True
  | .live n l, h => h[n]? = some (.lst l)
@[simp] theorem Src.l_val (l : List D) : (Src.val l).l = l := rfl
@[simp] theorem Src.l_live (n : Nat) (l : List D) : (Src.live n l).l = l := rfl
@[simp] theorem alive_val (l : List D) (h : Th) : alive (.val l) h = True := rfl
@[simp] theorem alive_live (n : Nat) (l : List D) (h : Th) : alive (.live n l) h = (h[n]? = some (.lst l)) := rfl
noncomputable instance (s : Src) (h : Th) : Decidable (alive s h) := Classical.propDecidable _
abbrev DI := Ro → Th → Res Src

def WalksD (G : Cfg) (mu0 : Mu) (H0 : Hp) (src : Src) (J : It) : Prop := ∀ (i : Nat) (mu : Mu) (H : Hp) (h : Th), Ext mu0 H0 mu H → RS G mu H h → alive src h →
  (∀ d, src.l[i]? = some d → J.go i H ∧ ∀ x H', J.yld i H x H' → Ext mu H mu H' ∧ RS G mu H' h ∧ RV G.K mu H' d x) ∧ (src.l.length ≤ i → J.stop i H)
abbrev RJ (G : Cfg) : Mu → Hp → Src → It → Prop := fun mu H src J => WalksD G mu H src J ∧ src.l.length ≤ sizeLine
abbrev tI (G : Cfg) (W : WX) (m : DI) : TI := tG G W (RJ G) m
theorem pi_imp {X : Cx} {tg e : Expr} {t t' : TI} (h : PI X tg e t) (q : ∀ sg H R, t' sg H R → t sg H R) : PI X tg e t' := ⟨fun pins s sg H R I w => h.run pins s sg H R I (q _ _ _ w)⟩

section
variable {X : Cx} {G : Cfg} {W : WX} {e a b tg : Expr} {pos p p2 : Pos}
/-- a list, a tuple or a text, whichever it is -/
def iAny (K : PySem.W.Frag) (te : TE) : TI := fun σ H R => te σ H fun x H1 =>
  (∃ a, x = .ref a ∧ (∃ xs, SqL K H1 a xs) ∧ R (Itl K a) H1) ∨ (∃ a, x = .ref a ∧ (∃ xs, SqT K H1 a xs) ∧ R (Itt K a) H1) ∨ ∃ z, x = .str z ∧ R (Its z) H1
/-- the value that was got, as an expression of its own -/
theorem pi_any {te : TE} (he : PE X e te) : PI X tg e (iAny X.K te) := by
  refine ⟨fun pins s σ H R I h => thn (he.run pins s σ H _ I h) fun v s1 ⟨x, H1, I1, r1, q⟩ => ?_⟩
  rcases q with ⟨a, rfl, ⟨xs, hq⟩, q⟩ | ⟨a, rfl, ⟨xs, hq⟩, q⟩ | ⟨z, rfl, q⟩
  · obtain rfl : v = Value.ref a := r1
    obtain ⟨its, rv, pl, hz⟩ := I1.list hq
    exact wpAny_pyIter_list pl.isList (pi_one (tk := s1.toks) I1 _ (turn_list a _) ⟨_, Heap.get?_push_size _ rfl, rfl, rfl⟩ q)
  · obtain rfl : v = Value.ref a := r1
    obtain ⟨its, rv, pl, hz⟩ := I1.tuple hq
    exact wpAny_pyIter_tuple (show s1.heap.IsTuple a its.toArray from pl) (pi_one (tk := s1.toks) I1 _ (turn_tuple a _) ⟨_, Heap.get?_push_size _ rfl, rfl, rfl⟩ q)
  · obtain ⟨t, rfl⟩ : ∃ t, v = Value.str z t := r1
    by_cases hw : z.cps.all (· < 128) = true
    · exact wpAny_pyIter_ascii hw (pi_one (tk := s1.toks) I1 _ (turn_str _ z t "str_ascii_iterator" (.inl rfl)) ⟨_, Heap.get?_push_size _ rfl, rfl, rfl⟩ q)
    · exact wpAny_pyIter_wide (by simpa using hw) (pi_one (tk := s1.toks) I1 _ (turn_str _ z t "str_iterator" (.inr rfl)) ⟨_, Heap.get?_push_size _ rfl, rfl, rfl⟩ q)
def signsD (z : Str) : List D := z.cps.toList.map fun c => .str ⟨#[c]⟩
def srcD (d : D) (h : Th) : Res Src := match d with
  | .tup l => .ok (.val l) h
  | .lst l => .ok (.val l) h
  | .frz l => .ok (.val l) h
  | .str z => if z.length ≤ 16777216 then .ok (.val (signsD z)) h else .bad
  | .ref n => (match h[n]? with
    | some (.lst l) => .ok (.live n l) h
    | _ => .bad)
  | _ => .bad
def srcE (m : DE) : DI := fun rho h => (m rho h).bind srcD
theorem walks_list {mu0 : Mu} {H0 : Hp} {l : List D} {src : Src} {a : Addr} (hl : src.l = l)
    (q : ∀ mu H h, Ext mu0 H0 mu H → RS G mu H h → alive src h → ∃ vs, SqL G.K H a vs ∧ RVs G.K mu H l vs) : WalksD G mu0 H0 src (Itl G.K a) := by
  intro i mu H h e s al
  obtain ⟨vs, hq, r⟩ := q mu H h e s al
  subst hl
  refine ⟨fun d hd => ?_, fun hi => ⟨vs, hq, by rw [r.length]; exact hi⟩⟩
  obtain ⟨v, hv, rv⟩ := r.get hd
  refine ⟨⟨vs, v, hq, hv⟩, fun x H' y => ?_⟩
  obtain ⟨rfl, y⟩ := y
  have := y vs hq
  rw [hv] at this
  cases this
  exact ⟨Ext.refl _ _, s, rv⟩
theorem walks_tup {mu0 : Mu} {H0 : Hp} {l : List D} {a : Addr} {vs : List V} (q : TupAt G.K mu0 H0 a vs) (r : RVs G.K mu0 H0 l vs) : WalksD G mu0 H0 (.val l) (Itt G.K a) := by
  intro i mu H h e s al
  have hq := (q.ext e).sq
  have r := RVs.ext e _ _ r
  refine ⟨fun d hd => ?_, fun hi => ⟨vs, hq, by rw [r.length]; exact hi⟩⟩
  obtain ⟨v, hv, rv⟩ := r.get hd
  refine ⟨⟨vs, v, hq, hv⟩, fun x H' y => ?_⟩
  obtain ⟨rfl, y⟩ := y
  have := y vs hq
  rw [hv] at this
  cases this
  exact ⟨Ext.refl _ _, s, rv⟩
theorem walks_str {mu0 : Mu} {H0 : Hp} {z : Str} : WalksD G mu0 H0 (.val (signsD z)) (Its z) := by
  intro i mu H h e s al
  have hl : (signsD z).length = z.cps.size := by simp [signsD]
  refine ⟨fun d hd => ?_, fun hi => ?_⟩
  · have hi : i < z.cps.size := by
      have := (List.getElem?_eq_some_iff.mp hd).1
      rw [← hl]; exact this
    refine ⟨hi, fun x H' y => ?_⟩
    obtain ⟨rfl, c, hc, rfl⟩ := y
    refine ⟨Ext.refl _ _, s, ?_⟩
    have : d = .str ⟨#[c]⟩ := by
      have h2 : (signsD z)[i]? = some d := hd
      unfold signsD at h2
      rw [List.getElem?_map] at h2
      have h3 : z.cps.toList[i]? = some c := by simpa using hc
      rw [h3] at h2
      exact (Option.some.inj h2).symm
    subst this
    exact .mk_str
  · rw [Src.l_val, hl] at hi
    exact hi
theorem di_any (c : Ctx X G W) {m : DE} (he : PE X e (tE G W m)) : PI X tg e (tI G W (srcE m)) := by
  refine pi_imp (pi_any he) fun sg H R t => ?_
  obtain ⟨mu, rho, th, s, e, w⟩ := tG.bind (m2 := fun d _ h => srcD d h) (R := RV G.K) t
  refine ⟨mu, rho, th, s, e, w.imp fun x H1 q => ?_⟩
  obtain ⟨mu1, rho1, h1, d, s1, e1, r1, w1⟩ := q
  rw [c.k]
  unfold srcD at w1
  split at w1
  · obtain ⟨a, vs, rfl, t, z, r⟩ := r1.tup_inv
    exact .inr (.inl ⟨a, rfl, ⟨vs, t.sq⟩, w1.ok s1 ⟨walks_tup t r, by rw [Src.l_val, ← r.length]; exact z⟩⟩)
  · obtain ⟨a, vs, rfl, t, z, r⟩ := r1.lst_inv
    exact .inl ⟨a, rfl, ⟨vs, t.sq⟩, w1.ok s1 ⟨walks_list rfl fun mu H h e s _ => ⟨vs, (t.ext e).sq, RVs.ext e _ _ r⟩, by rw [Src.l_val, ← r.length]; exact z⟩⟩
  · obtain ⟨a, vs, rfl, t, z, r⟩ := r1.frz_inv
    exact .inl ⟨a, rfl, ⟨vs, t.sq⟩, w1.ok s1 ⟨walks_list rfl fun mu H h e s _ => ⟨vs, (t.ext e).sq, RVs.ext e _ _ r⟩, by rw [Src.l_val, ← r.length]; exact z⟩⟩
  · split at w1
    · rename_i z hz
      obtain rfl := r1.str_inv
      refine .inr (.inr ⟨_, rfl, w1.ok s1 ⟨walks_str, ?_⟩⟩)
      rw [Src.l_val, line_eq]
      simp only [signsD, List.length_map, Array.length_toList]
      exact hz
    · exact w1.elim
  · split at w1
    · rename_i n l hl
      obtain ⟨a, rfl, hm⟩ := r1.ref_inv
      obtain ⟨a', vs, m', q, z, r⟩ := s1.lst hl
      rw [hm] at m'
      cases m'
      refine .inl ⟨a, rfl, ⟨vs, .inl (.inl q)⟩, w1.ok s1 ⟨walks_list rfl fun mu H h e s al => ?_, by rw [Src.l_live, ← r.length]; exact z⟩⟩
      obtain ⟨a2, vs2, m2, q2, z2, r2⟩ := s.lst al
      obtain ⟨t, ht⟩ := e.pre
      rw [ht, List.getElem?_append_left (List.getElem?_eq_some_iff.mp hm).1, hm] at m2
      cases m2
      exact ⟨vs2, .inl (.inl q2), r2⟩
    · exact w1.elim
  · exact w1.elim

/-! ### range -/
def rangeL (lo : Int) (n : Nat) : List D := (List.range n).map fun i => .int (lo + (i : Nat))
def rangeC (lo c : Int) (n : Nat) : List D := (List.range n).map fun i => .int (lo + (i : Nat) * c)
theorem rangeL_get {lo : Int} {n i : Nat} {d : D} (h : (rangeL lo n)[i]? = some d) : i < n ∧ d = .int (lo + (i : Nat)) := by
  unfold rangeL at h
  rw [List.getElem?_map] at h
  by_cases hi : i < n
  · rw [List.getElem?_range hi] at h
    exact ⟨hi, (Option.some.inj h).symm⟩
  · rw [List.getElem?_eq_none (by simpa using hi)] at h
    cases h
theorem rangeC_get {lo c : Int} {n i : Nat} {d : D} (h : (rangeC lo c n)[i]? = some d) : i < n ∧ d = .int (lo + (i : Nat) * c) := by
  unfold rangeC at h
  rw [List.getElem?_map] at h
  by_cases hi : i < n
  · rw [List.getElem?_range hi] at h
    exact ⟨hi, (Option.some.inj h).symm⟩
  · rw [List.getElem?_eq_none (by simpa using hi)] at h
    cases h
theorem walks_range {mu0 : Mu} {H0 : Hp} {lo : Int} {n : Nat} : WalksD G mu0 H0 (.val (rangeL lo n)) (Itr lo n) := by
  intro i mu H h e s al
  refine ⟨fun d hd => ?_, fun hi => show n ≤ i by simpa [rangeL] using hi⟩
  obtain ⟨hi, rfl⟩ := rangeL_get hd
  refine ⟨hi, fun x H' y => ?_⟩
  obtain ⟨rfl, rfl⟩ := y
  exact ⟨Ext.refl _ _, s, .mk_int⟩
theorem walks_rangeC {mu0 : Mu} {H0 : Hp} {lo c : Int} {n : Nat} : WalksD G mu0 H0 (.val (rangeC lo c n)) (Itc lo c n) := by
  intro i mu H h e s al
  refine ⟨fun d hd => ?_, fun hi => show n ≤ i by simpa [rangeC] using hi⟩
  obtain ⟨hi, rfl⟩ := rangeC_get hd
  refine ⟨hi, fun x H' y => ?_⟩
  obtain ⟨rfl, rfl⟩ := y
  exact ⟨Ext.refl _ _, s, .mk_int⟩
/-- range(n), range(a, b), and range(a, b, -1), of at most 16777216 turns -/
def rangeD1 : List D → Th → Res Src
  | [.int j], h => if j ≤ 16777216 ∧ -16777216 ≤ j then .ok (.val (rangeL 0 j.toNat)) h else .bad
  | _, _ => .bad
def rangeD2 : List D → Th → Res Src
  | [.int i, .int j], h => if -4611686018427387904 ≤ i ∧ i < 4611686018427387904 ∧ -4611686018427387904 ≤ j ∧ j < 4611686018427387904 ∧ j - i ≤ 16777216 then .ok (.val (rangeL i (j - i).toNat)) h else .bad
  | _, _ => .bad
def rangeD3 : List D → Th → Res Src
  | [.int i, .int j, .int k], h => if k = -1 ∧ -4611686018427387904 ≤ i ∧ i < 4611686018427387904 ∧ -4611686018427387904 ≤ j ∧ j < 4611686018427387904 ∧ i - j ≤ 16777216 then .ok (.val (rangeC i (-1) (i - j).toNat)) h else .bad
  | _, _ => .bad
def rangeE (f : List D → Th → Res Src) (ms : DA) : DI := fun rho h => (ms rho h).bind f
theorem RVs.inv3 {K : PySem.W.Frag} {mu : Mu} {H : Hp} {x y z : D} {vs : List V} (h : RVs K mu H [x, y, z] vs) : ∃ v u w, vs = [v, u, w] ∧ RV K mu H x v ∧ RV K mu H y u ∧ RV K mu H z w := by
  unfold RVs at h
  obtain ⟨v, r, rfl, h1, h2⟩ := h
  obtain ⟨u, w, rfl, h3, h4⟩ := h2.inv2
  exact ⟨v, u, w, rfl, h1, h3, h4⟩
theorem di_range1 {ms : DA} (hg : Gl X "range") (hm : X.mg "range" = none) (ha : PA X [a] (tA G W ms)) (hs : starEach [a] X.env = [(false, eval a X.env)] := by rfl) : PI X tg (.Call (.Name "range" p) [a] [] pos) (tI G W (rangeE rangeD1 ms)) := by
  refine pi_imp (pi_range1 hg hm ha hs) fun sg H R t => ?_
  obtain ⟨mu, rho, th, s, e, w⟩ := tG.bind (m2 := fun l _ h => rangeD1 l h) (R := RVs G.K) t
  refine ⟨mu, rho, th, s, e, w.imp fun x H1 q => ?_⟩
  obtain ⟨mu1, rho1, h1, l, s1, e1, r1, w1⟩ := q
  unfold rangeD1 at w1
  split at w1
  · split at w1
    · rename_i hj
      obtain ⟨v, rfl, rv⟩ := r1.inv1
      obtain rfl := rv.int_inv
      refine ⟨_, rfl, by omega, by omega, w1.ok s1 ⟨walks_range, ?_⟩⟩
      rw [Src.l_val, line_eq]
      simp only [rangeL, List.length_map, List.length_range]
      omega
    · exact w1.elim
  · exact w1.elim
theorem di_range2 {ms : DA} (hg : Gl X "range") (hm : X.mg "range" = none) (ha : PA X [a, b] (tA G W ms)) (hs : starEach [a, b] X.env = [(false, eval a X.env), (false, eval b X.env)] := by rfl) (hs2 : starEach [b] X.env = [(false, eval b X.env)] := by rfl) :
    PI X tg (.Call (.Name "range" p) [a, b] [] pos) (tI G W (rangeE rangeD2 ms)) := by
  refine pi_imp (pi_range2 hg hm ha hs hs2) fun sg H R t => ?_
  obtain ⟨mu, rho, th, s, e, w⟩ := tG.bind (m2 := fun l _ h => rangeD2 l h) (R := RVs G.K) t
  refine ⟨mu, rho, th, s, e, w.imp fun x H1 q => ?_⟩
  obtain ⟨mu1, rho1, h1, l, s1, e1, r1, w1⟩ := q
  unfold rangeD2 at w1
  split at w1
  · split at w1
    · rename_i hj
      obtain ⟨v, u, rfl, rv, ru⟩ := r1.inv2
      obtain rfl := rv.int_inv
      obtain rfl := ru.int_inv
      refine ⟨_, _, rfl, ⟨by omega, by omega, by omega, by omega⟩, w1.ok s1 ⟨walks_range, ?_⟩⟩
      rw [Src.l_val, line_eq]
      simp only [rangeL, List.length_map, List.length_range]
      omega
    · exact w1.elim
  · exact w1.elim
theorem di_range3 {cx : Expr} {ms : DA} (hg : Gl X "range") (hm : X.mg "range" = none) (ha : PA X [a, b, cx] (tA G W ms))
    (hs : starEach [a, b, cx] X.env = (false, eval a X.env) :: starEach [b, cx] X.env := by rfl) (hpl : (backTo pos (starEach [b, cx] X.env)).any (·.1) = false := by rfl) :
    PI X tg (.Call (.Name "range" p) [a, b, cx] [] pos) (tI G W (rangeE rangeD3 ms)) := by
  refine pi_imp (pi_range3 hg hm ha hs hpl) fun sg H R t => ?_
  obtain ⟨mu, rho, th, s, e, w⟩ := tG.bind (m2 := fun l _ h => rangeD3 l h) (R := RVs G.K) t
  refine ⟨mu, rho, th, s, e, w.imp fun x H1 q => ?_⟩
  obtain ⟨mu1, rho1, h1, l, s1, e1, r1, w1⟩ := q
  unfold rangeD3 at w1
  split at w1
  · split at w1
    · rename_i hj
      obtain ⟨v, u, z, rfl, rv, ru, rz⟩ := r1.inv3
      obtain rfl := rv.int_inv
      obtain rfl := ru.int_inv
      obtain rfl := rz.int_inv
      obtain ⟨rfl, hj⟩ := hj
      refine ⟨_, _, _, _, rfl, RgC.neg (by omega) (by omega) (by omega) (by omega), w1.ok s1 ⟨walks_rangeC, ?_⟩⟩
      rw [Src.l_val, line_eq]
      simp only [rangeC, List.length_map, List.length_range]
      omega
    · exact w1.elim
  · exact w1.elim

/-! ### for -/
def afterS (k : Ro → Th → SR) (r : SR) : SR := match r with
  | .nx rho h => k rho h
  | .ct rho h => k rho h
  | .bk rho h => .nx rho h
  | .rt d h => .rt d h
  | .ex x rho h => .ex x rho h
  | .bad => .bad
@[simp] theorem afterS_nx (k : Ro → Th → SR) (rho : Ro) (h : Th) : afterS k (.nx rho h) = k rho h := rfl
@[simp] theorem afterS_ct (k : Ro → Th → SR) (rho : Ro) (h : Th) : afterS k (.ct rho h) = k rho h := rfl
@[simp] theorem afterS_bk (k : Ro → Th → SR) (rho : Ro) (h : Th) : afterS k (.bk rho h) = .nx rho h := rfl
@[simp] theorem afterS_rt (k : Ro → Th → SR) (d : D) (h : Th) : afterS k (.rt d h) = .rt d h := rfl
@[simp] theorem afterS_ex (k : Ro → Th → SR) (x : Exn) (rho : Ro) (h : Th) : afterS k (.ex x rho h) = .ex x rho h := rfl
@[simp] theorem afterS_bad (k : Ro → Th → SR) : afterS k .bad = .bad := rfl
noncomputable def forGo (src : Src) (g : DG) (b : DS) : List D → Ro → Th → SR
  | [], rho, h => if alive src h then .nx rho h else .bad
  | d :: ds, rho, h => if alive src h then (match g d rho with
    | some rho' => afterS (forGo src g b ds) (b rho' h)
    | none => .bad) else .bad
noncomputable def forS (m : DI) (g : DG) (b : DS) : DS := fun rho h => (m rho h).toS rho fun src h1 => forGo src g b src.l rho h1
theorem ds_for {body : List Stmt} {m : DI} {t : TG} {g : DG} {vs : List Nat} {b : DS} (c : Ctx X G W) (hp : PassesOwn (model X.prog X.w) X.A X.env X.xe) (hi : PI X tg e (tI G W m)) (hg : TgS X G tg t g vs) (hb : PSs X body (tS G W b))
    (hs : ∀ x, foldedSetIterable e X.env x = pure x := by intro _; rfl) : PS X (.For tg e body [] pos) (tS G W (forS m g b)) := by
  obtain ⟨p1, s1⟩ := hg
  refine ps_imp (ps_for hp c.calm hi p1 hb hs) fun D sg H t0 => ?_
  obtain ⟨mu, rho, th, s, e, w⟩ := tS.bind (k := fun src rho h1 => forGo src g b src.l rho h1) (R := RJ G) t0
  refine ⟨mu, rho, th, s, e, w.imp fun J H1 q => ?_⟩
  obtain ⟨mu1, rho1, h1, src, s2, e1, ⟨hw, hz⟩, w1⟩ := q
  refine ⟨fun i n sg' H' => n = src.l.length - i ∧ i ≤ src.l.length ∧ ∃ mu' rho' h', Ext mu1 H1 mu' H' ∧ RS G mu' H' h' ∧ RE G.K mu' H' rho' sg' ∧ WpS G W D mu' H' (forGo src g b (src.l.drop i) rho' h'),
    ⟨src.l.length, by simp, Nat.zero_le _, mu1, rho1, h1, Ext.refl _ _, s2, e1, by simpa using w1⟩, ?_⟩
  rintro i n sg' H' ⟨rfl, hi, mu', rho', h', ex', s', e', w'⟩
  by_cases hlt : i < src.l.length
  · right
    rw [List.drop_eq_getElem_cons hlt] at w'
    unfold forGo at w'
    split at w'
    · rename_i al
      obtain ⟨step, _⟩ := hw i mu' H' h' ex' s' al
      obtain ⟨go, yl⟩ := step src.l[i] (List.getElem?_eq_getElem hlt)
      split at w'
      · rename_i rho2 hg2
        refine ⟨go, fun sg3 H3 => ∃ mu3 rho3 h3, Ext mu1 H1 mu3 H3 ∧ RS G mu3 H3 h3 ∧ RE G.K mu3 H3 rho3 sg3 ∧ WpS G W D mu3 H3 (forGo src g b (src.l.drop (i + 1)) rho3 h3), fun sg3 H3 z => ⟨src.l.length - (i + 1), by omega, rfl, hlt, z⟩, fun x H2 y => ?_⟩
        obtain ⟨ey, sy, ry⟩ := yl x H2 y
        refine s1 mu' sg' H2 _ x rho' rho2 _ (e'.ext ey) ry hg2 fun sg2 re2 _ => ⟨mu', rho2, h', sy, re2, ?_⟩
        have w2 := w'.ext ey
        have e2 := ex'.trans ey
        cases hb2 : b rho2 h' with
        | nx r3 h3 =>
          rw [hb2] at w2
          exact fun mu3 H3 sg3 e3 s3 re3 => ⟨mu3, r3, h3, e2.trans e3, s3, re3, w2.ext e3⟩
        | ct r3 h3 =>
          rw [hb2] at w2
          exact fun mu3 H3 sg3 e3 s3 re3 => ⟨mu3, r3, h3, e2.trans e3, s3, re3, w2.ext e3⟩
        | bk r3 h3 => rw [hb2] at w2; exact w2
        | rt d h3 => rw [hb2] at w2; exact w2
        | ex x r3 h3 => rw [hb2] at w2; exact w2
        | bad => rw [hb2] at w2; exact w2
      · exact w'.elim
    · exact w'.elim
  · left
    have hi' : i = src.l.length := by omega
    subst hi'
    rw [List.drop_length] at w'
    unfold forGo at w'
    split at w'
    · rename_i al
      obtain ⟨_, stop⟩ := hw _ mu' H' h' ex' s' al
      exact ⟨stop (Nat.le_refl _), w' mu' H' sg' (Ext.refl _ _) s' e'⟩
    · exact w'.elim
end
end MP
set_option Elab.async false
set_option linter.all false
set_option maxRecDepth 100000
/-! MP: exceptions in the air, out of calls, out of comprehensions. -/
namespace MP
open PySem PySem.Spec PyProof.Rows L2

/-! ### a block's place is let go, the exception goes on -/
section
variable {M : Model} {A : Around} {E : Value → Shared → Prop} {t : Shared} {B : Heap} {l : List Env} {a L C : Addr} {Z : Obj → Prop} {cenv : Env}
theorem held_apart {m : Str → Option Value} {h h' : Heap} {B' : Heap} (sub : ∀ b o, B'.get? b = some o → B.get? b = some o ∧ b ≠ C) (hn : h.Ns C m) (hn' : ∃ m', h'.Ns C m') (hs : Heap.SameBut C h h') (x : HandSPX.HeldZ B l a Z L h) : HandSPX.HeldZ B' l a Z L h' := by
  obtain ⟨st, na, ff, oe, vs, T, oT, ts, he, hz, hd, h1, nT, hTe, hT, hdT, h3⟩ := x
  have none_of : ∀ b, B.get? b = none → B'.get? b = none := fun b e => by
    cases q : B'.get? b with
    | none => rfl
    | some o =>
      have := (sub b o q).1
      rw [e] at this
      cases this
  have nf : ∀ b o vs, h.get? b = some o → o.data = .fields vs → b ≠ C := fun b o vs e d z => by
    obtain ⟨o', es, ep, e', d', _⟩ := hn
    rw [z, e'] at e
    cases e
    rw [d'] at d
    cases d
  refine ⟨fun b o e => ?_, none_of _ na, ?_, oe, vs, T, oT, ts, (hs.2 a (nf _ _ _ he hd)).trans he, hz, hd, h1, none_of _ nT, hTe, (hs.2 T (nf _ _ _ hT hdT)).trans hT, hdT, h3⟩
  · obtain ⟨e1, e2⟩ := sub b o e
    exact (hs.2 b e2).trans (st b o e1)
  · obtain ⟨m', hn'⟩ := hn'
    have ff' := Heap.FunFrames.sameBut hs hn' ff
    clear hs hn hn' st he hT
    induction l with
    | nil => trivial
    | cons e l ih =>
      obtain ⟨hk, ⟨L', o, hf, hb, ho, hd⟩, hr⟩ := ff'
      obtain ⟨_, _, hr0⟩ := ff
      exact ⟨hk, ⟨L', o, hf, none_of _ hb, ho, hd⟩, ih hr0 hr⟩
/-- behind the note: the block is let go -/
theorem fails_held {m : Str → Option Value} {B' : Heap} (hf : cenv.frame = some L) (sub : ∀ b o, B'.get? b = some o → B.get? b = some o ∧ b ≠ cenv.locals) (hn : t.heap.Ns cenv.locals m) (x : HandSPX.HeldZ B l a Z L t.heap)
    (hQ : ∀ h', HandSPX.HeldZ B' l a Z L h' → (∀ b o, t.heap.get? b = some o → b ≠ cenv.locals → (∀ vs, o.data ≠ .fields vs) → ∃ sl, h'.get? b = some { o with slots := sl }) → E (.ref a) { t with heap := h' }) : CompFails M A E cenv (.ref a) t := by
  refine ⟨m, hn, fun h2 m2 hn2 hs2 => ?_⟩
  have x2 := held_apart sub hn ⟨m2, hn2⟩ hs2 x
  obtain ⟨st, na, ff, oe, vs, T, oT, ts, he, hz, hd, h1, nT, hTe, hT, hdT, h3⟩ := id x2
  unfold PySem.passOn
  refine wpAny_bind (wpAny_field he hd h1 ?_)
  rw [if_neg (show ¬ ((Value.ref T == Value.none) = true) from by simp), hf]
  refine wpAny_bind (HandSPX.setFlight_onZ x2 fun h3 x3 up3 => wpAny_throw (hQ h3 x3 fun b o e hb hnf => ?_))
  exact up3 b o ((hs2.2 b hb).trans e) hnf
/-- an exception within a block: noted, let go, and on -/
theorem fails_sky {m : Str → Option Value} {B' : Heap} {env : Env} {outer : List Env} (hZ : HandSPX.Steady Z) (hfr : A.frames = some (env :: outer)) (he : env.frame = some L) (hf : cenv.frame = some L)
    (sub : ∀ b o, B'.get? b = some o → B.get? b = some o ∧ b ≠ cenv.locals) (hn : t.heap.Ns cenv.locals m) (x : Sky B (env :: outer) a Z L t.heap)
    (hQ : ∀ h', HandSPX.HeldZ B' (env :: outer) a Z L h' → (∀ b o, t.heap.get? b = some o → b ≠ cenv.locals → (∀ vs, o.data ≠ .fields vs) → ∃ sl, h'.get? b = some { o with slots := sl }) → E (.ref a) { t with heap := h' }) :
    notedBy M A cenv (CompFails M A E cenv) (.ref a) t := by
  show wpAny M A (noteFrame (.ref a) cenv) _ _ t
  rw [noteFrame_env _ (hf.trans he.symm)]
  have fin : ∀ h1, HandSPX.HeldZ B (env :: outer) a Z L h1 → t.heap.UpToSlots h1 → CompFails M A E cenv (.ref a) { t with heap := h1 } := fun h1 x1 up1 => by
    refine fails_held hf sub (hn.upToSlots up1) x1 fun h' x' k => hQ h' x' fun b o e hb hnf => ?_
    obtain ⟨sl, e1⟩ := up1 b o e hnf
    obtain ⟨sl', e2⟩ := k b _ e1 hb hnf
    exact ⟨sl', e2⟩
  rcases x with ⟨hB, na, ff, oe, vs, ho, hz, hd, h1⟩ | fl | hd
  · exact HandSPX.look_newZ hZ hfr ff he ho hB na hd h1 hz fin
  · exact HandSPX.looks_onZ hZ hfr he fl fin
  · exact HandSPX.againZ he hd.2.2.2 (fin t.heap hd fun b o e _ => ⟨o.slots, e⟩)
end

/-- what the block of a comprehension lets out is taken -/
theorem block_takes {X : Cx} {L : Addr} {W : WX} {pins : List (Addr × Obj)} {sg : L2.St} {H3 : Hp} {s3 : Shared} {scope : Scope} {ce : Env} {fp : List Addr} (top : Top X L) (tk : TakesA X L W) (I3 : Inv X pins sg H3 s3) (hce : ce.frame = X.env.frame)
    (hC : FpOk X pins H3 ce.locals) (f3 : ∀ b ∈ fp, FpOk X pins H3 b) :
    TakesA ((X.blk s3 H3 scope ce fp).wish (notedBy (model X.prog X.w) X.A ce (CompFails (model X.prog X.w) X.A X.xe ce))) L fun cls d _ H' => W cls d sg H' := by
  obtain ⟨env, outer, hst, hef, hxf⟩ := top
  rintro u t ⟨a, B, si, pins', sg', H', cls, dd, rfl, I', nb, up, sky, na, os, ag, hw⟩
  show notedBy (model X.prog X.w) X.A ce (CompFails (model X.prog X.w) X.A X.xe ce) (.ref a) t
  have I1 : Inv (X.blk s3 H3 scope ce fp) pins' sg' H' si := I'.unwish
  have I7 : Inv X pins sg H' si := I3.call' (ch := fp) I1.os I1.base I1.hok I1.bare fun b hb => ⟨(f3 b hb).2.2.2.1, (f3 b hb).2.1, (f3 b hb).2.2.2.2.1, (f3 b hb).2.2.2.2.2⟩
  obtain ⟨_, hC1, hC2, hC3, hC4, hC5⟩ := hC
  have nC : H' ce.locals = none := I1.free
  obtain ⟨m, hn, _⟩ := I1.loc
  have hn : si.heap.Ns ce.locals m := hn
  have hfr : X.A.frames = some (env :: outer) := by rw [I3.ok.frames, hst]
  have sky' : Sky B (env :: outer) a (Zc cls dd) L t.heap := by rw [← hst]; exact sky
  obtain ⟨B', by1, by2⟩ := restrict B fun b => decide (b ≠ ce.locals)
  obtain ⟨S, sy1, sy2⟩ := restrict si.heap fun b => decide (b ≠ ce.locals)
  have sub : ∀ b o, B'.get? b = some o → B.get? b = some o ∧ b ≠ ce.locals := fun b o e => by
    by_cases q : b = ce.locals
    · rw [by2 b (by simp [q])] at e
      cases e
    · rw [by1 b (by simp [q])] at e
      exact ⟨e, q⟩
  have subS : ∀ b o, S.get? b = some o → si.heap.get? b = some o ∧ b ≠ ce.locals := fun b o e => by
    by_cases q : b = ce.locals
    · rw [sy2 b (by simp [q])] at e
      cases e
    · rw [sy1 b (by simp [q])] at e
      exact ⟨e, q⟩
  refine fails_sky Zc.steady hfr hef (hce.trans hxf) sub (hn.upToSlots up) sky' fun h' hh k => tk _ _ ⟨a, B', { si with heap := S }, pins, sg, H', cls, dd, rfl, ?_, fun b o e hb => ?_, fun b o e hnf => ?_, ?_, na, os, ag, hw⟩
  · exact I7.turned (t' := si.toks) (fun b o hb e => (sy1 b (by simp [hb])).trans e) nC hC1 hC3 hC4 hC5
  · obtain ⟨e1, e2⟩ := subS b o e
    rw [by1 b (by simp [e2])]
    exact nb b o e1 hb
  · obtain ⟨e1, e2⟩ := subS b o e
    obtain ⟨sl, e3⟩ := up b o e1 hnf
    obtain ⟨sl', e4⟩ := k b _ e3 e2 hnf
    exact ⟨sl', e4⟩
  · rw [hst]
    exact .inr (.inr hh)
end MP
set_option Elab.async false
set_option linter.all false
set_option maxRecDepth 100000
/-! MP: list comprehensions, whose elements may raise. -/
namespace MP
open PySem PySem.Spec PyProof.Rows L2

/-- the block's context, with what is wished of an exception -/
abbrev blkX (X : Cx) (s : Shared) (H : Hp) (scope : Scope) (ce : Env) (fp : List Addr) (xe : Value → Shared → Prop) : Cx := (X.blk s H scope ce fp).wish xe
abbrev outW (W : WX) (sg : L2.St) : WX := fun cls d _ H => W cls d sg H

section
variable {X : Cx} {L : Addr} {W : WX} {pins : List (Addr × Obj)} {s : Shared} {sg : L2.St} {H : Hp} {Q : VK} {elt tg iter : Expr} {ifs : List Expr} {scope : Scope} {own : List (Str × Nat)} {pos pos' : Pos} {wi : TI} {g : TG} {tt : TT} {te : TE}
  {use : Option (Value → Sem Unit)} {Qf : Value → Shared → Prop}
theorem lc_run (hc : X.calm = true) (hN : X.N.Nodup) (top : Top X L) (tk : TakesA X L W) (I : Inv X pins sg H s) (hi : PI X tg iter wi) (ok : BlkOk X.N X.env.scope scope own)
    (hg : ∀ (s : Shared) (H : Hp) (C : Addr) (cl : List (Str × Addr)) (fp : List Addr) (xe : Value → Shared → Prop), TakesA (blkX X s H scope (compEnvC scope cl C X.env) fp xe) L (outW W sg) → PG (blkX X s H scope (compEnvC scope cl C X.env) fp xe) tg g)
    (ht : ∀ (s : Shared) (H : Hp) (C : Addr) (cl : List (Str × Addr)) (fp : List Addr) (xe : Value → Shared → Prop), TakesA (blkX X s H scope (compEnvC scope cl C X.env) fp xe) L (outW W sg) → PTs (blkX X s H scope (compEnvC scope cl C X.env) fp xe) ifs tt)
    (he : ∀ (s : Shared) (H : Hp) (C : Addr) (cl : List (Str × Addr)) (fp : List Addr) (xe : Value → Shared → Prop), TakesA (blkX X s H scope (compEnvC scope cl C X.env) fp xe) L (outW W sg) → PE (blkX X s H scope (compEnvC scope cl C X.env) fp xe) elt te)
    (hs : ∀ x, foldedSetIterable iter X.env x = pure x) (h : tLc wi g tt te (own.map (·.2)) sg H Q)
    (fin : ∀ D ce s' m H', Inv X pins sg H' s' → Q (.ref D) H' → s'.heap.Ns ce.locals m → FpOk X pins H' ce.locals → compEnds (model X.prog X.w) X.A X.xe use Qf (.ref D) ce (.ok .next) s') :
    wpAny (model X.prog X.w) X.A (comprehension (.ListComp elt [⟨tg, iter, ifs, 0⟩] scope pos) scope X.env pos' (newList []) false (eval iter X.env) use) Qf X.xe s := by
  have caught : ∀ y ∈ scope.names, y.2 = .free → ∃ c, X.env.cells.lookup y.1 = some c := fun y hy e =>
    (ok.free y hy e).elim (fun k => I.ok.has _ (.inl k)) fun k => I.ok.has _ (.inr k)
  refine comprehension_at (use := use) rfl hs (closure_ok caught) ok.kind (fun y hy e => by rw [ok.uniq y hy, e]) (thn (hi.run pins s sg H _ I h) fun xv s1 hx => thn hx fun itv s2 h2 => ?_)
  obtain ⟨it, fp, tn, J, H2, rfl, I2, T, st2, f2, q⟩ := h2
  refine wpAny_newObj_type (newEnv_comp ?_) (by show 0 ≤ sizeLine; decide)
  obtain ⟨D, hD⟩ : ∃ D, D = s2.heap.objs.size := ⟨_, rfl⟩
  have nD : H2 D = none := I2.hok.fresh (Nat.le_of_eq hD.symm)
  obtain ⟨V, ⟨n0, v0⟩, turn⟩ := q D nD
  obtain ⟨s3, es3⟩ : ∃ s3 : Shared, s3 = { s2 with heap := s2.heap.push { cls := .type "list", data := .seq ([] : List Value).toArray } } := ⟨_, rfl⟩
  have h3 : s3.heap = s2.heap.push { cls := .type "list", data := .seq ([] : List Value).toArray } := by rw [es3]
  have up3 : ∀ b o, s2.heap.get? b = some o → s3.heap.get? b = some o := fun b o e => by rw [h3]; exact Heap.get?_push_of_some _ e
  have I3 : Inv X pins sg (upd H2 D (.lst [])) s3 := by
    rw [es3]
    exact I2.laid (t' := s2.toks) (fun b o e => Heap.get?_push_of_some _ e) (Nat.le_of_eq hD.symm) ⟨Nat.zero_le _, [], 0, .nil, by rw [hD]; exact Heap.get?_push_size _ rfl⟩
  have below : ∀ b ∈ fp, b < s2.heap.objs.size := fun b hb => let ⟨o, e, _⟩ := T.obj _ _ st2 b hb; Heap.lt_size e
  have f3 : ∀ b ∈ fp, FpOk X pins (upd H2 D (.lst [])) b ∧ b < s3.heap.objs.size := fun b hb => by
    have lt := below b hb
    refine ⟨⟨?_, (f2 b hb).2⟩, ?_⟩
    · rw [upd_ne (by rw [hD]; exact Nat.ne_of_lt lt)]
      exact (f2 b hb).1
    · rw [h3, Heap.size_push]
      exact Nat.lt_succ_of_lt lt
  have st3 : tn 0 s3.heap := T.keep _ _ _ st2 fun b _ o e => up3 b o e
  have I4 := block_start I3 ok hN f3
  obtain ⟨cl, ecl⟩ : ∃ cl, cl = cellsFrom (s3.heap.objs.size + 1) scope.names (cloFrom X.env.cells scope.names []) := ⟨_, rfl⟩
  have hpg := hg s3 (upd H2 D (.lst [])) s3.heap.objs.size cl fp
  have hpt := ht s3 (upd H2 D (.lst [])) s3.heap.objs.size cl fp
  have hpe := he s3 (upd H2 D (.lst [])) s3.heap.objs.size cl fp
  rw [← es3]
  rw [← ecl] at I4
  show codeAny _ _ (.compStart (.ListComp elt [⟨tg, iter, ifs, 0⟩] scope pos) 0 (.ref it) (.ref s2.heap.objs.size) (compEnvC scope (cellsFrom (s3.heap.objs.size + 1) scope.names (cloFrom X.env.cells scope.names [])) s3.heap.objs.size X.env))
    (compEnds (model X.prog X.w) X.A X.xe use Qf (.ref s2.heap.objs.size) (compEnvC scope (cellsFrom (s3.heap.objs.size + 1) scope.names (cloFrom X.env.cells scope.names [])) s3.heap.objs.size X.env)) { s3 with heap := pushCells (s3.heap.push { cls := .type "dict", data := .dict #[] }) scope.names }
  rw [← ecl, ← hD]
  obtain ⟨ce, ece⟩ : ∃ ce, ce = compEnvC scope cl s3.heap.objs.size X.env := ⟨_, rfl⟩
  rw [← ece] at I4 hpg hpt hpe ⊢
  have cL : ce.locals = s3.heap.objs.size := by rw [ece]; rfl
  have cF : ce.frame = X.env.frame := by rw [ece]; rfl
  obtain ⟨H3, eH3⟩ : ∃ H3, H3 = upd H2 D (.lst []) := ⟨_, rfl⟩
  rw [← eH3] at I3 I4 hpg hpt hpe v0 f3
  obtain ⟨s4, es4⟩ : ∃ s4 : Shared, s4 = { s3 with heap := pushCells (s3.heap.push { cls := .type "dict", data := .dict #[] }) scope.names } := ⟨_, rfl⟩
  rw [← es4] at I4 ⊢
  have st4 : tn 0 s4.heap := T.keep _ _ _ st3 fun b _ o e => by rw [es4]; exact pushCells_keeps _ _ _ _ (Heap.get?_push_of_some _ e)
  have nC3 : FpOk X pins H3 ce.locals := by
    rw [cL]
    exact I3.fpOk (Nat.le_refl _) (I3.hok.fresh (Nat.le_refl _))
  -- the wish about exceptions within
  obtain ⟨xe, exe⟩ : ∃ xe, xe = notedBy (model X.prog X.w) X.A ce (CompFails (model X.prog X.w) X.A X.xe ce) := ⟨_, rfl⟩
  have tkB : TakesA (blkX X s3 H3 scope ce fp xe) L (outW W sg) := by
    rw [exe]
    exact block_takes top tk I3 cF nC3 fun b hb => (f3 b hb).1
  have pg := hpg xe tkB
  have pt := hpt xe tkB
  have pe := hpe xe tkB
  have exN : ∀ e s', xe e s' → notedBy (model X.prog X.w) X.A ce (fun e s' => compEnds (model X.prog X.w) X.A X.xe use Qf (.ref D) ce (.error e) s') e s' := fun e s' z => by
    rw [exe] at z
    have k : ∀ e s', CompFails (model X.prog X.w) X.A X.xe ce e s' → compEnds (model X.prog X.w) X.A X.xe use Qf (.ref D) ce (.error e) s' := fun e s' z => by cases use <;> exact z
    exact wpAny_mono z (fun _ s2 z => k _ s2 z) fun _ s2 z => k _ s2 z
  have I4' : Inv (blkX X s3 H3 scope ce fp xe) [] (wipe sg (own.map (·.2))) H3 s4 := I4.wish xe
  have stat : ∀ {σ' : L2.St} {H' : Hp} {s' : Shared}, Inv (blkX X s3 H3 scope ce fp xe) [] σ' H' s' → (∀ b ∈ fp, H' b = none) → ∀ b ∈ fp, FpOk (blkX X s3 H3 scope ce fp xe) [] H' b := fun {σ' H' s'} I' n b hb =>
    ⟨n b hb, (I'.ok.exf b hb).1, I'.ok.exfs b hb, .inl hb, fun x c e => (I'.ok.exf b hb).2 x c e, fun p hp => absurd (show p ∈ ([] : List (Addr × Obj)) ++ [] from hp) (by simp)⟩
  refine codeAny_compStart_list ?loop (T.self X.A 0 _ _ _ st4 ?loop)
  refine compLoop_any (fun n s' => ∃ i H', Inv (blkX X s3 H3 scope ce fp xe) [] (wipe sg (own.map (·.2))) H' s' ∧ tn i s'.heap ∧ (∀ b ∈ fp, H' b = none) ∧ V i n H') ?_ n0 ⟨0, H3, I4', st4, fun b hb => (f3 b hb).1.1, v0⟩
  rintro n s5 ⟨i, H5, I5, st5, n5, v5⟩
  rcases turn i n H5 v5 with ⟨stop, qq⟩ | ⟨go, Nx, hNx, step⟩
  · refine thnF (T.done (blkX X s3 H3 scope ce fp xe) rfl rfl rfl hc i [] s5 _ H5 (fun _ _ => False) I5 (stat I5 n5) st5 stop) fun r s6 ⟨hr, I6'⟩ => ?_
    subst hr
    have I6 : Inv (X.blk s3 H3 scope ce fp) [] (wipe sg (own.map (·.2))) H5 s6 := I6'.unwish
    have I7 : Inv X pins sg H5 s6 := I3.call' (ch := fp) I6.os I6.base I6.hok I6.bare fun b hb => ⟨(f3 b hb).1.2.2.2.1, (f3 b hb).1.2.1, (f3 b hb).1.2.2.2.2.1, (f3 b hb).1.2.2.2.2.2⟩
    obtain ⟨m, hn, _⟩ := I6.loc
    exact fin D ce s6 m H5 I7 qq hn ⟨I6.free, nC3.2⟩
  · refine thnF (T.item (blkX X s3 H3 scope ce fp xe) rfl rfl rfl hc i [] s5 _ H5 (fun _ _ => False) I5 (stat I5 n5) st5 go) fun r s6 ⟨u, hr, h6⟩ => ?_
    subst hr
    refine thnF h6 fun _ s7 ⟨x, H7, I7, r7, y7, st7, n7⟩ => ?_
    have I7p := I7.pinned (stat I7 n7) (T.obj _ _ st7)
    refine wpAny_mono (pg.run _ s7 _ H7 x u _ I7p r7 (step x H7 y7)) (fun _ s8 ⟨σ8, H8, I8, w8, q8⟩ => ?_) exN
    refine wpAny_mono (pt.run _ s8 σ8 H8 _ I8 q8) (fun b s9 ⟨H9, I9, q9⟩ => ?_) exN
    have more : ∀ {s' : Shared} {H' : Hp}, Inv (blkX X s3 H3 scope ce fp xe) ([] ++ pinsAt fp s7.heap) σ8 H' s' → Nx H' → ∃ m, m < n ∧ ∃ i H', Inv (blkX X s3 H3 scope ce fp xe) [] (wipe sg (own.map (·.2))) H' s' ∧ tn i s'.heap ∧ (∀ b ∈ fp, H' b = none) ∧ V i m H' := fun {s' H'} I' nx => by
      obtain ⟨m', lt, v'⟩ := hNx H' nx
      have pin' : ∀ b ∈ fp, ∀ o, s7.heap.get? b = some o → s'.heap.get? b = some o ∧ H' b = none := fun b hb o e =>
        let z := I'.pin (b, o) (List.mem_append_right _ (List.mem_append_right _ (mem_pinsAt hb e)))
        ⟨z.1, z.2.1⟩
      have len8 : (wipe sg (own.map (·.2))).length = σ8.length := by rw [← w8, wipe_length]
      refine ⟨m', lt, i + 1, H', (I'.unpinned (pins := [])).weak len8 (fun j v e => ?_), T.keep _ _ _ st7 fun b hb o e => (pin' b hb o e).1, fun b hb => ?_, v'⟩
      · rw [← w8] at e
        exact (wipe_some e).1
      · obtain ⟨o, e, _⟩ := T.obj _ _ st7 b hb
        exact (pin' b hb o e).2
    cases b with
    | false => exact more I9 q9
    | true =>
      refine wpAny_mono (pe.run _ s9 σ8 H9 _ I9 q9) (fun z s10 ⟨yv, H10, I10, r10, acc, hD10, hz10, nx⟩ => ?_) exN
      exact app_ok (X := blkX X s3 H3 scope ce fp xe) I10 hD10 hz10 r10 fun s11 I11 => more I11 nx
end

/-! ### by values -/
def wipeR (rho : Ro) : List Nat → Ro
  | [] => rho
  | v :: vs => (wipeR rho vs).set v none
theorem wipeR_length (rho : Ro) : ∀ vs : List Nat, (wipeR rho vs).length = rho.length
  | [] => rfl
  | v :: vs => by unfold wipeR; rw [List.length_set, wipeR_length rho vs]
theorem wipeR_some {rho : Ro} {i : Nat} {x : D} : ∀ {vs : List Nat}, (wipeR rho vs)[i]? = some (some x) → rho[i]? = some (some x) ∧ i ∉ vs
  | [], h => ⟨h, by simp⟩
  | v :: vs, h => by
    unfold wipeR at h
    by_cases e : i = v
    · subst e
      by_cases hl : i < (wipeR rho vs).length
      · rw [List.getElem?_set_self hl] at h
        cases h
      · rw [List.getElem?_eq_none (by simpa using hl)] at h
        cases h
    · rw [List.getElem?_set_ne (Ne.symm e)] at h
      obtain ⟨h1, h2⟩ := wipeR_some h
      exact ⟨h1, by simp [e, h2]⟩
theorem RE.wipe {K : PySem.W.Frag} {mu : Mu} {H : Hp} {rho : Ro} {sg : L2.St} (re : RE K mu H rho sg) (vs : List Nat) : RE K mu H (wipeR rho vs) (wipe sg vs) := by
  refine ⟨by rw [wipeR_length, wipe_length, re.len], fun i d h => ?_⟩
  obtain ⟨h1, h2⟩ := wipeR_some h
  obtain ⟨v, hv, r⟩ := re.at_ i d h1
  exact ⟨v, by rw [wipe_out h2]; exact hv, r⟩
theorem Wp.out {α β : Type} {G : Cfg} {W : WX} {R : Mu → Hp → α → β → Prop} {mu : Mu} {sg sg2 : L2.St} {H : Hp} {r : Res α} {Q : β → Hp → Prop} (w : Wp G W R mu sg H r Q) : Wp G (outW W sg) R mu sg2 H r Q := by cases r <;> exact w
theorem Wp.inn {α β : Type} {G : Cfg} {W : WX} {R : Mu → Hp → α → β → Prop} {mu : Mu} {sg sg2 : L2.St} {H : Hp} {r : Res α} {Q : β → Hp → Prop} (w : Wp G (outW W sg) R mu sg2 H r Q) : Wp G W R mu sg H r Q := by cases r <;> exact w
noncomputable def lcGo (src : Src) (g : DG) (ct : DT) (me : DE) (w : Ro) : List D → Th → Res (List D)
  | [], h => if alive src h then .ok [] h else .bad
  | d :: ds, h => if alive src h then (match g d w with
    | some r => (ct r h).bind fun b h1 => if b = true then (me r h1).bind fun y h2 => (lcGo src g ct me w ds h2).bind fun l h3 => .ok (y :: l) h3 else lcGo src g ct me w ds h1
    | none => .bad) else .bad
def lstN (l : List D) (h : Th) : Res D := .ok (.lst l) h
noncomputable def lcE (m : DI) (g : DG) (ct : DT) (me : DE) (vs : List Nat) : DE := fun rho h => (m rho h).bind fun src h1 => (lcGo src g ct me (wipeR rho vs) src.l h1).bind lstN
def yesT : DT := fun _ h => .ok true h
theorem dts_nil {X : Cx} {G : Cfg} {W : WX} : PTs X [] (tT G W yesT) := ⟨fun pins s sg H Q I t => pts_nil.run pins s sg H Q I (by
  obtain ⟨mu, rho, th, s, e, w⟩ := t
  exact w.ok s rfl)⟩
theorem dts_one {X : Cx} {G : Cfg} {W : WX} {cn : Expr} {t : DT} (h : PT X cn (tT G W t)) : PTs X [cn] (tT G W t) := pts_one h
theorem wipe_get {sg : L2.St} {i : Nat} : ∀ {vs : List Nat}, (wipe sg vs)[i]? = if i ∈ vs then (if i < sg.length then some none else none) else sg[i]?
  | [] => by simp [wipe]
  | v :: vs => by
    unfold wipe
    by_cases e : i = v
    · subst e
      rw [if_pos List.mem_cons_self]
      by_cases hl : i < sg.length
      · rw [if_pos hl, List.getElem?_set_self (by rw [wipe_length]; exact hl)]
      · rw [if_neg hl, List.getElem?_eq_none (by rw [List.length_set, wipe_length]; omega)]
    · rw [List.getElem?_set_ne (Ne.symm e), wipe_get (vs := vs)]
      simp [e]
theorem wipe_wipe {sg : L2.St} {vs : List Nat} : wipe (wipe sg vs) vs = wipe sg vs := by
  refine List.ext_getElem? fun i => ?_
  rw [wipe_get, wipe_length, wipe_get]
  split <;> rfl
theorem Wp.bind2 {α β γ δ : Type} {G : Cfg} {W : WX} {R : Mu → Hp → α → β → Prop} {R' : Mu → Hp → γ → δ → Prop} {mu mu' : Mu} {sg : L2.St} {H H' : Hp} {r : Res α} {k : α → Th → Res γ} {Q : δ → Hp → Prop} (h : Wp G W R' mu sg H (r.bind k) Q) (e : Ext mu H mu' H') :
    Wp G W R mu' sg H' r fun x H1 => ∃ mu1 h1 a, Ext mu' H' mu1 H1 ∧ RS G mu1 H1 h1 ∧ R mu1 H1 a x ∧ Wp G W R' mu sg H (k a h1) Q := by
  cases r with
  | ok a h1 => exact fun mu1 H1 x e s r => ⟨mu1, h1, a, e, s, r, h⟩
  | ex x h' => exact fun mu1 H1 c d e1 => h mu1 H1 c d (e.trans e1)
  | bad => exact h
theorem Ext.upd {m0 m : Mu} {H0 H : Hp} (e : Ext m0 H0 m H) {p : Addr} (hp : H0 p = none) (u : HO) : Ext m0 H0 m (L2.upd H p u) :=
  ⟨e.pre, e.np, e.hid, fun a o h hn => by rw [upd_ne (ne_of_none h hp)]; exact e.keep a o h hn, e.new⟩
theorem mem_hide {m : Mu} {p : Addr} : p ∈ (m.hide p).p := List.mem_cons_self
section
variable {X : Cx} {G : Cfg} {W : WX} {elt tg iter : Expr} {ifs : List Expr} {scope : Scope} {own : List (Str × Nat)} {pos pos' : Pos} {m : DI} {t : TG} {g : DG} {ct : DT} {me : DE}
theorem lc_read {sg : L2.St} {H : Hp} {Q : VK} {vs : List Nat}
    (hs : ∀ (mu : Mu) (sg : L2.St) (H : Hp) (d : MP.D) (v : V) (rho rho' : Ro) (Q : L2.St → Hp → Prop), RE G.K mu H rho sg → RV G.K mu H d v → g d rho = some rho' → (∀ sg', RE G.K mu H rho' sg' → wipe sg' vs = wipe sg vs → Q sg' H) → t v sg H Q)
    (t0 : tE G W (lcE m g ct me vs) sg H Q) : tLc (tI G W m) t (tT G (outW W sg) ct) (tE G (outW W sg) me) vs sg H Q := by
  obtain ⟨mu, rho, th, s, e, w⟩ := tG.bind (m2 := fun src rho h1 => (lcGo src g ct me (wipeR rho vs) src.l h1).bind lstN) (R := RJ G) t0
  refine ⟨mu, rho, th, s, e, w.imp fun J H1 q => ?_⟩
  obtain ⟨mu1, rho1, h1, src, s1, e1, ⟨hw, hz⟩, w1⟩ := q
  intro D nD
  obtain ⟨eD, sD⟩ := Ext.hide s1 nD (.lst [])
  refine ⟨fun i n H' => n = src.l.length - i ∧ i ≤ src.l.length ∧ ∃ mu' h' acc vd, Ext mu1 H1 mu' H' ∧ RS G mu' H' h' ∧ D ∈ mu'.p ∧ H' D = some (.lst vd) ∧ RVs G.K mu' H' acc vd ∧ acc.length ≤ i ∧
      Wp G W (RV G.K) mu1 sg H1 ((lcGo src g ct me (wipeR rho1 vs) (src.l.drop i) h').bind fun l h => .ok (.lst (acc ++ l)) h) Q,
    ⟨src.l.length, by simp, Nat.zero_le _, mu1.hide D, h1, [], [], eD, sD, mem_hide, upd_same, RVs.nil, Nat.le_refl _, ?_⟩, ?_⟩
  · rw [List.drop_zero]
    exact w1
  rintro i n H' ⟨rfl, hi, mu', h', acc, vd, ex', s', pD', hD', ra, la, w'⟩
  by_cases hlt : i < src.l.length
  · right
    rw [List.drop_eq_getElem_cons hlt] at w'
    unfold lcGo at w'
    by_cases al : alive src h'
    · rw [if_pos al] at w'
      obtain ⟨step, _⟩ := hw i mu' H' h' ex' s' al
      obtain ⟨go, yl⟩ := step src.l[i] (List.getElem?_eq_getElem hlt)
      cases hg2 : g src.l[i] (wipeR rho1 vs) with
      | none => rw [hg2] at w'; exact w'.elim
      | some rho2 =>
        rw [hg2] at w'
        have w' : Wp G W (RV G.K) mu1 sg H1 (((ct rho2 h').bind fun b h1 => if b = true then (me rho2 h1).bind fun y h2 => (lcGo src g ct me (wipeR rho1 vs) (src.l.drop (i + 1)) h2).bind fun l h3 => .ok (y :: l) h3 else lcGo src g ct me (wipeR rho1 vs) (src.l.drop (i + 1)) h1).bind
          fun l h => .ok (.lst (acc ++ l)) h) Q := w'
        rw [bind_assoc] at w'
        refine ⟨go, fun H3 => ∃ mu' h' acc vd, Ext mu1 H1 mu' H3 ∧ RS G mu' H3 h' ∧ D ∈ mu'.p ∧ H3 D = some (.lst vd) ∧ RVs G.K mu' H3 acc vd ∧ acc.length ≤ i + 1 ∧
          Wp G W (RV G.K) mu1 sg H1 ((lcGo src g ct me (wipeR rho1 vs) (src.l.drop (i + 1)) h').bind fun l h => .ok (.lst (acc ++ l)) h) Q, fun H3 z => ⟨src.l.length - (i + 1), by omega, rfl, hlt, z⟩, fun x H2 y => ?_⟩
        obtain ⟨ey, sy, ry⟩ := yl x H2 y
        have e2 := ex'.trans ey
        refine hs mu' _ H2 _ x _ rho2 _ ((e1.wipe vs).ext e2) ry hg2 fun sg2 re2 wi2 => ⟨wi2.trans wipe_wipe, ?_⟩
        have nD' : D ∉ mu'.m := (s'.pr D pD').1
        refine ⟨mu', rho2, h', sy, re2, (Wp.bind2 (R := RB) w' e2).out.imp fun b H3 q => ?_⟩
        obtain ⟨mu3, h3, b', e3, s3, rb, w3⟩ := q
        cases rb
        have hD3 : H3 D = some (.lst vd) := e3.keep _ _ (ey.keep _ _ hD' nD') nD'
        have pD3 : D ∈ mu3.p := e3.hid _ (ey.hid _ pD')
        have nD3 : D ∉ mu3.m := (s3.pr D pD3).1
        cases b with
        | false =>
          rw [if_neg Bool.false_ne_true] at w3 ⊢
          exact ⟨mu3, h3, acc, vd, e2.trans e3, s3, pD3, hD3, RVs.ext (ey.trans e3) _ _ ra, Nat.le_succ_of_le la, w3⟩
        | true =>
          rw [if_pos rfl] at w3 ⊢
          rw [bind_assoc] at w3
          refine ⟨mu3, rho2, h3, s3, re2.ext e3, (Wp.bind2 (R := RV G.K) w3 (e2.trans e3)).out.imp fun yv H4 q => ?_⟩
          obtain ⟨mu4, h4, yd, e4, s4, r4, w4⟩ := q
          rw [bind_assoc] at w4
          have hD4 : H4 D = some (.lst vd) := e4.keep _ _ hD3 nD3
          have pD4 : D ∈ mu4.p := e4.hid _ pD3
          have ra4 : RVs G.K mu4 H4 acc vd := RVs.ext (ey.trans (e3.trans e4)) _ _ ra
          refine ⟨vd, hD4, by rw [ra4.length]; omega, mu4, h4, acc ++ [yd], vd ++ [yv], (e2.trans (e3.trans e4)).upd nD _, s4.upd pD4, pD4, upd_same, (RVs.upd pD4 _ _ ra4).append (RVs.one (RV.upd pD4 _ _ r4)), by simp; omega, ?_⟩
          simpa using w4
    · rw [if_neg al] at w'
      exact w'.elim
  · left
    have hi' : i = src.l.length := by omega
    subst hi'
    rw [List.drop_length] at w'
    unfold lcGo at w'
    by_cases al : alive src h'
    · rw [if_pos al] at w'
      obtain ⟨_, stop⟩ := hw _ mu' H' h' ex' s' al
      have ls := Less.show_ mu' D
      have nD1 : D ∉ mu1.p := (s1.outF nD).2
      refine ⟨stop (Nat.le_refl _), w' (mu'.show_ D) H' _ (ex'.less ls fun a ha => List.mem_filter.mpr ⟨ex'.hid a ha, decide_eq_true fun z => nD1 (by rw [← z]; exact ha)⟩) (s'.less ls) ?_⟩
      rw [List.append_nil]
      unfold RV
      refine ⟨D, vd, rfl, ⟨hD', (s'.pr D pD').1, fun z => ?_⟩, by rw [ra.length]; omega, RVs.less ls _ _ ra⟩
      have := (List.mem_filter.mp z).2
      simp at this
    · rw [if_neg al] at w'
      exact w'.elim
end
end MP
set_option Elab.async false
set_option linter.all false
set_option maxRecDepth 100000
/-! MP: list comprehensions, as expressions and in an assignment. -/
namespace MP
open PySem PySem.Spec PyProof.Rows L2

theorem Ctx.blk {X : Cx} {G : Cfg} {W W' : WX} {L : Addr} {s : Shared} {H : Hp} {scope : Scope} {cl : List (Str × Addr)} {C : Addr} {fp : List Addr} {xe : Value → Shared → Prop} (c : Ctx X G W) (top : Top X L)
    (tk : TakesA (blkX X s H scope (compEnvC scope cl C X.env) fp xe) L W') : Ctx (blkX X s H scope (compEnvC scope cl C X.env) fp xe) G W' :=
  ⟨c.k, c.hu, c.calm, L, top, tk⟩
section
variable {X : Cx} {G : Cfg} {W : WX} {elt tg iter : Expr} {ifs : List Expr} {scope : Scope} {own : List (Str × Nat)} {pos pos' spos py : Pos} {m : DI} {t : TG} {g : DG} {ct : DT} {me : DE}
theorem de_lc (c : Ctx X G W) (hN : X.N.Nodup) (hi : PI X tg iter (tI G W m)) (ok : BlkOk X.N X.env.scope scope own)
    (hg : ∀ (s : Shared) (H : Hp) (C : Addr) (cl : List (Str × Addr)) (fp : List Addr) (xe : Value → Shared → Prop) (W' : WX), Ctx (blkX X s H scope (compEnvC scope cl C X.env) fp xe) G W' → TgS (blkX X s H scope (compEnvC scope cl C X.env) fp xe) G tg t g (own.map (·.2)))
    (ht : ∀ (s : Shared) (H : Hp) (C : Addr) (cl : List (Str × Addr)) (fp : List Addr) (xe : Value → Shared → Prop) (W' : WX), Ctx (blkX X s H scope (compEnvC scope cl C X.env) fp xe) G W' → PTs (blkX X s H scope (compEnvC scope cl C X.env) fp xe) ifs (tT G W' ct))
    (he : ∀ (s : Shared) (H : Hp) (C : Addr) (cl : List (Str × Addr)) (fp : List Addr) (xe : Value → Shared → Prop) (W' : WX), Ctx (blkX X s H scope (compEnvC scope cl C X.env) fp xe) G W' → PE (blkX X s H scope (compEnvC scope cl C X.env) fp xe) elt (tE G W' me))
    (hs : ∀ x, foldedSetIterable iter X.env x = pure x := by intro _; rfl) :
    PE X (.ListComp elt [⟨tg, iter, ifs, 0⟩] scope pos) (tE G W (lcE m g ct me (own.map (·.2)))) := by
  obtain ⟨L, top, tk⟩ := c.air
  refine ⟨fun pins s sg H Q I h => ?_⟩
  rw [eval_ListComp]
  refine lc_run (W := W) (sg := sg) (Q := Q) (wi := tI G W m) (g := t) (tt := tT G (outW W sg) ct) (te := tE G (outW W sg) me) c.calm hN top tk I hi ok (fun s H C cl fp xe tk' => (hg s H C cl fp xe _ (c.blk top tk')).1) (fun s H C cl fp xe tk' => ht s H C cl fp xe _ (c.blk top tk'))
    (fun s H C cl fp xe tk' => he s H C cl fp xe _ (c.blk top tk')) hs (lc_read (fun mu sg' H' d v rho rho' Q' => ?_) h) fun D ce s' m' H' I' q hn f => ⟨m', hn, fun h'' sb => ?_⟩
  · exact (hg s H 0 [] [] (fun _ _ => True) W (c.blk top fun _ _ _ => trivial)).2 mu sg' H' d v rho rho' Q'
  · obtain ⟨f0, f1, f2, f3, f4, f5⟩ := f
    exact ⟨.ref D, H', I'.turned (t' := s'.toks) (fun b o hb e => (sb.2 b hb).trans e) f0 f1 f3 f4 f5, rfl, q⟩
/-- name = [..] -/
theorem ds_setLc {i : Nat} {y : Str} (c : Ctx X G W) (hN : X.N.Nodup) (hy : X.N[i]? = some y) (hyl : X.env.scope.names.lookup y = some .local) (hsw : swapsWith (.ListComp elt [⟨tg, iter, ifs, 0⟩] scope pos) (some (.Name y py)) spos.line X.env = pure true)
    (hi : PI X tg iter (tI G W m)) (ok : BlkOk X.N X.env.scope scope own)
    (hg : ∀ (s : Shared) (H : Hp) (C : Addr) (cl : List (Str × Addr)) (fp : List Addr) (xe : Value → Shared → Prop) (W' : WX), Ctx (blkX X s H scope (compEnvC scope cl C X.env) fp xe) G W' → TgS (blkX X s H scope (compEnvC scope cl C X.env) fp xe) G tg t g (own.map (·.2)))
    (ht : ∀ (s : Shared) (H : Hp) (C : Addr) (cl : List (Str × Addr)) (fp : List Addr) (xe : Value → Shared → Prop) (W' : WX), Ctx (blkX X s H scope (compEnvC scope cl C X.env) fp xe) G W' → PTs (blkX X s H scope (compEnvC scope cl C X.env) fp xe) ifs (tT G W' ct))
    (he : ∀ (s : Shared) (H : Hp) (C : Addr) (cl : List (Str × Addr)) (fp : List Addr) (xe : Value → Shared → Prop) (W' : WX), Ctx (blkX X s H scope (compEnvC scope cl C X.env) fp xe) G W' → PE (blkX X s H scope (compEnvC scope cl C X.env) fp xe) elt (tE G W' me))
    (hs : ∀ x, foldedSetIterable iter X.env x = pure x := by intro _; rfl) :
    PS X (.Assign [.Name y py] (.ListComp elt [⟨tg, iter, ifs, 0⟩] scope pos) spos) (tS G W (asgS (nameG i) (lcE m g ct me (own.map (·.2))))) := by
  obtain ⟨L, top, tk⟩ := c.air
  refine ⟨fun pins s sg H D I h => ?_⟩
  rw [exec_Assign_Name_used _ _ _ _ hsw]
  refine wpAny_bind (wpAny_standAt (wpAny_bind ?_))
  show wpAny _ X.A (do let _ ← comprehension (.ListComp elt [⟨tg, iter, ifs, 0⟩] scope pos) scope X.env (firstIterPos [⟨tg, iter, ifs, 0⟩] pos) (newList []) false (eval iter X.env) (some (assign (.Name y py) X.env))) _ _ s
  have h : tE G W (lcE m g ct me (own.map (·.2))) sg H fun x H1 => D.nx (sg.set i (some x)) H1 := by
    obtain ⟨mu, rho, th, s, e, w⟩ := tS.bind (k := fun d rho h1 => match nameG i d rho with
      | some rho' => .nx rho' h1
      | none => .bad) (R := RV G.K) h
    refine ⟨mu, rho, th, s, e, w.imp fun x H1 q => ?_⟩
    obtain ⟨mu1, rho1, h1, d, s2, e1, r1, w1⟩ := q
    exact w1 mu1 H1 _ (Ext.refl _ _) s2 (e1.set r1)
  refine wpAny_bind (thn (lc_run (W := W) (sg := sg) (Q := fun x H1 => D.nx (sg.set i (some x)) H1) (wi := tI G W m) (g := t) (tt := tT G (outW W sg) ct) (te := tE G (outW W sg) me) (Qf := fun _ s' => SP X pins D .next s') c.calm hN top tk I hi ok (fun s H C cl fp xe tk' => (hg s H C cl fp xe _ (c.blk top tk')).1) (fun s H C cl fp xe tk' => ht s H C cl fp xe _ (c.blk top tk'))
    (fun s H C cl fp xe tk' => he s H C cl fp xe _ (c.blk top tk')) hs (lc_read (fun mu sg' H' d v rho rho' Q' => ?_) h) fun L' ce s' m' H' I' q hn f => ?_) fun _ s' hq => wpAny_pure (wpAny_pure hq))
  · exact (hg s H 0 [] [] (fun _ _ => True) W (c.blk top fun _ _ _ => trivial)).2 mu sg' H' d v rho rho' Q'
  · show wpAny _ _ (assign (.Name y py) X.env (.ref L')) _ _ _
    refine wpAny_assign_Name (store_ok2 (v := V.ref L') I' hN hy (.inl hyl) rfl (fun s2 I2 ⟨a, sb, ha⟩ => ?_) (.inr hyl))
    obtain ⟨f0, f1, f2, f3, f4, f5⟩ := f
    have haC : ce.locals ≠ a := by
      rcases ha with z | z
      · rw [z]; exact f1
      · exact fun e => f4 y a z e.symm
    refine ⟨m', hn.sameBut sb haC, fun h3 sb3 => ?_⟩
    exact ⟨_, H', I2.turned (t' := s2.toks) (fun b o hb e => (sb3.2 b hb).trans e) f0 f1 f3 f4 f5, q⟩
end
end MP
set_option Elab.async false
set_option linter.all false
set_option maxRecDepth 100000
/-! MP: raise, try, defs. -/
namespace MP
open PySem PySem.Spec PyProof.Rows L2

/-- what the rules ask of a def's context -/
structure Sx (X : Cx) (G : Cfg) (W : WX) : Prop where
  c : Ctx X G W
  own : PassesOwn (model X.prog X.w) X.A X.env X.xe
  tk : Takes X W
  hs : X.stack = X.env :: X.outer
  hf : X.env.frame = some X.env.locals

section
variable {X : Cx} {G : Cfg} {W : WX} {e a b : Expr} {pos p p2 np pos' : Pos} {x : Str}
theorem pmk_own0 {C : Addr} {bmB : List Value} {B newId initId : String} (F : ExcBaseFacts B newId initId bmB) (q : PySem.W.excIn X.K C bmB newId = true) (gC : X.mg x = some (.ref C)) (kC : PySem.W.keepIn X.K (.ref C) = true) (r : Raises X (.ref C)) (hg : Gl X x)
    (hdb : (x == ("__debug__" : Str)) = false := by decide) : PMk X (.Call (.Name x p) [] [] pos) (fun _ H Q => Q (.ref C) none H) := by
  intro pins s sg H Q I h
  refine wpAny_Call_Name_kw (ld_glob I hg gC ?_ hdb)
  refine PySem.W.callWith_K0 I.kIn kC ?_
  show wpAny _ _ (call (.ref C) []) _ _ _
  obtain ⟨bm, N, nm, qn, bs, hdct, sn, sub, ab, col, dd, k0, k1, k2, k3, k5, mN, hC, hN, hni, T⟩ := exc_obj I.kIn q
  refine wpAny_call_exc_subT F T hC hN hni (fun h' e hm => ?_) (Nat.zero_le _)
  exact mk_of I hm r h (I.hok.gone hm.new)
def raiseS (c : Str) : DS := fun rho h => .ex ⟨c, []⟩ rho h
/-- raise X(..) -/
theorem ds_raise0 (S : Sx X G W) {c : Str} {C : Addr} (hC : G.cl c = C) {e : Expr} (he : PMk X e (fun _ H Q => Q (.ref C) none H)) : PS X (.Raise (some e) none pos) (tS G W (raiseS c)) := by
  refine ps_imp (ps_raise S.c.calm S.tk he) fun D sg H ⟨mu, rho, th, s, re, w⟩ => ?_
  exact w mu H sg _ _ (Ext.refl _ _) s re ⟨by rw [hC], fun z => absurd rfl z⟩
def noEx (r : SR) : SR := match r with
  | .ex _ _ _ => .bad
  | r => r
def tryS (m1 : DS) (mt : Str → Option Bool) (m2 : DS) : DS := fun rho h => match m1 rho h with
  | .ex x rho' h' => (match mt x.c with
    | some true => noEx (m2 rho' h')
    | some false => .ex x rho' h'
    | none => .bad)
  | r => r
theorem WpS.noEx {W' : WX} {D : Ends} {mu : Mu} {H : Hp} {r : SR} (w : WpS G W D mu H (noEx r)) : WpS G W' D mu H r := by
  cases r <;> first | exact w | exact w.elim
theorem ds_try {c : Value} {b0 : Stmt} {body suite : List Stmt} {m1 m2 : DS} {mt : Str → Option Bool} (S : Sx X G W) (hc : Names X x c) (hm : ∀ n b, mt n = some b → PySem.W.exmOne X.K (.ref (G.cl n)) c = some b)
    (hb : ∀ (W' : WX) (pn : List (Addr × Obj)) (xe : Value → Shared → Prop), Sx (X.tr pn xe) G W' → PSs (X.tr pn xe) body (tS G W' m1))
    (hsu : ∀ (a : Addr) (oe : Obj) (pn : List (Addr × Obj)) (W' : WX), PSs (X.suite a ((a, oe) :: pn)) (b0 :: suite) (tS G W' m2)) :
    PS X (.Try body [.ExceptHandler (some (.Name x np)) none (b0 :: suite) pos'] [] [] pos) (tS G W (tryS m1 mt m2)) := by
  have top : Top X X.env.locals := ⟨_, _, S.hs, S.hf, S.hf⟩
  refine ps_imp (ps_try_only (tb := fun W' => tS G W' m1) (ts := fun _ _ _ => tS G (fun _ _ _ _ => False) m2) (Wout := W) S.hs S.hf hc S.tk (fun W' pn xe tk po => hb W' pn xe ⟨⟨S.c.k, S.c.hu, S.c.calm, X.env.locals, top, takesA_of tk⟩, po, tk, S.hs, S.hf⟩) (fun a oe cls d pn _ _ => hsu a oe pn _)) fun D sg H ⟨mu, rho, th, s, re, w⟩ => ?_
  refine ⟨mu, rho, th, s, re, ?_⟩
  unfold tryS at w
  cases q : m1 rho th with
  | nx rho' h' => rw [q] at w; exact w
  | rt d h' => rw [q] at w; exact w
  | bk rho' h' => rw [q] at w; exact w
  | ct rho' h' => rw [q] at w; exact w
  | bad => rw [q] at w; exact w
  | ex y rho' h' =>
    rw [q] at w
    have w : WpS G W D mu H (match mt y.c with
      | some true => noEx (m2 rho' h')
      | some false => .ex y rho' h'
      | none => .bad) := w
    intro mu' H' sg' cls dd ex s' re' rx
    obtain ⟨rfl, rx2⟩ := rx
    cases hq : mt y.c with
    | none => rw [hq] at w; exact w.elim
    | some b =>
      rw [hq] at w
      refine ⟨b, hm _ _ hq, fun z a na => ?_, fun z => ?_⟩
      · subst z
        exact ⟨mu', rho', h', s', re', (WpS.noEx w).ext ex⟩
      · subst z
        exact w mu' H' sg' _ dd ex s' re' ⟨rfl, rx2⟩
end

/-! ### defs -/
def runFn (n np : Nat) (body : DS) : List D → Th → Res D := fun ds h => if ds.length = np then (match body (ds.map some ++ List.replicate (n - np) none) h with
  | .nx _ h' => .ok .non h'
  | .rt d h' => .ok d h'
  | .ex x _ h' => .ex x h'
  | _ => .bad) else .bad
theorem RE.start {K : PySem.W.Frag} {mu : Mu} {H : Hp} {N : List Str} {ds : List D} {vs : List V} (r : RVs K mu H ds vs) : RE K mu H (ds.map some ++ List.replicate (N.length - ds.length) none) (L2.start N vs) := by
  unfold L2.start
  have hl := r.length
  refine ⟨by simp [hl], fun i d h => ?_⟩
  by_cases hi : i < ds.length
  · rw [List.getElem?_append_left (by simpa using hi)] at h
    rw [List.getElem?_append_left (by rw [List.length_map, hl]; exact hi)]
    rw [List.getElem?_map] at h ⊢
    cases q : ds[i]? with
    | none => rw [q] at h; simp at h
    | some d' =>
      rw [q] at h
      simp at h
      subst h
      obtain ⟨v, hv, rv⟩ := r.get q
      exact ⟨v, by rw [hv]; rfl, rv⟩
  · rw [List.getElem?_append_right (by simp; omega)] at h
    have := List.mem_of_getElem? h
    simp at this
section
variable {P : Program} {w : World} {K : PySem.W.Frag} {mg : Str → Option Value} {base : Heap} {G : Cfg}
theorem fn_mp {x qual : Str} {st : Stmt} {f : Addr} {fd : FuncData} {N ps : List Str} {k : Nat} {body : DS} (hK : K = G.K) (F : Fun K x qual st f fd) (S : FnScope N ps (defScope st))
    (hbody : ∀ (cdv : Value) (A : Around) (outer : List Env) (s : Shared) (H : Hp) (E : XK) (W : WX), Room k (A.deeper (envOfC qual (defScope st) s.heap.objs.size f cdv)) → Sx (cxOf (L2.CX P w) P w K mg base N qual (defScope st) f cdv A outer s H E) G W →
      PSs (cxOf (L2.CX P w) P w K mg base N qual (defScope st) f cdv A outer s H E) (defBody st) (tS G W body)) : FnOk P w K mg base (L2.CX P w) (k + 1) f fd ps (spOf G (runFn N.length ps.length body)) := by
  refine F.okX S (fun vs H Q E ⟨mu, ds, h, s, r, wp⟩ => ?_) fun cdv A outer s H vs Q E hr hsp => ?_
  · unfold runFn at wp
    split at wp
    · rename_i hl; rw [r.length, hl]
    · exact wp.elim
  · have tk : Takes (cxOf (L2.CX P w) P w K mg base N qual (defScope st) f cdv A outer s H E) (fun cls d _ H => E cls d H) := takes_of rfl rfl rfl rfl
    have sx : Sx (cxOf (L2.CX P w) P w K mg base N qual (defScope st) f cdv A outer s H E) G (fun cls d _ H => E cls d H) :=
      ⟨⟨hK, by have := hr.un; show _ + 70 < _; exact Nat.lt_of_le_of_lt (by show _ ≤ (A.deeper _).units + 16 * k + 200; simp only [cxOf]; omega) this, rfl, _, ⟨_, _, rfl, rfl, rfl⟩, takesA_of tk⟩, passes_of (K := fun e s'' => L2.CX P w outer H s E e s'') rfl, tk, rfl, rfl⟩
    refine ⟨_, hbody cdv A outer s H E _ hr sx, ?_⟩
    obtain ⟨mu, ds, h, s', r, wp⟩ := hsp
    unfold runFn at wp
    split at wp
    · rename_i hl
      refine ⟨mu, _, h, s', hl ▸ RE.start (N := N) r, ?_⟩
      split at wp
      · rename_i q; rw [q]; exact fun mu' H' sg' e' s2 _ => wp mu' H' .non e' s2 .mk_non
      · rename_i q; rw [q]; exact wp
      · rename_i q; rw [q]; exact fun mu' H' sg' cls dd e' s2 _ rx => wp mu' H' cls dd e' s2 rx
      · exact wp.elim
    · exact wp.elim
/-- a def of which nothing is said -/
theorem fn_bad {k : Nat} {f : Addr} {fd : FuncData} {ps : List Str} : FnOk P w K mg base (L2.CX P w) k f fd ps (spOf G fun _ _ => .bad) :=
  ⟨fun vs H Q E ⟨_, _, _, _, _, z⟩ => z.elim, fun A outer s H args us vs Q E hr e0 hb r ⟨_, _, _, _, _, z⟩ => z.elim⟩
end
end MP
set_option Elab.async false
set_option linter.all false
set_option maxRecDepth 100000
/-! MP: what a def leaves is told again without its scraps; a list that nobody else holds is told as a value. -/
namespace MP
open PySem PySem.Spec PyProof.Rows L2

mutual
/-- Fz n h d' d: d, with the things from n on told as values, is d' -/
def Fz (n : Nat) (h : Th) : D → D → Prop
  | .non, d => d = .non
  | .bl b, d => d = .bl b
  | .int i, d => d = .int i
  | .str s, d => d = .str s
  | .tup l, d => ∃ l0, d = .tup l0 ∧ Fzs n h l l0
  | .lst l, d => (∃ l0, d = .lst l0 ∧ Fzs n h l l0) ∨ ∃ i l0, d = .ref i ∧ n ≤ i ∧ h[i]? = some (.lst l0) ∧ Fzs n h l l0
  | .frz l, d => ∃ l0, d = .frz l0 ∧ Fzs n h l l0
  | .ref i, d => d = .ref i ∧ i < n
def Fzs (n : Nat) (h : Th) : List D → List D → Prop
  | [], ds => ds = []
  | d :: ds, es => ∃ e r, es = e :: r ∧ Fz n h d e ∧ Fzs n h ds r
end
def FzF (n : Nat) (h : Th) : List (Str × D) → List (Str × D) → Prop
  | [], ds => ds = []
  | d :: ds, es => ∃ e r, es = (d.1, e) :: r ∧ Fz n h d.2 e ∧ FzF n h ds r
def FzO (n : Nat) (h : Th) (o' o : O) : Prop := match o' with
  | .lst l => ∃ l0, o = .lst l0 ∧ Fzs n h l l0
  | .dct _ => False
  | .ins c fs => ∃ fs0, o = .ins c fs0 ∧ FzF n h fs fs0
/-- the things h' are the first of h -/
def FzT (h' h : Th) : Prop := h'.length ≤ h.length ∧ ∀ (i : Nat) (o' : O), h'[i]? = some o' → ∃ o, h[i]? = some o ∧ FzO h'.length h o' o
def Mu.cut (m : Mu) (n : Nat) : Mu := ⟨m.m.take n, m.p⟩
theorem Mu.out_cut {m : Mu} {n : Nat} {a : Addr} (h : m.out a) : (m.cut n).out a := ⟨fun z => h.1 (List.mem_of_mem_take z), h.2⟩
section
variable {G : Cfg} {m : Mu} {H : Hp} {h : Th} {n : Nat}
mutual
theorem RV.fz (s : RS G m H h) : ∀ (d' d : D) (v : V), Fz n h d' d → RV G.K m H d v → RV G.K (m.cut n) H d' v
  | .non, d, v, z, r => by unfold Fz at z; subst z; unfold RV at *; exact r
  | .bl b, d, v, z, r => by unfold Fz at z; subst z; unfold RV at *; exact r
  | .int b, d, v, z, r => by unfold Fz at z; subst z; unfold RV at *; exact r
  | .str b, d, v, z, r => by unfold Fz at z; subst z; unfold RV at *; exact r
  | .tup l, d, v, z, r => by
    unfold Fz at z
    obtain ⟨l0, rfl, z⟩ := z
    unfold RV at *
    obtain ⟨a, vs, rfl, t, hz, r⟩ := r
    exact ⟨a, vs, rfl, t.elim (fun t => .inl ⟨t.1, Mu.out_cut t.2⟩) .inr, hz, RVs.fz s l l0 vs z r⟩
  | .frz l, d, v, z, r => by
    unfold Fz at z
    obtain ⟨l0, rfl, z⟩ := z
    unfold RV at *
    obtain ⟨a, vs, rfl, t, hz, r⟩ := r
    exact ⟨a, vs, rfl, t.elim (fun t => .inl ⟨t.1, Mu.out_cut t.2⟩) .inr, hz, RVs.fz s l l0 vs z r⟩
  | .lst l, d, v, z, r => by
    unfold Fz at z
    rcases z with ⟨l0, rfl, z⟩ | ⟨i, l0, rfl, hi, hl, z⟩
    · unfold RV at *
      obtain ⟨a, vs, rfl, t, hz, r⟩ := r
      exact ⟨a, vs, rfl, ⟨t.1, Mu.out_cut t.2⟩, hz, RVs.fz s l l0 vs z r⟩
    · obtain ⟨a, rfl, hm⟩ := r.ref_inv
      obtain ⟨a', vs, m', q, hz, r⟩ := s.lst hl
      rw [hm] at m'
      cases m'
      unfold RV
      refine ⟨a, vs, rfl, ⟨q, fun x => ?_, fun x => (s.pr a x).1 (List.mem_of_getElem? hm)⟩, hz, RVs.fz s l l0 vs z r⟩
      obtain ⟨j, hj, e⟩ := List.getElem_of_mem x
      have hj' : j < n := by
        have := hj
        simp [Mu.cut] at this
        omega
      have hjm : j < m.m.length := by
        have := hj
        simp [Mu.cut] at this
        omega
      have e2 : m.m[j]? = some a := by
        rw [List.getElem?_eq_getElem hjm, ← e]
        simp [Mu.cut]
      have := (List.getElem?_inj hjm s.nd).mp (e2.trans hm.symm)
      omega
  | .ref i, d, v, z, r => by
    unfold Fz at z
    obtain ⟨rfl, hi⟩ := z
    unfold RV at *
    obtain ⟨a, rfl, q⟩ := r
    refine ⟨a, rfl, ?_⟩
    show (m.m.take n)[i]? = some a
    rw [List.getElem?_take, if_pos hi, q]
theorem RVs.fz (s : RS G m H h) : ∀ (ds' ds : List D) (vs : List V), Fzs n h ds' ds → RVs G.K m H ds vs → RVs G.K (m.cut n) H ds' vs
  | [], ds, vs, z, r => by unfold Fzs at z; subst z; unfold RVs at *; exact r
  | d' :: ds', ds, vs, z, r => by
    unfold Fzs at z
    obtain ⟨d, ds, rfl, z1, z2⟩ := z
    unfold RVs at *
    obtain ⟨v, vs, rfl, r1, r2⟩ := r
    exact ⟨v, vs, rfl, RV.fz s d' d v z1 r1, RVs.fz s ds' ds vs z2 r2⟩
end
theorem RFs.fz (s : RS G m H h) : ∀ (ds' ds : List (Str × D)) (vs : List (Str × V)), FzF n h ds' ds → RFs G.K m H ds vs → RFs G.K (m.cut n) H ds' vs
  | [], ds, vs, z, r => by unfold FzF at z; subst z; unfold RFs at *; exact r
  | d' :: ds', ds, vs, z, r => by
    unfold FzF at z
    obtain ⟨d, ds, rfl, z1, z2⟩ := z
    unfold RFs at *
    obtain ⟨v, vs, rfl, r1, r2⟩ := r
    exact ⟨v, vs, rfl, RV.fz s d'.2 d v z1 r1, RFs.fz s ds' ds vs z2 r2⟩
theorem RS.fz {h' : Th} (s : RS G m H h) (z : FzT h' h) : RS G (m.cut h'.length) H h' := by
  obtain ⟨hl, z⟩ := z
  refine ⟨by show (m.m.take h'.length).length = _; rw [List.length_take, s.len]; omega, List.Nodup.sublist (List.take_sublist _ _) s.nd, fun i o' a h1 h2 => ?_, fun a ha => ⟨fun x => (s.pr a ha).1 (List.mem_of_mem_take x), (s.pr a ha).2⟩⟩
  have h2 : (m.m.take h'.length)[i]? = some a := h2
  obtain ⟨o, ho, zo⟩ := z i o' h1
  have hi : i < h'.length := (List.getElem?_eq_some_iff.mp h1).1
  rw [List.getElem?_take, if_pos hi] at h2
  have q := s.obj i o a ho h2
  cases o' with
  | lst l =>
    obtain ⟨l0, rfl, zo⟩ := zo
    obtain ⟨vs, q, hz, r⟩ := q
    exact ⟨vs, q, hz, RVs.fz s _ _ _ zo r⟩
  | dct _ => exact zo.elim
  | ins c fs =>
    obtain ⟨l0, rfl, zo⟩ := zo
    obtain ⟨dx, vs, q, r⟩ := q
    exact ⟨dx, vs, q, RFs.fz s _ _ _ zo r⟩
theorem Ext.cut {m0 : Mu} {H0 : Hp} {h0 : Th} (s0 : RS G m0 H0 h0) (e : Ext m0 H0 m H) (hn : h0.length ≤ n) : Ext m0 H0 (m.cut n) H := by
  obtain ⟨⟨t, ht⟩, p, hh, k, nw⟩ := e
  have hl := s0.len
  refine ⟨⟨t.take (n - m0.m.length), ?_⟩, p, hh, k, fun a ha => nw a (List.mem_of_mem_take ha)⟩
  show m.m.take n = _
  rw [ht, List.take_append, List.take_of_length_le (by omega)]
end
/-- r', told for r, from k things on -/
def Imp (k : Nat) (r r' : Res D) : Prop := match r' with
  | .ok d' h' => k ≤ h'.length ∧ ∃ d h, r = .ok d h ∧ FzT h' h ∧ Fz h'.length h d' d
  | .ex x' h' => k ≤ h'.length ∧ ∃ x h, r = .ex x h ∧ FzT h' h ∧ x'.c = x.c ∧ FzF h'.length h x'.fs x.fs
  | .bad => True
theorem FzF.nil_iff {n : Nat} {h : Th} {a b : List (Str × D)} (z : FzF n h a b) : b ≠ [] → a ≠ [] := by
  cases a with
  | nil => unfold FzF at z; subst z; exact id
  | cons => intro _; simp
theorem Wp.impR {G : Cfg} {W : WX} {mu : Mu} {sg : L2.St} {H : Hp} {h0 : Th} {r r' : Res D} {Q : V → Hp → Prop} (s0 : RS G mu H h0) (i : Imp h0.length r r') (w : Wp G W (RV G.K) mu sg H r' Q) : Wp G W (RV G.K) mu sg H r Q := by
  cases r' with
  | ok d' h' =>
    obtain ⟨hk, d, h, rfl, z1, z2⟩ := i
    exact fun mu' H' b e s rv => w (mu'.cut h'.length) H' b (e.cut s0 hk) (s.fz z1) (RV.fz s _ _ _ z2 rv)
  | ex x' h' =>
    obtain ⟨hk, x, h, rfl, z1, zc, z2⟩ := i
    refine fun mu' H' cls dd e s rx => w (mu'.cut h'.length) H' cls dd (e.cut s0 hk) (s.fz z1) ⟨by rw [zc]; exact rx.1, fun ne => ?_⟩
    have : x.fs ≠ [] := fun z => by
      rw [z] at z2
      cases q : x'.fs with
      | nil => exact ne q
      | cons _ _ =>
        rw [q] at z2
        unfold FzF at z2
        obtain ⟨_, _, z3, _⟩ := z2
        cases z3
    obtain ⟨a, vs, h1, h2, h3⟩ := rx.2 this
    exact ⟨a, vs, h1, h2, RFs.fz s _ _ _ z2 h3⟩
  | bad => exact w.elim
/-! ### what points at no scrap -/
def Low (n : Nat) (d : D) : Prop := ∀ h, Fz n h d d
def Lows (n : Nat) (l : List D) : Prop := ∀ d ∈ l, Low n d
def LowO (n : Nat) (o : O) : Prop := ∀ h, FzO n h o o
def LowT (h : Th) : Prop := ∀ (i : Nat) (o : O), h[i]? = some o → LowO h.length o
theorem Fzs.self {n : Nat} {h : Th} : ∀ {l : List D}, Lows n l → Fzs n h l l
  | [], _ => by unfold Fzs; rfl
  | d :: ds, q => by
    unfold Fzs
    exact ⟨d, ds, rfl, q d List.mem_cons_self h, Fzs.self fun x hx => q x (List.mem_cons_of_mem _ hx)⟩
@[simp] theorem Low.non {n : Nat} : Low n .non := fun _ => by unfold Fz; rfl
@[simp] theorem Low.bl {n : Nat} {b : Bool} : Low n (.bl b) := fun _ => by unfold Fz; rfl
@[simp] theorem Low.int {n : Nat} {i : Int} : Low n (.int i) := fun _ => by unfold Fz; rfl
@[simp] theorem Low.str {n : Nat} {s : Str} : Low n (.str s) := fun _ => by unfold Fz; rfl
theorem Low.tup {n : Nat} {l : List D} (q : Lows n l) : Low n (.tup l) := fun _ => by unfold Fz; exact ⟨l, rfl, Fzs.self q⟩
theorem Low.lst {n : Nat} {l : List D} (q : Lows n l) : Low n (.lst l) := fun _ => by unfold Fz; exact .inl ⟨l, rfl, Fzs.self q⟩
theorem Low.frz {n : Nat} {l : List D} (q : Lows n l) : Low n (.frz l) := fun _ => by unfold Fz; exact ⟨l, rfl, Fzs.self q⟩
theorem Low.ref {n i : Nat} (q : i < n) : Low n (.ref i) := fun _ => by unfold Fz; exact ⟨rfl, q⟩
theorem LowO.lst {n : Nat} {l : List D} (q : Lows n l) : LowO n (.lst l) := fun _ => ⟨l, rfl, Fzs.self q⟩
mutual
theorem RV.lowZ {K : PySem.W.Frag} {m : Mu} {H : Hp} {n : Nat} {h : Th} (hn : m.m.length ≤ n) : ∀ (d : D) (v : V), RV K m H d v → Fz n h d d
  | .non, v, r => by unfold Fz; rfl
  | .bl b, v, r => by unfold Fz; rfl
  | .int b, v, r => by unfold Fz; rfl
  | .str b, v, r => by unfold Fz; rfl
  | .tup l, v, r => by
    unfold RV at r
    obtain ⟨a, vs, rfl, t, hz, r⟩ := r
    unfold Fz
    exact ⟨l, rfl, RVs.lowZ hn l vs r⟩
  | .lst l, v, r => by
    unfold RV at r
    obtain ⟨a, vs, rfl, t, hz, r⟩ := r
    unfold Fz
    exact .inl ⟨l, rfl, RVs.lowZ hn l vs r⟩
  | .frz l, v, r => by
    unfold RV at r
    obtain ⟨a, vs, rfl, t, hz, r⟩ := r
    unfold Fz
    exact ⟨l, rfl, RVs.lowZ hn l vs r⟩
  | .ref i, v, r => by
    unfold RV at r
    obtain ⟨a, rfl, q⟩ := r
    unfold Fz
    exact ⟨rfl, Nat.lt_of_lt_of_le (List.getElem?_eq_some_iff.mp q).1 hn⟩
theorem RVs.lowZ {K : PySem.W.Frag} {m : Mu} {H : Hp} {n : Nat} {h : Th} (hn : m.m.length ≤ n) : ∀ (ds : List D) (vs : List V), RVs K m H ds vs → Fzs n h ds ds
  | [], vs, r => by unfold Fzs; rfl
  | d :: ds, vs, r => by
    unfold RVs at r
    obtain ⟨v, vs, rfl, r1, r2⟩ := r
    unfold Fzs
    exact ⟨d, ds, rfl, RV.lowZ hn d v r1, RVs.lowZ hn ds vs r2⟩
end
theorem RV.low {K : PySem.W.Frag} {m : Mu} {H : Hp} {n : Nat} (hn : m.m.length ≤ n) (d : D) (v : V) (r : RV K m H d v) : Low n d := fun _ => r.lowZ hn
theorem RVs.low {K : PySem.W.Frag} {m : Mu} {H : Hp} {n : Nat} (hn : m.m.length ≤ n) (ds : List D) (vs : List V) (r : RVs K m H ds vs) : Lows n ds := fun d hd => by
  obtain ⟨i, hi, e⟩ := List.getElem_of_mem hd
  obtain ⟨v, _, rv⟩ := r.get (show ds[i]? = some d by rw [List.getElem?_eq_getElem hi, e])
  exact RV.low hn _ _ rv
theorem RFs.low {K : PySem.W.Frag} {m : Mu} {H : Hp} {n : Nat} {h : Th} (hn : m.m.length ≤ n) : ∀ (ds : List (Str × D)) (vs : List (Str × V)), RFs K m H ds vs → FzF n h ds ds
  | [], vs, r => by unfold FzF; rfl
  | d :: ds, vs, r => by
    unfold RFs at r
    obtain ⟨v, vs, rfl, r1, r2⟩ := r
    unfold FzF
    exact ⟨d.2, ds, rfl, RV.low hn _ v r1 h, RFs.low hn ds vs r2⟩
theorem RS.low {G : Cfg} {m : Mu} {H : Hp} {h : Th} (s : RS G m H h) : LowT h := by
  intro i o hi
  have hl : m.m.length ≤ h.length := Nat.le_of_eq s.len
  obtain ⟨a, ha⟩ : ∃ a, m.m[i]? = some a := by
    have := (List.getElem?_eq_some_iff.mp hi).1
    exact ⟨_, List.getElem?_eq_getElem (by rw [s.len]; exact this)⟩
  have q := s.obj i o a hi ha
  cases o with
  | lst l =>
    obtain ⟨vs, _, _, r⟩ := q
    exact LowO.lst (RVs.low hl l vs r)
  | dct _ => exact q.elim
  | ins c fs =>
    obtain ⟨dx, vs, _, r⟩ := q
    exact fun h2 => ⟨fs, rfl, RFs.low hl fs vs r⟩
theorem FzT.more {h : Th} (l : LowT h) (t : Th) : FzT h (h ++ t) :=
  ⟨by simp, fun i o' e => ⟨o', by rw [List.getElem?_append_left (List.getElem?_eq_some_iff.mp e).1]; exact e, l i o' e _⟩⟩
theorem FzT.refl {h : Th} (l : LowT h) : FzT h h := by simpa using FzT.more l []
theorem LowT.set {h : Th} (l : LowT h) {n : Nat} {o : O} (q : LowO h.length o) : LowT (h.set n o) := by
  intro i o' e
  rw [List.length_set]
  by_cases hi : i = n
  · subst hi
    have hl : i < h.length := by
      have := (List.getElem?_eq_some_iff.mp e).1
      simpa using this
    rw [List.getElem?_set_self hl] at e
    cases e
    exact q
  · rw [List.getElem?_set_ne (Ne.symm hi)] at e
    exact l i o' e
theorem FzF.grow {n n' : Nat} {h h' : Th} : ∀ {a b : List (Str × D)}, (∀ d d', Fz n h d d' → Fz n' h' d d') → FzF n h a b → FzF n' h' a b
  | [], b, _, z => by unfold FzF at *; exact z
  | p :: ps, b, q, z => by
    unfold FzF at *
    obtain ⟨e, r, rfl, z1, z2⟩ := z
    exact ⟨e, r, rfl, q _ _ z1, FzF.grow q z2⟩
mutual
theorem Fz.grow {n n' : Nat} {h : Th} (hn : n ≤ n') : ∀ (d : D), Fz n h d d → Fz n' h d d
  | .non, z => by unfold Fz at *; exact z
  | .bl b, z => by unfold Fz at *; exact z
  | .int b, z => by unfold Fz at *; exact z
  | .str b, z => by unfold Fz at *; exact z
  | .tup l, z => by
    unfold Fz at *
    obtain ⟨l0, e, z⟩ := z
    cases e
    exact ⟨l, rfl, Fzs.grow hn l z⟩
  | .frz l, z => by
    unfold Fz at *
    obtain ⟨l0, e, z⟩ := z
    cases e
    exact ⟨l, rfl, Fzs.grow hn l z⟩
  | .lst l, z => by
    unfold Fz at *
    rcases z with ⟨l0, e, z⟩ | ⟨i, l0, e, _⟩
    · cases e
      exact .inl ⟨l, rfl, Fzs.grow hn l z⟩
    · cases e
  | .ref i, z => by
    unfold Fz at *
    exact ⟨rfl, Nat.lt_of_lt_of_le z.2 hn⟩
theorem Fzs.grow {n n' : Nat} {h : Th} (hn : n ≤ n') : ∀ (d : List D), Fzs n h d d → Fzs n' h d d
  | [], z => by unfold Fzs at *; exact z
  | d :: ds, z => by
    unfold Fzs at *
    obtain ⟨e, r, e1, z1, z2⟩ := z
    cases e1
    exact ⟨d, ds, rfl, Fz.grow hn d z1, Fzs.grow hn ds z2⟩
end
theorem Low.grow {n n' : Nat} (hn : n ≤ n') {d : D} (l : Low n d) : Low n' d := fun h => Fz.grow hn d (l h)
theorem Lows.grow {n n' : Nat} (hn : n ≤ n') {l : List D} (q : Lows n l) : Lows n' l := fun d hd => (q d hd).grow hn
theorem imp_ok {k : Nat} {r : Res D} {d : D} {h h' : Th} (hk : k ≤ h'.length) (hr : r = .ok d h) (z : FzT h' h) (l : Low h'.length d) : Imp k r (.ok d h') := ⟨hk, d, h, hr, z, l h⟩
theorem imp_lst {k i : Nat} {r : Res D} {l : List D} {h h' : Th} (hk : k ≤ h'.length) (hr : r = .ok (.ref i) h) (hi : h'.length ≤ i) (hl : h[i]? = some (.lst l)) (z : FzT h' h) (q : Lows h'.length l) : Imp k r (.ok (.lst l) h') :=
  ⟨hk, _, h, hr, z, by unfold Fz; exact .inr ⟨i, l, rfl, hi, hl, Fzs.self q⟩⟩
theorem imp_ex {k : Nat} {r : Res D} {c : Str} {h h' : Th} (hk : k ≤ h'.length) (hr : r = .ex ⟨c, []⟩ h) (z : FzT h' h) : Imp k r (.ex ⟨c, []⟩ h') := ⟨hk, ⟨c, []⟩, h, hr, z, rfl, by show FzF _ _ [] []; unfold FzF; rfl⟩
section
variable {P : Program} {w : World} {K : PySem.W.Frag} {mg : Str → Option Value} {base : Heap} {G : Cfg}
theorem fn_imp {k : Nat} {f : Addr} {fd : FuncData} {ps : List Str} {g g' : List D → Th → Res D} (F : FnOk P w K mg base (L2.CX P w) k f fd ps (spOf G g)) (hi : ∀ ds h, LowT h → Lows h.length ds → Imp h.length (g ds h) (g' ds h)) : FnOk P w K mg base (L2.CX P w) k f fd ps (spOf G g') :=
  F.imp fun vs H Q E ⟨mu, ds, h, s, r, wp⟩ => ⟨mu, ds, h, s, r, wp.impR s (hi ds h s.low (RVs.low (Nat.le_of_eq s.len) _ _ r))⟩
end
end MP
set_option Elab.async false
set_option linter.all false
set_option maxRecDepth 100000
/-! MP: one's own defs by name; blocks by a look; what the head tells. -/
namespace MP
open PySem PySem.Spec PyProof.Rows L2

section
variable {X : Cx} {G : Cfg} {W : WX} {e a b : Expr} {pos p p2 : Pos} {x : Str}
def negD (d : D) (h : Th) : Res D := match d with
  | .int i => .ok (.int (-i)) h
  | _ => .bad
def negE (m : DE) : DE := fun rho h => (m rho h).bind negD
theorem de_neg {m : DE} (h : PE X a (tE G W m)) : PE X (.UnaryOp .USub a pos) (tE G W (negE m)) := by
  refine pe_imp (pe_un un_neg h) fun sg H Q t => ?_
  obtain ⟨mu, rho, th, s, e, w⟩ := tG.bind (m2 := fun d _ h => negD d h) (R := RV G.K) t
  refine ⟨mu, rho, th, s, e, w.imp fun x H1 q => ?_⟩
  obtain ⟨mu1, rho1, h1, d, s1, e1, r1, w1⟩ := q
  unfold negD at w1
  split at w1
  · exact ⟨_, r1.int_inv, w1.ok s1 .mk_int⟩
  · exact w1.elim
theorem de_gI {i : Int} (hm : ∃ t, X.mg x = some (.int i t)) (hg : Gl X x := by rfl) (hd : (x == ("__debug__" : Str)) = false := by decide) : PE X (.Name x pos) (tE G W (constE (.int i))) := by
  obtain ⟨t, hm⟩ := hm
  exact de_gint hg hm hd
theorem de_gS {z : Str} (hm : ∃ t, X.mg x = some (.str z t)) (hg : Gl X x := by rfl) (hd : (x == ("__debug__" : Str)) = false := by decide) : PE X (.Name x pos) (tE G W (constE (.str z))) := by
  obtain ⟨t, hm⟩ := hm
  exact de_gstr hg hm hd
/-- the local in slot i -/
theorem dv (i : Nat) (hN : X.N[i]? = some x := by rfl) (hv : Vis X.env.scope x := by first | exact Or.inl rfl | exact Or.inr (Or.inl rfl) | exact Or.inr (Or.inr rfl)) (hd : (x == ("__debug__" : Str)) = false := by decide)
    (hcd : (x == ("__classdict__" : Str)) = false := by decide) : PE X (.Name x pos) (tE G W (varE i)) := de_var i (pv i hN hv hd hcd)
end

/-! ### blocks -/
def blkB (N : List Str) (sc scope : Scope) (own : List (Str × Nat)) : Bool :=
  decide (scope.kind = .function) && (scope.names.all (fun y => decide (scope.names.lookup y.1 = some y.2)) && (own.all (fun p => decide (N[p.2]? = some p.1)) &&
    (scope.names.all (fun y => !decide (y.2 = .free) || (decide (sc.names.lookup y.1 = some .cell) || decide (sc.names.lookup y.1 = some .free))) &&
      scope.names.all (fun y => !(decide (y.2 = .local) || decide (y.2 = .cell)) || (decide (y.1 ∈ own.map (·.1)) || !decide (y.1 ∈ N))))))
theorem blk_ok {N : List Str} {sc scope : Scope} {own : List (Str × Nat)} (h : blkB N sc scope own = true) : BlkOk N sc scope own := by
  unfold blkB at h
  simp only [Bool.and_eq_true, List.all_eq_true, decide_eq_true_eq, Bool.or_eq_true, Bool.not_eq_true', decide_eq_false_iff_not] at h
  obtain ⟨h1, h2, h3, h4, h5⟩ := h
  refine ⟨h1, h2, h3, fun y hy e => ?_, fun y hy e => ?_⟩
  · rcases h4 y hy with z | z
    · exact absurd e z
    · exact z
  · rcases h5 y hy with z | z
    · rcases e with e | e <;> simp [e] at z
    · exact z

/-! ### one's own defs -/
section
variable (P : Program) (w : World) (K : PySem.W.Frag) (mg : Str → Option Value) (base : Heap)
abbrev gK : Cfg := ⟨K, He.ga K⟩
/-- where a function object stands -/
def Loo (K : PySem.W.Frag) (f : Addr) (fd : FuncData) : Prop := ∃ oc od osl, K.lookup f = some ⟨oc, od, .func fd, osl⟩
/-- the def called x does what g says -/
def Does (k : Nat) (x : Str) (ps : List Str) (g : List D → Th → Res D) : Prop :=
  ∃ (f : Addr) (fd : FuncData), FnOk P w K mg base (L2.CX P w) k f fd ps (spOf (gK K) g) ∧ mg x = some (.ref f) ∧ PySem.W.keepIn K (.ref f) = true ∧ Binds K fd ps [] ∧ Loo K f fd
/-- the def called x stands as the text has it -/
def Stands (x : Str) (st : Stmt) (ps : List Str) : Prop :=
  ∃ (f : Addr) (fd : FuncData), FunD K x x (defArgs st) (defBody st) (defScope st) [] [] f fd ∧ mg x = some (.ref f) ∧ (∀ (s : Shared) (us : List Value), us.length = ps.length → BindsTo s fd ⟨us, []⟩ (ps.zip us))
theorem FunDloo {K : PySem.W.Frag} {x qual : Str} {params : Arguments} {body : List Stmt} {scope : Scope} {dvs : List V} {kws : List (Str × V)} {f : Addr} {fd : FuncData} (F : FunD K x qual params body scope dvs kws f fd) : Loo K f fd := by
  obtain ⟨oc, od, dV, kV, doc, pm, an, cdv, ct, osl, e, lk, _⟩ := F.ex
  exact ⟨_, _, _, lk⟩
theorem bindsOf {K : PySem.W.Frag} {fd : FuncData} {ps : List Str} (h : ∀ (s : Shared) (us : List Value), us.length = ps.length → BindsTo s fd ⟨us, []⟩ (ps.zip us)) : Binds K fd ps [] := fun s us _ hl => by
  rw [List.append_nil] at hl ⊢
  exact h s us hl
end
section
variable {P : Program} {w : World} {K : PySem.W.Frag} {mg : Str → Option Value} {base : Heap}
theorem Does.mono {j k : Nat} {x : Str} {ps : List Str} {g : List D → Th → Res D} (d : Does P w K mg base j x ps g) (h : j ≤ k) : Does P w K mg base k x ps g := by
  obtain ⟨f, fd, F, r⟩ := d
  exact ⟨f, fd, F.mono h, r⟩
theorem Does.imp {k : Nat} {x : Str} {ps : List Str} {g g' : List D → Th → Res D} (d : Does P w K mg base k x ps g) (h : ∀ ds h, LowT h → Lows h.length ds → Imp h.length (g ds h) (g' ds h)) : Does P w K mg base k x ps g' := by
  obtain ⟨f, fd, F, r⟩ := d
  exact ⟨f, fd, fn_imp F h, r⟩
theorem Stands.bad {k : Nat} {x : Str} {st : Stmt} {ps : List Str} (s : Stands K mg x st ps) : Does P w K mg base k x ps (fun _ _ => .bad) := by
  obtain ⟨f, fd, F, hm, b⟩ := s
  exact ⟨f, fd, fn_bad, hm, F.kp, bindsOf b, FunDloo F⟩
theorem Stands.does {k : Nat} {x : Str} {st : Stmt} {N ps : List Str} {body : DS} (s : Stands K mg x st ps) (S : FnScope N ps (defScope st))
    (hbody : ∀ (f : Addr) (cdv : Value) (A : Around) (outer : List Env) (s : Shared) (H : Hp) (E : XK) (W : WX), Room k (A.deeper (envOfC x (defScope st) s.heap.objs.size f cdv)) → Sx (cxOf (L2.CX P w) P w K mg base N x (defScope st) f cdv A outer s H E) (gK K) W →
      PSs (cxOf (L2.CX P w) P w K mg base N x (defScope st) f cdv A outer s H E) (defBody st) (tS (gK K) W body)) : Does P w K mg base (k + 1) x ps (runFn N.length ps.length body) := by
  obtain ⟨f, fd, F, hm, b⟩ := s
  refine ⟨f, fd, ?_, hm, F.kp, bindsOf b, FunDloo F⟩
  refine F.ok S (fun vs H Q E ⟨mu, ds, h, s, r, wp⟩ => ?_) fun cdv A outer s H vs Q E hr hsp => ?_
  · unfold runFn at wp
    split at wp
    · rename_i hl; rw [r.length, hl]
    · exact wp.elim
  · have tk : Takes (cxOf (L2.CX P w) P w K mg base N x (defScope st) f cdv A outer s H E) (fun cls d _ H => E cls d H) := takes_of rfl rfl rfl rfl
    have sx : Sx (cxOf (L2.CX P w) P w K mg base N x (defScope st) f cdv A outer s H E) (gK K) (fun cls d _ H => E cls d H) :=
      ⟨⟨rfl, by have := hr.un; show _ + 70 < _; exact Nat.lt_of_le_of_lt (by show _ ≤ (A.deeper _).units + 16 * k + 200; simp only [cxOf]; omega) this, rfl, _, ⟨_, _, rfl, rfl, rfl⟩, takesA_of tk⟩, passes_of (K := fun e s'' => L2.CX P w outer H s E e s'') rfl, tk, rfl, rfl⟩
    refine ⟨_, hbody f cdv A outer s H E _ hr sx, ?_⟩
    obtain ⟨mu, ds, h, s', r, wp⟩ := hsp
    unfold runFn at wp
    split at wp
    · rename_i hl
      refine ⟨mu, _, h, s', hl ▸ RE.start (N := N) r, ?_⟩
      split at wp
      · rename_i q; rw [q]; exact fun mu' H' sg' e' s2 _ => wp mu' H' .non e' s2 .mk_non
      · rename_i q; rw [q]; exact wp
      · rename_i q; rw [q]; exact fun mu' H' sg' cls dd e' s2 _ rx => wp mu' H' cls dd e' s2 rx
      · exact wp.elim
    · exact wp.elim
end
/-- a call of one's own -/
theorem dc {X : Cx} {G : Cfg} {W : WX} {e : Expr} {pos p : Pos} {x : Str} {es : List Expr} {ms : DA} {k : Nat} {ps : List Str} {g : List D → Th → Res D} (c : Ctx X G W) (hr : Room k X.A) (d : Does X.prog X.w X.K X.mg X.base k x ps g) (hG : gK X.K = G) (ha : PA X (e :: es) (tA G W ms))
    (hg : Gl X x := by rfl) (hdb : (x == ("__debug__" : Str)) = false := by decide)
    (he : starEach (e :: es) X.env = (false, eval e X.env) :: starEach es X.env := by rfl) (hpl : (backTo pos (starEach es X.env)).any (·.1) = false := by rfl) :
    PE X (.Call (.Name x p) (e :: es) [] pos) (tE G W (callE g ms)) := by
  obtain ⟨f, fd, F, hm, hk, hb, _⟩ := d
  subst hG
  exact de_call c F hr hg hm hk hb ha hdb he hpl

/-! ### the law -/
theorem CX_none {P : Program} {w : World} {outer : List Env} {H : Hp} {s : Shared} {e : Value} {s' : Shared} (h : L2.CX P w outer H s (fun _ _ _ => False) e s') : False := by
  obtain ⟨_, _, _, _, _, _, _, _, _, _, _, _, z⟩ := h
  exact z
theorem law_start {K : PySem.W.Frag} {H : Hp} {a : Addr} {ns : List Int} (h : SqL K H a (ns.map V.int)) (hl : ns.length ≤ 16777216) {E : XK} {g : List D → Th → Res D} (hg : ∃ d h', g [.frz (ns.map D.int)] [] = .ok d h' ∧ d = .bl true) :
    spOf (gK K) g [.ref a] H (fun v _ => v = .bl true) E := by
  obtain ⟨d, h', e, rfl⟩ := hg
  refine ⟨⟨[], []⟩, [.frz (ns.map D.int)], [], ⟨rfl, List.nodup_nil, fun i o a h => by simp at h, fun a h => by simp at h⟩, ?_, ?_⟩
  · have ri : ∀ ns : List Int, RVs K ⟨[], []⟩ H (ns.map D.int) (ns.map V.int) := by
      intro ns
      induction ns with
      | nil => exact RVs.nil
      | cons n ns ih => exact RVs.cons .mk_int ih
    refine RVs.one ?_
    unfold RV
    refine ⟨a, _, rfl, ?_, ?_, ri ns⟩
    · rcases h with h | h
      · exact .inl ⟨h, by simp [Mu.out]⟩
      · exact .inr h
    · rw [List.length_map, line_eq]; exact hl
  · rw [e]
    exact fun mu' H' b _ _ r => r.bl_inv
theorem walk_mp {l : PySem.W.OpenLaw} {n k : Nat} {q : Program} {loose : List Str} {XP : (Str → Option Value) → Heap → Prop} {YP : World → Heap → Prop} {d : DefRec} {x : Str}
    (hn : l.most = some n) (hn2 : n ≤ 16777216) (hdf : d.params.defaults = []) (hr : Room k callerA)
    (F : ∀ (w : World) (mg : Str → Option Value) (h : Heap), YP w h → h.Ns mainGlobals mg →
      ∃ (K : PySem.W.Frag) (st : Stmt) (g : List D → Th → Res D), K.In h ∧ Stands K mg d.name st [x] ∧ (∀ ns : List Int, ns.length ≤ n → ∃ d h', g [.frz (ns.map D.int)] [] = .ok d h' ∧ d = .bl true) ∧
        ∀ base : Heap, K.In base → base.Ns mainGlobals mg → Does l.prog w K mg base k d.name [x] g) :
    PySem.W.WalkO q loose XP YP l.row.toRowW d [] (fun f vs => PySem.call f vs) := by
  have hn3 : n ≤ sizeLine := by rw [line_eq]; exact hn2
  refine Att.attach_call hn hdf fun w s₀ s₁ mg mb fa o pm cd doc a vs ns G Y ho hd hcd hmg hobj hints hlen hg => ?_
  obtain ⟨K, st, g, KX, ⟨f, fd, F1, hm, hb⟩, hg2, hF⟩ := F w mg _ Y G.T.g
  have ef : f = fa := by
    have := hm.symm.trans hmg
    simpa using this
  subst ef
  refine law_call (CX := L2.CX l.prog w) (sp := spOf (gK K) g) (fd := fd) KX G.T.g G.T.b G.T.builtins G.T.nolimit hg hobj hints (Nat.le_trans hlen hn3) hr (fun base kb nb => ?_) (fun s v => hb s [v] rfl) (fun H hO hS => law_start hS (Nat.le_trans hlen hn2) (hg2 ns hlen)) fun H e s' => CX_none
  obtain ⟨f', fd', F', hm', _, _, oc, od, osl, lk'⟩ := hF base kb nb
  obtain ⟨oc1, od1, osl1, lk1⟩ := FunDloo F1
  have ef : f' = f := by
    have := hm'.symm.trans hm
    simpa using this
  subst ef
  rw [lk1] at lk'
  injection lk' with lk'
  injection lk' with _ _ e1 _
  injection e1 with e1
  subst e1
  exact F'
end MP
namespace MP
open PySem PySem.Spec PyProof.Rows L2
/-- what the head tells of an own exception class -/
structure ExOk (K : PySem.W.Frag) (mg : Str → Option Value) (c : Str) : Prop where
  g : mg c = some (.ref (He.ga K c))
  q : PySem.W.excIn K (He.ga K c) He.veBase "ValueError.__new__" = true
  k : PySem.W.keepIn K (.ref (He.ga K c)) = true
  s : PySem.W.subIn K (.ref (He.ga K c)) (.type "BaseException") = some true
  t : PySem.W.typeIn K (.ref (He.ga K c)) = some (.type "type")
theorem dr {X : Cx} {G : Cfg} {W : WX} {p pos pos' : Pos} {c : Str} (S : Sx X G W) (e : ExOk X.K X.mg c) (hG : gK X.K = G) (hg : Gl X c := by rfl) (hdb : (c == ("__debug__" : Str)) = false := by decide) :
    PS X (.Raise (some (.Call (.Name c p) [] [] pos)) none pos') (tS G W (raiseS c)) := by
  subst hG
  exact ds_raise0 S rfl (pmk_own0 PySem.F.excBase_ValueError e.q e.g e.k (raises_own e.s e.t) hg hdb)
def mtL (l : List (Str × Bool)) (n : Str) : Option Bool := l.lookup n
theorem mt_ok {K : PySem.W.Frag} {c : Value} {l : List (Str × Bool)} (h : ∀ p ∈ l, PySem.W.exmOne K (.ref (He.ga K p.1)) c = some p.2) (n : Str) (b : Bool) (e : mtL l n = some b) : PySem.W.exmOne K (.ref ((gK K).cl n)) c = some b := by
  unfold mtL at e
  exact h (n, b) (PySem.mem_of_lookup e)
end MP
set_option Elab.async false
set_option linter.all false
set_option maxRecDepth 100000
/-! MP: denotations, evaluated. -/
namespace MP
open PySem PySem.Spec PyProof.Rows L2

/-! ### statements -/
def SR.thn (r : SR) (m : DS) : SR := match r with
  | .nx rho h => m rho h
  | r => r
@[simp] theorem thn_nx (rho : Ro) (h : Th) (m : DS) : (SR.nx rho h).thn m = m rho h := rfl
@[simp] theorem thn_rt (d : D) (h : Th) (m : DS) : (SR.rt d h).thn m = .rt d h := rfl
@[simp] theorem thn_bk (rho : Ro) (h : Th) (m : DS) : (SR.bk rho h).thn m = .bk rho h := rfl
@[simp] theorem thn_ct (rho : Ro) (h : Th) (m : DS) : (SR.ct rho h).thn m = .ct rho h := rfl
@[simp] theorem thn_ex (x : Exn) (rho : Ro) (h : Th) (m : DS) : (SR.ex x rho h).thn m = .ex x rho h := rfl
@[simp] theorem thn_bad (m : DS) : (SR.bad).thn m = .bad := rfl
section
variable (a b : DS) (m m1 m2 m3 : DE) (t t1 t2 : DT) (rho : Ro) (h : Th) (ms : DA) (i : Nat)
@[simp] theorem ap_seqS : seqS a b rho h = (a rho h).thn b := by unfold seqS SR.thn; cases a rho h <;> rfl
@[simp] theorem ap_skipS : skipS rho h = .nx rho h := rfl
@[simp] theorem ap_exprS : exprS m rho h = (m rho h).toS rho fun _ h1 => .nx rho h1 := rfl
@[simp] theorem ap_retS : retS m rho h = (m rho h).toS rho fun d h1 => .rt d h1 := rfl
@[simp] theorem ap_retN : retN rho h = .rt .non h := rfl
@[simp] theorem ap_brkS : brkS rho h = .bk rho h := rfl
@[simp] theorem ap_cntS : cntS rho h = .ct rho h := rfl
@[simp] theorem ap_raiseS (c : Str) : raiseS c rho h = .ex ⟨c, []⟩ rho h := rfl
@[simp] theorem ap_ifS : ifS t a b rho h = (t rho h).toS rho fun c h1 => if c = true then a rho h1 else b rho h1 := rfl
@[simp] theorem ap_asgN : asgS (nameG i) m rho h = (m rho h).toS rho fun d h1 => .nx (rho.set i (some d)) h1 := rfl
def gNx (r : Option Ro) (h : Th) : SR := match r with
  | some rho => .nx rho h
  | none => .bad
@[simp] theorem gNx_some (h : Th) : gNx (some rho) h = .nx rho h := rfl
@[simp] theorem ap_asgT (n : Nat) (gs : List D → Ro → Option Ro) : asgS (tupG n gs) m rho h = (m rho h).toS rho fun d h1 => gNx (tupG n gs d rho) h1 := rfl
@[simp] theorem ap_tupG (n : Nat) (gs : List D → Ro → Option Ro) (l : List D) : tupG n gs (.tup l) rho = if l.length = n then gs l rho else none := rfl
@[simp] theorem ap_consG (g : DG) (gs : List D → Ro → Option Ro) (d : D) (ds : List D) : consG g gs (d :: ds) rho = (g d rho).bind (gs ds) := rfl
@[simp] theorem ap_nilG : nilG [] rho = some rho := rfl
@[simp] theorem ap_nameG (d : D) : nameG i d rho = some (rho.set i (some d)) := rfl
@[simp] theorem ap_asgSub (g : D → D → D → Th → Res D) (m mo mi : DE) : asgSub g m mo mi rho h = ((m rho h).bind fun z h1 => (mo rho h1).bind fun x h2 => (mi rho h2).bind fun y h3 => g x y z h3).toS rho fun _ h4 => .nx rho h4 := rfl
@[simp] theorem bind_toS {α β : Type} (r : Res α) (k : α → Th → Res β) (k2 : β → Th → SR) : (r.bind k).toS rho k2 = r.toS rho fun x h1 => (k x h1).toS rho k2 := by cases r <;> rfl

/-! ### expressions -/
def oo (o : Option (Option D)) (h : Th) : Res D := match o with
  | some (some d) => .ok d h
  | _ => .bad
@[simp] theorem oo_some (d : D) : oo (some (some d)) h = .ok d h := rfl
@[simp] theorem ap_var : varE i rho h = oo rho[i]? h := by
  unfold varE oo
  rfl
@[simp] theorem ap_const (d : D) : constE d rho h = .ok d h := rfl
@[simp] theorem ap_nilA : nilA rho h = .ok [] h := rfl
@[simp] theorem ap_consA : consA m ms rho h = (m rho h).bind fun d h1 => (ms rho h1).bind fun ds h2 => .ok (d :: ds) h2 := rfl
@[simp] theorem ap_tupE : tupE ms rho h = (ms rho h).bind tupD := rfl
@[simp] theorem ap_lstE : lstE ms rho h = (ms rho h).bind lstD := rfl
@[simp] theorem ap_newLE : newLE ms rho h = (ms rho h).bind newLD := rfl
@[simp] theorem ap_callE (f : List D → Th → Res D) : callE f ms rho h = (ms rho h).bind fun ds h1 => f ds h1 := rfl
@[simp] theorem ap_binE (g : D → D → Th → Res D) : binE g m1 m2 rho h = (m1 rho h).bind fun x h1 => (m2 rho h1).bind fun y h2 => g x y h2 := rfl
@[simp] theorem ap_truT : truT m rho h = (m rho h).bind truD := rfl
@[simp] theorem ap_boolT : boolT m rho h = (m rho h).bind blD := rfl
@[simp] theorem ap_notT : notT t rho h = (t rho h).bind fun b h1 => .ok (!b) h1 := rfl
@[simp] theorem ap_andT : andT t1 t2 rho h = (t1 rho h).bind fun b h1 => if b = true then t2 rho h1 else .ok false h1 := rfl
@[simp] theorem ap_orT : orT t1 t2 rho h = (t1 rho h).bind fun b h1 => if b = true then .ok true h1 else t2 rho h1 := rfl
def andK (d : D) (h : Th) (k : Th → Res D) : Res D := match d with
  | .bl true => k h
  | .bl false => .ok (.bl false) h
  | _ => .bad
@[simp] theorem andK_bl (c : Bool) (k : Th → Res D) : andK (.bl c) h k = if c = true then k h else .ok (.bl false) h := by cases c <;> rfl
@[simp] theorem ap_andE : andE m1 m2 rho h = (m1 rho h).bind fun d h1 => andK d h1 (m2 rho) := rfl
def orK (d : D) (h : Th) (k : Th → Res D) : Res D := match d with
  | .bl false => k h
  | .bl true => .ok (.bl true) h
  | _ => .bad
@[simp] theorem orK_bl (c : Bool) (k : Th → Res D) : orK (.bl c) h k = if c = true then .ok (.bl true) h else k h := by cases c <;> rfl
@[simp] theorem ap_orE : orE m1 m2 rho h = (m1 rho h).bind fun d h1 => orK d h1 (m2 rho) := by
  unfold orE orK
  cases m1 rho h with
  | ok d h1 => cases d <;> first | rfl | (rename_i c; cases c <;> rfl)
  | ex => rfl
  | bad => rfl
@[simp] theorem ap_notE : notE m rho h = (m rho h).bind notD := rfl
@[simp] theorem ap_notD (c : Bool) : notD (.bl c) h = .ok (.bl (!c)) h := rfl
@[simp] theorem ap_blD (c : Bool) : blD (.bl c) h = .ok c h := rfl
@[simp] theorem ap_truD_bl (c : Bool) : truD (.bl c) h = .ok c h := rfl
@[simp] theorem ap_truD_non : truD .non h = .ok false h := rfl
@[simp] theorem ap_truD_int (i : Int) : truD (.int i) h = .ok (i != 0) h := rfl
@[simp] theorem ap_truD_tup (l : List D) : truD (.tup l) h = .ok (!l.isEmpty) h := rfl
@[simp] theorem ap_truD_lst (l : List D) : truD (.lst l) h = .ok (!l.isEmpty) h := rfl
@[simp] theorem ap_ifE : ifE t m1 m2 rho h = (t rho h).bind fun b h1 => if b = true then m1 rho h1 else m2 rho h1 := rfl
@[simp] theorem ap_negE : negE m rho h = (m rho h).bind negD := rfl
@[simp] theorem ap_negD (i : Int) : negD (.int i) h = .ok (.int (-i)) h := rfl
def chainK (d : D) (h : Th) (k : Th → Res D) : Res D := match d with
  | .bl true => k h
  | .bl false => .ok (.bl false) h
  | _ => .bad
@[simp] theorem chainK_bl (c : Bool) (k : Th → Res D) : chainK (.bl c) h k = if c = true then k h else .ok (.bl false) h := by cases c <;> rfl
@[simp] theorem ap_chainE (g1 g2 : D → D → Th → Res D) : chainE g1 g2 m1 m2 m3 rho h = (m1 rho h).bind fun x h1 => (m2 rho h1).bind fun y h2 => (g1 x y h2).bind fun d h3 => chainK d h3 fun h3 => (m3 rho h3).bind fun z h4 => g2 y z h4 := rfl
@[simp] theorem ap_isiE (T : String) : isiE T m rho h = (m rho h).bind (isiD T) := rfl
@[simp] theorem ap_sliceE (lo hi : DO) : sliceE m lo hi rho h = (m rho h).bind fun x h1 => (lo rho h1).bind fun l h2 => (hi rho h2).bind fun u h3 => sliceD x l u h3 := rfl
@[simp] theorem ap_noP : noP rho h = .ok none h := rfl
def intO (d : D) (h : Th) : Res (Option Int) := match d with
  | .int i => .ok (some i) h
  | _ => .bad
@[simp] theorem intO_int (i : Int) : intO (.int i) h = .ok (some i) h := rfl
@[simp] theorem ap_someP : someP m rho h = (m rho h).bind intO := rfl
def lK (o : Option (List D)) (k : Res D) : Res D := match o with
  | some _ => k
  | none => .bad
@[simp] theorem lK_some (l : List D) (k : Res D) : lK (some l) k = k := rfl
@[simp] theorem ap_methL (g : D → List D → Th → Res D) : methL g m ms rho h = (m rho h).bind fun x h1 => lK (thListD h1 x) ((ms rho h1).bind fun xs h2 => g x xs h2) := by
  unfold methL lK
  rfl
def sK (d : D) (k : Str → Res D) : Res D := match d with
  | .str z => k z
  | _ => .bad
@[simp] theorem sK_str (z : Str) (k : Str → Res D) : sK (.str z) k = k z := rfl
@[simp] theorem ap_methS (g : Str → D → Th → Res D) : methS g m m1 rho h = (m rho h).bind fun x h1 => sK x fun z => (m1 rho h1).bind fun y h2 => g z y h2 := by
  unfold methS sK
  rfl
@[simp] theorem ap_lcE (mi : DI) (g : DG) (vs : List Nat) : lcE mi g t m vs rho h = (mi rho h).bind fun src h1 => (lcGo src g t m (wipeR rho vs) src.l h1).bind lstN := rfl
@[simp] theorem ap_lstN (l : List D) : lstN l h = .ok (.lst l) h := rfl
@[simp] theorem ap_yesT : yesT rho h = .ok true h := rfl
@[simp] theorem ap_srcE : srcE m rho h = (m rho h).bind srcD := rfl
@[simp] theorem ap_rangeE (f : List D → Th → Res Src) : rangeE f ms rho h = (ms rho h).bind f := rfl
@[simp] theorem ap_forS (mi : DI) (g : DG) : forS mi g b rho h = (mi rho h).toS rho fun src h1 => forGo src g b src.l rho h1 := rfl
@[simp] theorem ap_wipe0 : wipeR rho [] = rho := rfl
@[simp] theorem ap_wipe1 (v : Nat) (vs : List Nat) : wipeR rho (v :: vs) = (wipeR rho vs).set v none := rfl

/-! ### values -/
variable (l k : List D) (x y : D) (i j : Int) (z s : Str)
@[simp] theorem ap_tupD : tupD l h = if l.length ≤ 16777216 then .ok (.tup l) h else .bad := rfl
@[simp] theorem ap_lstD : lstD l h = if l.length ≤ 16777216 then .ok (.lst l) h else .bad := rfl
@[simp] theorem ap_newLD : newLD l h = if l.length ≤ 16777216 then .ok (.ref h.length) (h ++ [.lst l]) else .bad := rfl
@[simp] theorem addD_int : addD (.int i) (.int j) h = .ok (.int (i + j)) h := rfl
@[simp] theorem addD_str : addD (.str z) (.str s) h = if z.length + s.length ≤ 16777216 then .ok (.str (z ++ s)) h else .bad := rfl
@[simp] theorem addD_tup : addD (.tup l) (.tup k) h = if l.length + k.length ≤ 16777216 then .ok (.tup (l ++ k)) h else .bad := rfl
@[simp] theorem addD_lst : addD (.lst l) (.lst k) h = if l.length + k.length ≤ 16777216 then .ok (.lst (l ++ k)) h else .bad := rfl
@[simp] theorem subD_int : subD (.int i) (.int j) h = .ok (.int (i - j)) h := rfl
@[simp] theorem mulD_r (hj : -18446744073709551616 < j ∧ j < 18446744073709551616) : mulD (.int i) (.int j) h = .ok (.int (i * j)) h := by
  show (if CMul i j then _ else _) = _
  rw [if_pos (.inr hj)]
theorem mulD_l (hi : -18446744073709551616 < i ∧ i < 18446744073709551616) : mulD (.int i) (.int j) h = .ok (.int (i * j)) h := by
  show (if CMul i j then _ else _) = _
  rw [if_pos (.inl hi)]
@[simp] theorem fdivD_int (hj : 0 < j ∧ j < 1073741824) : fdivD (.int i) (.int j) h = .ok (.int (i / j)) h := by
  show (if CDiv i j then _ else _) = _
  exact if_pos hj
@[simp] theorem modD_int (hj : 0 < j) : modD (.int i) (.int j) h = .ok (.int (i % j)) h := by
  show (if cPos i j then _ else _) = _
  exact if_pos hj
@[simp] theorem shrD_int (hj : 0 ≤ j) : shrD (.int i) (.int j) h = .ok (.int (i / 2 ^ j.toNat)) h := by
  show (if cNN i j then _ else _) = _
  exact if_pos hj
@[simp] theorem powD_int (hj : CPow i j) : powD (.int i) (.int j) h = .ok (.int (i ^ j.toNat)) h := by
  show (if CPow i j then _ else _) = _
  rw [if_pos hj]
@[simp] theorem andD_int : andD (.int i) (.int j) h = .ok (.int (Builtin.bitAnd i j)) h := rfl
@[simp] theorem ltD_int : ltD (.int i) (.int j) h = .ok (.bl (decide (i < j))) h := rfl
@[simp] theorem leD_int : leD (.int i) (.int j) h = .ok (.bl (decide (i ≤ j))) h := rfl
@[simp] theorem gtD_int : gtD (.int i) (.int j) h = .ok (.bl (decide (j < i))) h := rfl
@[simp] theorem geD_int : geD (.int i) (.int j) h = .ok (.bl (decide (j ≤ i))) h := rfl
@[simp] theorem eqD_int : eqD (.int i) (.int j) h = .ok (.bl (decide (i = j))) h := by
  unfold eqD
  rw [if_pos (by rfl)]
  congr 2
@[simp] theorem neD_int : neD (.int i) (.int j) h = .ok (.bl (!decide (i = j))) h := by
  unfold neD
  rw [if_pos (by rfl)]
  congr 2
@[simp] theorem eqD_str : eqD (.str z) (.str s) h = .ok (.bl (decide (z = s))) h := by
  unfold eqD
  rw [if_pos (by rfl)]
  simp only [eqB, D.py, PyData.eqv]
  congr 2
@[simp] theorem neD_str : neD (.str z) (.str s) h = .ok (.bl (!decide (z = s))) h := by
  unfold neD
  rw [if_pos (by rfl)]
  simp only [eqB, D.py, PyData.eqv]
  congr 2
@[simp] theorem isD_non : isD x .non h = .ok (.bl (isB x .non)) h := rfl
@[simp] theorem isD_bl (c : Bool) : isD x (.bl c) h = .ok (.bl (isB x (.bl c))) h := rfl
@[simp] theorem isNotD_non : isNotD x .non h = .ok (.bl (!isB x .non)) h := rfl
@[simp] theorem seqD_tup : seqD h (.tup l) = some l := rfl
@[simp] theorem seqD_lst : seqD h (.lst l) = some l := rfl
@[simp] theorem seqD_frz : seqD h (.frz l) = some l := rfl
@[simp] theorem listD_lst : listD h (.lst l) = some l := rfl
@[simp] theorem listD_frz : listD h (.frz l) = some l := rfl
theorem listD_ref {n : Nat} (e : h[n]? = some (.lst l)) : listD h (.ref n) = some l := by simp [listD, e]
theorem seqD_ref {n : Nat} (e : h[n]? = some (.lst l)) : seqD h (.ref n) = some l := by simp [seqD, listD, e]
theorem thListD_ref {n : Nat} (e : h[n]? = some (.lst l)) : thListD h (.ref n) = some l := by simp [thListD, e]
def oR (o : Option D) (h : Th) : Res D := match o with
  | some d => .ok d h
  | none => .bad
@[simp] theorem oR_some : oR (some x) h = .ok x h := rfl
@[simp] theorem getD_tup : getD (.tup l) (.int i) h = oR (atI l i) h := rfl
@[simp] theorem getD_lst : getD (.lst l) (.int i) h = oR (atI l i) h := rfl
@[simp] theorem getD_frz : getD (.frz l) (.int i) h = oR (atI l i) h := rfl
theorem getD_ref {n : Nat} (e : h[n]? = some (.lst l)) : getD (.ref n) (.int i) h = oR (atI l i) h := by
  unfold getD
  simp only [seqD_ref h l e]
  rfl
theorem getD_str (hz : z.length ≤ 16777216) {c : Nat} (e : atI z.cps.toList i = some c) : getD (.str z) (.int i) h = .ok (.str ⟨#[c]⟩) h := by
  unfold getD
  simp only [if_pos hz, e]
@[simp] theorem sliceD_tup (lo hi : Option Int) : sliceD (.tup l) lo hi h = .ok (.tup (cutD l lo hi)) h := rfl
@[simp] theorem sliceD_lst (lo hi : Option Int) : sliceD (.lst l) lo hi h = .ok (.lst (cutD l lo hi)) h := rfl
@[simp] theorem lenD_tup : lenD [.tup l] h = .ok (.int l.length) h := rfl
@[simp] theorem lenD_lst : lenD [.lst l] h = .ok (.int l.length) h := rfl
@[simp] theorem lenD_frz : lenD [.frz l] h = .ok (.int l.length) h := rfl
theorem lenD_str (hz : z.length ≤ 16777216) : lenD [.str z] h = .ok (.int z.length) h := by
  show (if z.length ≤ 16777216 then _ else _) = _
  exact if_pos hz
@[simp] theorem intD_int : intD [.int i] h = .ok (.int i) h := rfl
@[simp] theorem intD_bl (c : Bool) : intD [.bl c] h = .ok (.int (if c = true then 1 else 0)) h := rfl
@[simp] theorem tupleD_tup : tupleD [.tup l] h = .ok (.tup l) h := rfl
@[simp] theorem tupleD_lst : tupleD [.lst l] h = .ok (.tup l) h := rfl
theorem tupleD_ref {n : Nat} (e : h[n]? = some (.lst l)) : tupleD [.ref n] h = .ok (.tup l) h := by
  unfold tupleD
  simp only [listD_ref h l e]
@[simp] theorem ordD_str (hz : z.length = 1) : ordD [.str z] h = .ok (.int (z.cps.getD 0 0 : Nat)) h := by
  show (if z.length = 1 then _ else _) = _
  exact if_pos hz
@[simp] theorem max2_int : max2D [.int i, .int j] h = .ok (.int (if j > i then j else i)) h := rfl
@[simp] theorem min2_int : min2D [.int i, .int j] h = .ok (.int (if j < i then j else i)) h := rfl
@[simp] theorem isi_int (T : String) : isiD T (.int i) h = .ok (.bl (isiB "int" T)) h := rfl
@[simp] theorem isi_bl (T : String) (c : Bool) : isiD T (.bl c) h = .ok (.bl (isiB "bool" T)) h := rfl
@[simp] theorem isi_str (T : String) : isiD T (.str z) h = .ok (.bl (isiB "str" T)) h := rfl
@[simp] theorem isi_tup (T : String) : isiD T (.tup l) h = .ok (.bl (isiB "tuple" T)) h := rfl
@[simp] theorem isi_lst (T : String) : isiD T (.lst l) h = .ok (.bl (isiB "list" T)) h := rfl
@[simp] theorem isi_non (T : String) : isiD T .non h = .ok (.bl (isiB "NoneType" T)) h := rfl
theorem appD_ref {n : Nat} (e : h[n]? = some (.lst l)) (hl : l.length < 16777216) : appD (.ref n) [y] h = .ok .non (h.set n (.lst (l ++ [y]))) := by simp [appD, e, hl]
theorem extD_ref {n : Nat} (e : h[n]? = some (.lst l)) (hl : l.length + k.length ≤ 16777216) : extD (.ref n) [.lst k] h = .ok .non (h.set n (.lst (l ++ k))) := by simp [extD, e, hl]
theorem setD_ref {n : Nat} (e : h[n]? = some (.lst l)) {q : Nat} (hq : ixN l.length i = some q) : setD (.ref n) (.int i) y h = .ok .non (h.set n (.lst (l.set q y))) := by simp [setD, e, hq]
@[simp] theorem findD_str : findD z (.str s) h = .ok (.int (Txt.find z s)) h := rfl
@[simp] theorem listOfD_tup : listOfD [.tup l] h = .ok (.lst l) h := rfl
@[simp] theorem listOfD_lst : listOfD [.lst l] h = .ok (.lst l) h := rfl
@[simp] theorem srcD_tup : srcD (.tup l) h = .ok (.val l) h := rfl
@[simp] theorem srcD_lst : srcD (.lst l) h = .ok (.val l) h := rfl
@[simp] theorem srcD_frz : srcD (.frz l) h = .ok (.val l) h := rfl
theorem srcD_str (hz : z.length ≤ 16777216) : srcD (.str z) h = .ok (.val (signsD z)) h := by
  unfold srcD
  simp only [if_pos hz]
theorem srcD_ref {n : Nat} (e : h[n]? = some (.lst l)) : srcD (.ref n) h = .ok (.live n l) h := by simp [srcD, e]
@[simp] theorem range1_int (hj : j ≤ 16777216 ∧ -16777216 ≤ j) : rangeD1 [.int j] h = .ok (.val (rangeL 0 j.toNat)) h := by
  show (if j ≤ 16777216 ∧ -16777216 ≤ j then _ else _) = _
  exact if_pos hj
theorem bools_map {α : Type} (l : List α) (f : α → Bool) : bools (l.map fun a => .bl (f a)) = some (l.map f) := by
  induction l with
  | nil => rfl
  | cons a l ih => simp [bools, ih]
@[simp] theorem allD_lst : allD [.lst l] h = (match bools l with
      | some bs => .ok (.bl (bs.all id)) h
      | none => .bad) := rfl
theorem allD_ok {bs : List Bool} (e : bools l = some bs) : allD [.lst l] h = .ok (.bl (bs.all id)) h := by simp [e]
end

def tryK (r : SR) (mt : Str → Option Bool) (m2 : DS) : SR := match r with
  | .ex x rho' h' => (match mt x.c with
    | some true => noEx (m2 rho' h')
    | some false => .ex x rho' h'
    | none => .bad)
  | r => r
@[simp] theorem ap_tryS (m1 m2 : DS) (mt : Str → Option Bool) (rho : Ro) (h : Th) : tryS m1 mt m2 rho h = tryK (m1 rho h) mt m2 := by
  unfold tryS tryK
  rfl
@[simp] theorem tryK_rt (d : D) (h : Th) (mt : Str → Option Bool) (m2 : DS) : tryK (.rt d h) mt m2 = .rt d h := rfl
@[simp] theorem tryK_nx (rho : Ro) (h : Th) (mt : Str → Option Bool) (m2 : DS) : tryK (.nx rho h) mt m2 = .nx rho h := rfl
theorem tryK_ex {x : Exn} {rho : Ro} {h : Th} {mt : Str → Option Bool} {m2 : DS} (e : mt x.c = some true) : tryK (.ex x rho h) mt m2 = noEx (m2 rho h) := by
  unfold tryK
  simp only [e]
@[simp] theorem noEx_rt (d : D) (h : Th) : noEx (.rt d h) = .rt d h := rfl
@[simp] theorem noEx_nx (rho : Ro) (h : Th) : noEx (.nx rho h) = .nx rho h := rfl
theorem fit_ints (l : List Int) (n : Nat) : (D.tup (l.map D.int)).pure = true := by
  unfold D.pure
  induction l with
  | nil => rfl
  | cons a l ih => simp only [List.map_cons, pures, D.pure, ih]; rfl
theorem eqvAll_ints : ∀ l k : List Int, PyData.eqvAll (pys (l.map D.int)) (pys (k.map D.int)) = decide (l = k)
  | [], [] => by simp [pys, PyData.eqvAll]
  | [], b :: k => by simp [pys, PyData.eqvAll]
  | a :: l, [] => by simp [pys, PyData.eqvAll]
  | a :: l, b :: k => by
    simp only [List.map_cons, pys, D.py, PyData.eqvAll, PyData.eqv, eqvAll_ints l k]
    rw [Bool.eq_iff_iff]
    simp
theorem lay_ints : ∀ l : List Int, PyData.canLayAll0 (pys (l.map D.int)) = true ∧ PyData.depthAll (pys (l.map D.int)) = 0
  | [] => ⟨rfl, rfl⟩
  | a :: l => by
    obtain ⟨h1, h2⟩ := lay_ints l
    simp only [List.map_cons, pys, D.py, PyData.canLayAll0, PyData.canLay0, PyData.depthAll, PyData.depth, h1, h2]
    exact ⟨rfl, rfl⟩
theorem fits_ints (l : List Int) : (D.tup (l.map D.int)).fit = true := by
  obtain ⟨h1, h2⟩ := lay_ints l
  unfold D.fit
  rw [fit_ints l 0]
  simp only [SeqAt.shaped, D.py, PyData.canLay0, PyData.depth, h1, h2]
  rfl
theorem eqD_ints (l k : List Int) (h : Th) : eqD (.tup (l.map D.int)) (.tup (k.map D.int)) h = .ok (.bl (decide (l = k))) h := by
  unfold eqD
  rw [if_neg (by simp [scD]), if_pos (by rw [fits_ints, fits_ints]; rfl)]
  unfold eqB
  simp only [D.py, PyData.eqv, eqvAll_ints]
theorem neD_ints (l k : List Int) (h : Th) : neD (.tup (l.map D.int)) (.tup (k.map D.int)) h = .ok (.bl (!decide (l = k))) h := by
  unfold neD
  rw [if_neg (by simp [scD]), if_pos (by rw [fits_ints, fits_ints]; rfl)]
  unfold eqB
  simp only [D.py, PyData.eqv, eqvAll_ints]
theorem inD_ints (i : Int) (l : List Int) (h : Th) : inD (.int i) (.lst (l.map D.int)) h = .ok (.bl (decide (i ∈ l))) h := by
  have hf : (flatD (.int i) && (l.map D.int).all flatD) = true := by
    simp [flatD]
  have ha : (l.map D.int).any (fun y => eqB y (.int i)) = decide (i ∈ l) := by
    rw [Bool.eq_iff_iff]
    simp [eqB, D.py, PyData.eqv]
  unfold inD inB
  simp only [seqD_lst]
  rw [if_pos hf, ha]
  simp
/-! ### an end -/
def fin (r : SR) : Res D := match r with
  | .nx _ h' => .ok .non h'
  | .rt d h' => .ok d h'
  | .ex x _ h' => .ex x h'
  | _ => .bad
@[simp] theorem fin_nx (rho : Ro) (h : Th) : fin (.nx rho h) = .ok .non h := rfl
@[simp] theorem fin_rt (d : D) (h : Th) : fin (.rt d h) = .ok d h := rfl
@[simp] theorem fin_ex (x : Exn) (rho : Ro) (h : Th) : fin (.ex x rho h) = .ex x h := rfl
@[simp] theorem fin_bad : fin .bad = .bad := rfl
theorem run_eq {n np : Nat} {b : DS} {ds : List D} {h : Th} (hl : ds.length = np) : runFn n np b ds h = fin (b (ds.map some ++ List.replicate (n - np) none) h) := by
  unfold runFn
  rw [if_pos hl]
  rfl

theorem run1 (n : Nat) (b : DS) (x : D) (h : Th) : runFn n 1 b [x] h = fin (b (some x :: List.replicate (n - 1) none) h) := run_eq rfl
theorem run2 (n : Nat) (b : DS) (x y : D) (h : Th) : runFn n 2 b [x, y] h = fin (b (some x :: some y :: List.replicate (n - 2) none) h) := run_eq rfl
theorem run3 (n : Nat) (b : DS) (x y z : D) (h : Th) : runFn n 3 b [x, y, z] h = fin (b (some x :: some y :: some z :: List.replicate (n - 3) none) h) := run_eq rfl
theorem run4 (n : Nat) (b : DS) (x y z u : D) (h : Th) : runFn n 4 b [x, y, z, u] h = fin (b (some x :: some y :: some z :: some u :: List.replicate (n - 4) none) h) := run_eq rfl

/-! ### loops -/
@[simp] theorem for_nil (l : List D) (g : DG) (b : DS) (rho : Ro) (h : Th) : forGo (.val l) g b [] rho h = .nx rho h := by
  unfold forGo
  rw [if_pos (show alive (.val l) h from trivial)]
theorem for_cons (l : List D) (g : DG) (b : DS) (d : D) (ds : List D) (rho : Ro) (h : Th) : forGo (.val l) g b (d :: ds) rho h = (match g d rho with
    | some rho' => afterS (forGo (.val l) g b ds) (b rho' h)
    | none => .bad) := by
  rw [forGo]
  rw [if_pos (show alive (.val l) h from trivial)]
  try (cases g d rho <;> rfl)
theorem for_name (l : List D) (i : Nat) (b : DS) (d : D) (ds : List D) (rho : Ro) (h : Th) : forGo (.val l) (nameG i) b (d :: ds) rho h = afterS (forGo (.val l) (nameG i) b ds) (b (rho.set i (some d)) h) := by
  rw [for_cons]
  rfl
@[simp] theorem lc_nil (l : List D) (g : DG) (t : DT) (m : DE) (rho : Ro) (h : Th) : lcGo (.val l) g t m rho [] h = .ok [] h := by
  unfold lcGo
  rw [if_pos (show alive (.val l) h from trivial)]
theorem lc_name (l : List D) (i : Nat) (t : DT) (m : DE) (d : D) (ds : List D) (rho : Ro) (h : Th) : lcGo (.val l) (nameG i) t m rho (d :: ds) h =
    (t (rho.set i (some d)) h).bind fun b h1 => if b = true then (m (rho.set i (some d)) h1).bind fun y h2 => (lcGo (.val l) (nameG i) t m rho ds h2).bind fun l h3 => .ok (y :: l) h3 else lcGo (.val l) (nameG i) t m rho ds h1 := by
  rw [lcGo]
  rw [if_pos (show alive (.val l) h from trivial)]
  rfl
/-- a comprehension that changes nothing -/
theorem lc_map {l0 : List D} {i : Nat} {m : DE} {rho : Ro} {h : Th} {f : D → D} : ∀ {l : List D}, (∀ d ∈ l, m (rho.set i (some d)) h = .ok (f d) h) → lcGo (.val l0) (nameG i) yesT m rho l h = .ok (l.map f) h
  | [], _ => by simp
  | d :: ds, q => by
    rw [lc_name]
    simp [q d List.mem_cons_self, lc_map fun x hx => q x (List.mem_cons_of_mem _ hx)]
/-- a comprehension that goes on from state to state -/
theorem lc_walk {α : Type} {E : α → Th} {l0 : List D} {i : Nat} {m : DE} {rho : Ro} {P : D → Prop} : ∀ {l : List D} {a : α}, (∀ d ∈ l, ∀ a, ∃ y a', m (rho.set i (some d)) (E a) = .ok y (E a') ∧ P y) →
    ∃ ys a', lcGo (.val l0) (nameG i) yesT m rho l (E a) = .ok ys (E a') ∧ ys.length = l.length ∧ ∀ y ∈ ys, P y
  | [], a, _ => ⟨[], a, by simp, rfl, fun y hy => by cases hy⟩
  | d :: ds, a, q => by
    obtain ⟨y, a1, e1, p1⟩ := q d List.mem_cons_self a
    obtain ⟨ys, a2, e2, l2, p2⟩ := lc_walk (E := E) (l0 := l0) (i := i) (m := m) (rho := rho) (P := P) (l := ds) (a := a1) fun x hx => q x (List.mem_cons_of_mem _ hx)
    refine ⟨y :: ys, a2, ?_, by simp [l2], fun z hz => ?_⟩
    · rw [lc_name]
      simp [e1, e2]
    · rcases List.mem_cons.mp hz with r | r
      · rw [r]; exact p1
      · exact p2 z r
/-- an exception out of a comprehension, at its first -/
theorem lc_map? {l0 : List D} {i : Nat} {m : DE} {rho : Ro} {h : Th} {f : D → Option D} {x : Exn} : ∀ {l : List D}, (∀ d ∈ l, m (rho.set i (some d)) h = match f d with
    | some y => .ok y h
    | none => .ex x h) → lcGo (.val l0) (nameG i) yesT m rho l h = match l.mapM f with
    | some ys => .ok ys h
    | none => .ex x h
  | [], _ => by simp
  | d :: ds, q => by
    rw [lc_name]
    have e := q d List.mem_cons_self
    have e2 := lc_map? (l0 := l0) (i := i) (m := m) (rho := rho) (h := h) (f := f) (x := x) (l := ds) fun x hx => q x (List.mem_cons_of_mem _ hx)
    simp only [ap_yesT, ok_bind, if_true, e]
    rw [List.mapM_cons]
    cases f d with
    | none => rfl
    | some y =>
      simp only [ok_bind, e2]
      cases ds.mapM f <;> rfl
theorem atI_at {α : Type} {l : List α} {i : Int} (h0 : 0 ≤ i) : atI l i = l[i.toNat]? := by
  unfold atI ixN
  rw [if_pos h0]
  by_cases h1 : i < l.length
  · rw [if_pos h1]; rfl
  · rw [if_neg h1, List.getElem?_eq_none (by omega)]; rfl
theorem atI_map {α β : Type} (f : α → β) {l : List α} {i : Int} : atI (l.map f) i = (atI l i).map f := by
  unfold atI
  rw [List.length_map]
  cases ixN l.length i with
  | none => rfl
  | some j => simp
theorem cutD_nat (xs : List D) (a b : Nat) : cutD xs (some (a : Int)) (some (b : Int)) = (xs.drop a).take (b - a) := by
  unfold cutD
  rw [HT.sIx_nat, HT.sIx_nat]
  by_cases ha : a ≤ xs.length
  · rw [Nat.min_eq_left ha]
    by_cases hb : b ≤ xs.length
    · rw [Nat.min_eq_left hb]
    · rw [Nat.min_eq_right (by omega), List.take_of_length_le (by simp), List.take_of_length_le (by simp; omega)]
  · rw [Nat.min_eq_right (show xs.length ≤ a by omega), List.drop_of_length_le (Nat.le_refl _), List.drop_of_length_le (by omega)]
    simp
theorem cutD_from (xs : List D) (a : Nat) : cutD xs (some (a : Int)) none = xs.drop a := by
  unfold cutD
  rw [HT.sIx_nat, HT.sIx_none]
  by_cases ha : a ≤ xs.length
  · rw [Nat.min_eq_left ha, List.take_of_length_le (by simp)]
  · rw [Nat.min_eq_right (by omega), List.drop_of_length_le (Nat.le_refl _), List.drop_of_length_le (by omega)]
    simp
theorem cutD_to (xs : List D) (b : Nat) : cutD xs none (some (b : Int)) = xs.take b := by
  unfold cutD
  rw [HT.sIx_nat, HT.sIx_none, List.drop_zero]
  by_cases hb : b ≤ xs.length
  · rw [Nat.min_eq_left hb]; rfl
  · rw [Nat.min_eq_right (by omega), List.take_of_length_le (by simp), List.take_of_length_le (by omega)]
theorem cutD_last (xs : List D) : cutD xs none (some (-1)) = xs.take (xs.length - 1) := by
  unfold cutD
  rw [HT.sIx_none, List.drop_zero]
  have : HT.sIx xs.length xs.length (some (-1)) = xs.length - 1 := by
    show (if (-1 : Int) < 0 then ((-1 : Int) + (xs.length : Int)).toNat else min (-1 : Int).toNat xs.length) = _
    rw [if_pos (by omega)]
    omega
  rw [this]
  rfl
theorem str_ne {a b : Str} (h : a.cps.toList ≠ b.cps.toList) : a ≠ b := fun e => h (by rw [e])
theorem atI_mem {α : Type} {l : List α} {i : Int} (h0 : 0 ≤ i) (h1 : i < l.length) : ∃ x ∈ l, atI l i = some x := by
  have hl : i.toNat < l.length := by omega
  exact ⟨l[i.toNat], List.getElem_mem hl, by rw [atI_at h0, List.getElem?_eq_getElem hl]⟩

/-! ### texts of signs -/
abbrev chr (c : Nat) : D := .str ⟨#[c]⟩
theorem strsL_chr : ∀ cs : List Nat, strsL (cs.map chr) = some (cs.map fun c => (⟨#[c]⟩ : Str))
  | [] => rfl
  | c :: cs => by
    show (strsL (cs.map chr)).map _ = _
    rw [strsL_chr cs]
    rfl
theorem join_chr : ∀ cs : List Nat, Txt.join "" (cs.map fun c => (⟨#[c]⟩ : Str)) = ⟨cs.toArray⟩ := by
  intro cs
  have hl : ∀ cs : List Nat, (Str.join (Str.ofString "") (cs.map fun c => (⟨#[c]⟩ : Str))).cps.toList = cs := by
    intro cs
    induction cs with
    | nil => rfl
    | cons c cs ih =>
      cases cs with
      | nil => rfl
      | cons d cs =>
        have h1 : (Str.join (Str.ofString "") ((c :: d :: cs).map fun c => (⟨#[c]⟩ : Str))) = (⟨#[c]⟩ : Str) ++ Str.ofString "" ++ Str.join (Str.ofString "") ((d :: cs).map fun c => (⟨#[c]⟩ : Str)) := rfl
        have h2 : (Str.ofString "").cps = #[] := by decide +kernel
        rw [h1, Str.cps_append, Str.cps_append, h2]
        simp only [Array.toList_append, ih]
        simp
  have e : Txt.join "" (cs.map fun c => (⟨#[c]⟩ : Str)) = Str.join (Str.ofString "") (cs.map fun c => (⟨#[c]⟩ : Str)) := StrLaws.glued_eq_join _ _
  rw [e]
  refine Str.ext' ?_
  have := hl cs
  show _ = cs.toArray
  rw [← Array.toList_inj, this]
theorem joinD_chr {cs : List Nat} (hl : cs.length ≤ 16777216) (h : Th) : joinD "" (.lst (cs.map chr)) h = .ok (.str ⟨cs.toArray⟩) h := by
  unfold joinD
  simp only [seqD_lst, strsL_chr]
  have hs : ∀ cs : List Nat, ((cs.map fun c => (⟨#[c]⟩ : Str)).map (·.length)).sum = cs.length := by
    intro cs
    induction cs with
    | nil => rfl
    | cons c cs ih =>
      simp only [List.map_cons, List.sum_cons, List.length_cons]
      rw [ih]
      show 1 + _ = _
      omega
  have h0 : (Str.ofString "").length = 0 := by decide +kernel
  rw [if_pos (by rw [hs, h0]; omega), join_chr]
theorem mapM_map {α β γ δ : Type} {f : α → Option β} {g : γ → Option δ} {u : α → γ} {v : β → δ} (e : ∀ a, g (u a) = (f a).map v) : ∀ l : List α, (l.map u).mapM g = (l.mapM f).map (·.map v)
  | [] => rfl
  | a :: l => by
    rw [List.map_cons, List.mapM_cons, List.mapM_cons, e, mapM_map e l]
    cases f a with
    | none => rfl
    | some b =>
      cases l.mapM f <;> rfl

/-! ### a def that changes nothing, without its scraps -/
mutual
theorem Fz.uniq {n : Nat} {h : Th} : ∀ (d1 d2 d : D), Fz n h d1 d → Fz n h d2 d → d1 = d2
  | .non, d2, d, z1, z2 => by unfold Fz at z1; subst z1; cases d2 <;> unfold Fz at z2 <;> first | rfl | (cases z2; done) | (obtain ⟨_, z, _⟩ := z2; cases z; done) | (rcases z2 with ⟨_, z, _⟩ | ⟨_, _, z, _⟩ <;> cases z; done) | (obtain ⟨z, _⟩ := z2; cases z; done)
  | .bl b, d2, d, z1, z2 => by unfold Fz at z1; subst z1; cases d2 <;> unfold Fz at z2 <;> first | (cases z2; rfl) | (obtain ⟨_, z, _⟩ := z2; cases z; done) | (rcases z2 with ⟨_, z, _⟩ | ⟨_, _, z, _⟩ <;> cases z; done) | (obtain ⟨z, _⟩ := z2; cases z; done)
  | .int b, d2, d, z1, z2 => by unfold Fz at z1; subst z1; cases d2 <;> unfold Fz at z2 <;> first | (cases z2; rfl) | (obtain ⟨_, z, _⟩ := z2; cases z; done) | (rcases z2 with ⟨_, z, _⟩ | ⟨_, _, z, _⟩ <;> cases z; done) | (obtain ⟨z, _⟩ := z2; cases z; done)
  | .str b, d2, d, z1, z2 => by unfold Fz at z1; subst z1; cases d2 <;> unfold Fz at z2 <;> first | (cases z2; rfl) | (obtain ⟨_, z, _⟩ := z2; cases z; done) | (rcases z2 with ⟨_, z, _⟩ | ⟨_, _, z, _⟩ <;> cases z; done) | (obtain ⟨z, _⟩ := z2; cases z; done)
  | .tup l, d2, d, z1, z2 => by
    unfold Fz at z1
    obtain ⟨l0, rfl, z1⟩ := z1
    cases d2 <;> unfold Fz at z2 <;> first
      | (cases z2; done)
      | (obtain ⟨z, _⟩ := z2; cases z; done)
      | (rcases z2 with ⟨_, z, _⟩ | ⟨_, _, z, _⟩ <;> cases z; done)
      | (obtain ⟨_, z, z2⟩ := z2
         first
           | (cases z; done)
           | (cases z; rw [Fzs.uniq l _ l0 z1 z2]))
  | .frz l, d2, d, z1, z2 => by
    unfold Fz at z1
    obtain ⟨l0, rfl, z1⟩ := z1
    cases d2 <;> unfold Fz at z2 <;> first
      | (cases z2; done)
      | (obtain ⟨z, _⟩ := z2; cases z; done)
      | (rcases z2 with ⟨_, z, _⟩ | ⟨_, _, z, _⟩ <;> cases z; done)
      | (obtain ⟨_, z, z2⟩ := z2
         first
           | (cases z; done)
           | (cases z; rw [Fzs.uniq l _ l0 z1 z2]))
  | .lst l, d2, d, z1, z2 => by
    unfold Fz at z1
    rcases z1 with ⟨l0, rfl, z1⟩ | ⟨i, l0, rfl, hi, hl, z1⟩
    · cases d2 <;> unfold Fz at z2 <;> first
        | (cases z2; done)
        | (obtain ⟨z, _⟩ := z2; cases z; done)
        | (obtain ⟨_, z, _⟩ := z2; cases z; done)
        | (rcases z2 with ⟨_, z, z2⟩ | ⟨_, _, z, _⟩ <;> cases z; rw [Fzs.uniq l _ l0 z1 z2])
    · cases d2 <;> unfold Fz at z2 <;> first
        | (cases z2; done)
        | (obtain ⟨_, z, _⟩ := z2; cases z; done)
        | (obtain ⟨z, z2⟩ := z2; cases z; omega)
        | (rcases z2 with ⟨_, z, z2⟩ | ⟨_, l1, z, _, hl1, z2⟩ <;> cases z
           rw [hl] at hl1
           cases hl1
           rw [Fzs.uniq l _ l0 z1 z2])
  | .ref i, d2, d, z1, z2 => by
    unfold Fz at z1
    obtain ⟨rfl, hi⟩ := z1
    cases d2 <;> unfold Fz at z2 <;> first
      | (cases z2; done)
      | (obtain ⟨_, z, _⟩ := z2; cases z; done)
      | (obtain ⟨z, z2⟩ := z2; cases z; rfl)
      | (rcases z2 with ⟨_, z, z2⟩ | ⟨_, l1, z, _, hl1, z2⟩ <;> cases z
         omega)
theorem Fzs.uniq {n : Nat} {h : Th} : ∀ (d1 d2 d : List D), Fzs n h d1 d → Fzs n h d2 d → d1 = d2
  | [], d2, d, z1, z2 => by
    unfold Fzs at z1
    subst z1
    cases d2 with
    | nil => rfl
    | cons => unfold Fzs at z2; obtain ⟨_, _, z, _⟩ := z2; cases z
  | a :: as, d2, d, z1, z2 => by
    unfold Fzs at z1
    obtain ⟨e, r, rfl, z1, z1'⟩ := z1
    cases d2 with
    | nil => unfold Fzs at z2; cases z2
    | cons b bs =>
      unfold Fzs at z2
      obtain ⟨_, _, z, z2, z2'⟩ := z2
      cases z
      rw [Fz.uniq a b e z1 z2, Fzs.uniq as bs r z1' z2']
end
def clP (f : List D → Th → Res D) (ds : List D) (h : Th) (d' : D) : Prop := ∃ t d, f ds h = .ok d (h ++ t) ∧ Fz h.length (h ++ t) d' d
def clX (f : List D → Th → Res D) (ds : List D) (h : Th) (c : Str) : Prop := ∃ t, f ds h = .ex ⟨c, []⟩ (h ++ t)
open Classical in
noncomputable def cl (f : List D → Th → Res D) : List D → Th → Res D := fun ds h => if p : ∃ d', clP f ds h d' then .ok p.choose h else if q : ∃ c, clX f ds h c then .ex ⟨q.choose, []⟩ h else .bad
theorem cl_ok {f : List D → Th → Res D} {ds : List D} {h t : Th} {d d' : D} (e : f ds h = .ok d (h ++ t)) (z : Fz h.length (h ++ t) d' d) : cl f ds h = .ok d' h := by
  have p : ∃ d', clP f ds h d' := ⟨d', t, d, e, z⟩
  unfold cl
  rw [dif_pos p]
  obtain ⟨t2, d2, e2, z2⟩ := p.choose_spec
  rw [e] at e2
  injection e2 with e2 e3
  subst e2
  rw [← e3] at z2
  rw [Fz.uniq _ _ _ z2 z]
theorem cl_low {f : List D → Th → Res D} {ds : List D} {h t : Th} {d : D} (e : f ds h = .ok d (h ++ t)) (z : Low h.length d) : cl f ds h = .ok d h := cl_ok e (z _)
theorem cl_same {f : List D → Th → Res D} {ds : List D} {h : Th} {d : D} (e : f ds h = .ok d h) (z : Low h.length d) : cl f ds h = .ok d h := cl_ok (t := []) (by simpa using e) (z _)
theorem cl_ex {f : List D → Th → Res D} {ds : List D} {h t : Th} {c : Str} (e : f ds h = .ex ⟨c, []⟩ (h ++ t)) : cl f ds h = .ex ⟨c, []⟩ h := by
  have p : ¬ ∃ d', clP f ds h d' := fun ⟨d', t2, d2, e2, _⟩ => by rw [e] at e2; cases e2
  have q : ∃ c, clX f ds h c := ⟨c, t, e⟩
  unfold cl
  rw [dif_neg p, dif_pos q]
  obtain ⟨t2, e2⟩ := q.choose_spec
  rw [e] at e2
  injection e2 with e2 e3
  injection e2 with e2
  rw [← e2]
theorem Does.cl {P : Program} {w : World} {K : PySem.W.Frag} {mg : Str → Option Value} {base : Heap} {k : Nat} {x : Str} {ps : List Str} {g : List D → Th → Res D} (d : Does P w K mg base k x ps g) : Does P w K mg base k x ps (cl g) := by
  refine d.imp fun ds h lt ll => ?_
  by_cases p : ∃ d', clP g ds h d'
  · obtain ⟨d', t, d, e, z⟩ := p
    rw [cl_ok e z]
    exact ⟨Nat.le_refl _, d, h ++ t, e, FzT.more lt t, z⟩
  · by_cases q : ∃ c, clX g ds h c
    · obtain ⟨c, t, e⟩ := q
      rw [cl_ex e]
      exact imp_ex (Nat.le_refl _) e (FzT.more lt t)
    · have : MP.cl g ds h = .bad := by unfold MP.cl; rw [dif_neg p, dif_neg q]
      rw [this]
      trivial
theorem fz_list {h : Th} {n : Nat} {l : List D} (hn : h.length = n) : ∀ {o : O} {t : Th}, o = .lst l → Lows h.length l → Fz h.length (h ++ (o :: t)) (.lst l) (.ref n) := fun {o t} e q => by
  subst e hn
  unfold Fz
  exact .inr ⟨_, l, rfl, Nat.le_refl _, by simp, Fzs.self q⟩
@[simp] theorem low_ints {n : Nat} {l : List Int} : Lows n (l.map D.int) := fun d hd => by
  obtain ⟨i, _, rfl⟩ := List.mem_map.mp hd
  exact Low.int
@[simp] theorem low_tints {n : Nat} {l : List Int} : Low n (.tup (l.map D.int)) := Low.tup low_ints
end MP
set_option Elab.async false
set_option linter.all false
set_option maxRecDepth 100000
set_option maxHeartbeats 0
namespace K65
open PySem PySem.Spec PyProof.Rows L2 MP
abbrev Fn : Type := List MP.D → Th → Res MP.D
def st (i : Nat) : Stmt := PySem.Challenge.pw_unringed_k65_codes.main.body.getD i (.Pass ⟨0, 0, 0, 0⟩)
structure Tops (K : PySem.W.Frag) (mg : Str → Option Value) : Prop where
  f_isinstance : mg "isinstance" = none
  f_bool : mg "bool" = none
  f_int : mg "int" = none
  f_len : mg "len" = none
  f_str : mg "str" = none
  f_all : mg "all" = none
  f_tuple : mg "tuple" = none
  f_range : mg "range" = none
  f_ord : mg "ord" = none
  f_list : mg "list" = none
  f_min : mg "min" = none
  f_max : mg "max" = none
  i_MOST_NUMBER : ∃ t, mg "MOST_NUMBER" = some (.int (2147483647) t)
  i_LEAST_NUMBER : ∃ t, mg "LEAST_NUMBER" = some (.int (-2147483648) t)
  i_MOST_SIGNS : ∃ t, mg "MOST_SIGNS" = some (.int (12) t)
  i_NONE : ∃ t, mg "NONE" = some (.int (100) t)
  i_TRUE : ∃ t, mg "TRUE" = some (.int (102) t)
  i_FALSE : ∃ t, mg "FALSE" = some (.int (101) t)
  i_TUPLE : ∃ t, mg "TUPLE" = some (.int (103) t)
  i_SUM_TIMES : ∃ t, mg "SUM_TIMES" = some (.int (972663749) t)
  i_SUM_MODULUS : ∃ t, mg "SUM_MODULUS" = some (.int (2305843009213693951) t)
  s_DIGITS : ∃ t, mg "DIGITS" = some (.str "0123456789" t)
  s_LETTERS_items : ∃ t, mg "LETTERS_items" = some (.str "abcdefghijklmnopqrstuvwxyz" t)
  s_FIGURES : ∃ t, mg "FIGURES" = some (.str "0123456789" t)
  s_LETTERS_codes : ∃ t, mg "LETTERS_codes" = some (.str "abcdefghijklmnopqrstuvwxyz" t)
  e_BadRows : ExOk K mg "BadRows"
  x_BadRows_BadRows : PySem.W.exmOne K (.ref (He.ga K "BadRows")) (.ref (He.ga K "BadRows")) = some true
section
variable {P : Program} {w : World} {K : PySem.W.Frag} {mg : Str → Option Value} {base : Heap}
/-! ### is_integer -/
noncomputable def b_is_integer  : DS := (retS (andE (isiE "int" (varE 0)) (andE (notE (isiE "bool" (varE 0))) (chainE leD leD (varE 1) (varE 0) (varE 2)))))
theorem sc_is_integer : FnScope ["value", "low", "high"] ["value", "low", "high"] (defScope (st 9)) := ⟨rfl, rfl, rfl, by decide +kernel, rfl, by decide +kernel, by decide +kernel⟩
theorem does_is_integer (T : Tops K mg) {k : Nat} (s : Stands K mg "is_integer" (st 9) ["value", "low", "high"])  :
    Does P w K mg base (k + 1) "is_integer" ["value", "low", "high"] (runFn 3 3 (b_is_integer )) :=
  s.does sc_is_integer fun f cdv A outer s H E W hr S => (ds_one (ds_ret (de_and (de_isi S.c isiT_int rfl T.f_isinstance rfl T.f_int rfl (dv 0)) (de_and (de_not (de_isi S.c isiT_bool rfl T.f_isinstance rfl T.f_bool rfl (dv 0))) (de_one (de_chain od_le od_le (dv 1) (dv 0) (dv 2)))))))

/-! ### is_number -/
noncomputable def b_is_number (c_is_integer : Fn) : DS := (retS (callE c_is_integer (consA (varE 0) (consA (constE (.int (-2147483648))) (consA (constE (.int (2147483647))) nilA)))))
theorem sc_is_number : FnScope ["value"] ["value"] (defScope (st 10)) := ⟨rfl, rfl, rfl, by decide +kernel, rfl, by decide +kernel, by decide +kernel⟩
theorem does_is_number (T : Tops K mg) {k : Nat} (s : Stands K mg "is_number" (st 10) ["value"]) {c_is_integer : Fn} (d_is_integer : Does P w K mg base k "is_integer" ["value", "low", "high"] c_is_integer) :
    Does P w K mg base (k + 1) "is_number" ["value"] (runFn 1 1 (b_is_number c_is_integer)) :=
  s.does sc_is_number fun f cdv A outer s H E W hr S => (ds_one (ds_ret (dc S.c hr d_is_integer rfl (da_cons (dv 0) (da_cons (de_gI T.i_LEAST_NUMBER) (da_cons (de_gI T.i_MOST_NUMBER) da_nil))))))

/-! ### is_text -/
noncomputable def b_is_text  : DS := (seqS (ifS (orT (notT (truT (isiE "str" (varE 0)))) (boolT (binE gtD (callE lenD (consA (varE 0) nilA)) (constE (.int (12))))))
  (retS (constE (.bl false)))
  skipS) (retS (callE allD (consA (lcE (srcE (varE 0)) (nameG 1) yesT (orE (binE inD (varE 1) (constE (.str "abcdefghijklmnopqrstuvwxyz"))) (binE inD (varE 1) (constE (.str "0123456789")))) [1]) nilA))))
theorem sc_is_text : FnScope ["value", "sign"] ["value"] (defScope (st 11)) := ⟨rfl, rfl, rfl, by decide +kernel, rfl, by decide +kernel, by decide +kernel⟩
theorem does_is_text (T : Tops K mg) {k : Nat} (s : Stands K mg "is_text" (st 11) ["value"])  :
    Does P w K mg base (k + 1) "is_text" ["value"] (runFn 2 1 (b_is_text )) :=
  s.does sc_is_text fun f cdv A outer s H E W hr S => (ds_cons (ds_if (PW.pt (dw_or (dt_not (dt_val S.c (de_isi S.c isiT_str rfl T.f_isinstance rfl T.f_str rfl (dv 0)))) (dw_or1 (dt_cmp od_gt (de_callB (cd_len S.c) rfl T.f_len rfl (da_cons (dv 0) da_nil)) (de_gI T.i_MOST_SIGNS))))) (ds_one (ds_ret de_bl)) ds_nil)
    (ds_one (ds_ret (de_callB (cd_all S.c) rfl T.f_all rfl (da_cons (de_lc (own := [("sign", 1)]) S.c sc_is_text.nd (di_any S.c (dv 0)) (blk_ok rfl) (fun _ _ _ _ _ _ _ c1 => (tg_name (i := 1) sc_is_text.nd rfl (.inl rfl) (by decide))) (fun _ _ _ _ _ _ _ c1 => dts_nil) (fun _ _ _ _ _ _ _ c1 => (de_or (de_cmp (od_in c1) (dv 1) (de_gS T.s_LETTERS_items)) (de_one (de_cmp (od_in c1) (dv 1) (de_gS T.s_DIGITS)))))) da_nil)))))

/-! ### is_item -/
noncomputable def b_is_item (c_is_number : Fn) (c_is_text : Fn) : DS := (seqS (ifS (boolT (binE eqD (varE 0) (constE (.str "number"))))
  (retS (callE c_is_number (consA (varE 1) nilA)))
  skipS) (retS (callE c_is_text (consA (varE 1) nilA))))
theorem sc_is_item : FnScope ["kind", "value"] ["kind", "value"] (defScope (st 12)) := ⟨rfl, rfl, rfl, by decide +kernel, rfl, by decide +kernel, by decide +kernel⟩
theorem does_is_item (T : Tops K mg) {k : Nat} (s : Stands K mg "is_item" (st 12) ["kind", "value"]) {c_is_number : Fn} (d_is_number : Does P w K mg base k "is_number" ["value"] c_is_number) {c_is_text : Fn} (d_is_text : Does P w K mg base k "is_text" ["value"] c_is_text) :
    Does P w K mg base (k + 1) "is_item" ["kind", "value"] (runFn 2 2 (b_is_item c_is_number c_is_text)) :=
  s.does sc_is_item fun f cdv A outer s H E W hr S => (ds_cons (ds_if (dt_cmp (od_eq S.c) (dv 0) de_str) (ds_one (ds_ret (dc S.c hr d_is_number rfl (da_cons (dv 1) da_nil)))) ds_nil)
    (ds_one (ds_ret (dc S.c hr d_is_text rfl (da_cons (dv 1) da_nil)))))

/-! ### bytes_of -/
noncomputable def b_bytes_of  : DS := (retS (callE tupleD (consA (lcE (rangeE rangeD3 (consA (binE subD (varE 1) (constE (.int 1))) (consA (negE (constE (.int 1))) (consA (negE (constE (.int 1))) nilA)))) (nameG 2) yesT (binE andD (binE shrD (varE 0) (binE mulD (constE (.int 8)) (varE 2))) (constE (.int 255))) [2]) nilA)))
theorem sc_bytes_of : FnScope ["n", "many", "k"] ["n", "many"] (defScope (st 22)) := ⟨rfl, rfl, rfl, by decide +kernel, rfl, by decide +kernel, by decide +kernel⟩
theorem does_bytes_of (T : Tops K mg) {k : Nat} (s : Stands K mg "bytes_of" (st 22) ["n", "many"])  :
    Does P w K mg base (k + 1) "bytes_of" ["n", "many"] (runFn 3 2 (b_bytes_of )) :=
  s.does sc_bytes_of fun f cdv A outer s H E W hr S => (ds_one (ds_ret (de_callTy (cd_tuple S.c) rfl T.f_tuple rfl (da_cons (de_lc (own := [("k", 2)]) S.c sc_bytes_of.nd (di_range3 rfl T.f_range (da_cons (de_bin od_sub (dv 1) de_int) (da_cons (de_neg de_int) (da_cons (de_neg de_int) da_nil)))) (blk_ok rfl) (fun _ _ _ _ _ _ _ c1 => (tg_name (i := 2) sc_bytes_of.nd rfl (.inl rfl) (by decide))) (fun _ _ _ _ _ _ _ c1 => dts_nil) (fun _ _ _ _ _ _ _ c1 => (de_bin od_and (de_bin od_shr (dv 0) (de_bin od_mul de_int (dv 2))) de_int))) da_nil))))

/-! ### number_of -/
noncomputable def b_number_of  : DS := (seqS (asgS (nameG 1) (constE (.int 0))) (seqS (forS (srcE (varE 0)) (nameG 2) (asgS (nameG 1) (binE addD (binE mulD (varE 1) (constE (.int 256))) (varE 2)))) (retS (varE 1))))
theorem sc_number_of : FnScope ["row", "n", "byte"] ["row"] (defScope (st 23)) := ⟨rfl, rfl, rfl, by decide +kernel, rfl, by decide +kernel, by decide +kernel⟩
theorem does_number_of (T : Tops K mg) {k : Nat} (s : Stands K mg "number_of" (st 23) ["row"])  :
    Does P w K mg base (k + 1) "number_of" ["row"] (runFn 3 1 (b_number_of )) :=
  s.does sc_number_of fun f cdv A outer s H E W hr S => (ds_cons (ds_set (i := 1) sc_number_of.nd rfl (.inl rfl) de_int)
    (ds_cons (ds_for (vs := [2]) S.c S.own (di_any S.c (dv 0)) (tg_name (i := 2) sc_number_of.nd rfl (.inl rfl) (by decide)) (ds_one (ds_set (i := 1) sc_number_of.nd rfl (.inl rfl) (de_bin (od_add S.c) (de_bin od_mul (dv 1) de_int) (dv 2)))))
    (ds_one (ds_ret (dv 1)))))

/-! ### code_of -/
noncomputable def b_code_of (c_bytes_of : Fn) (c_code_of : Fn) : DS := (seqS (ifS (boolT (binE isD (varE 0) (constE .non)))
  (retS (tupE (consA (constE (.int (100))) nilA)))
  skipS) (seqS (ifS (boolT (binE isD (varE 0) (constE (.bl true))))
  (retS (tupE (consA (constE (.int (102))) nilA)))
  skipS) (seqS (ifS (boolT (binE isD (varE 0) (constE (.bl false))))
  (retS (tupE (consA (constE (.int (101))) nilA)))
  skipS) (seqS (ifS (truT (isiE "int" (varE 0)))
  (retS (binE addD (tupE (consA (constE (.int 0)) nilA)) (callE c_bytes_of (consA (binE subD (varE 0) (constE (.int (-2147483648)))) (consA (constE (.int 4)) nilA)))))
  skipS) (seqS (ifS (truT (isiE "str" (varE 0)))
  (retS (binE addD (tupE (consA (binE addD (constE (.int 1)) (callE lenD (consA (varE 0) nilA))) nilA)) (callE tupleD (consA (lcE (srcE (varE 0)) (nameG 3) yesT (callE ordD (consA (varE 3) nilA)) [3]) nilA))))
  skipS) (seqS (asgS (nameG 1) (newLE (consA (constE (.int (103))) (consA (binE fdivD (callE lenD (consA (varE 0) nilA)) (constE (.int 256))) (consA (binE modD (callE lenD (consA (varE 0) nilA)) (constE (.int 256))) nilA))))) (seqS (forS (srcE (varE 0)) (nameG 2) (exprS (methL extD (varE 1) (consA (callE listOfD (consA (callE c_code_of (consA (varE 2) nilA)) nilA)) nilA)))) (retS (callE tupleD (consA (varE 1) nilA))))))))))
theorem sc_code_of : FnScope ["value", "found", "one", "sign"] ["value"] (defScope (st 24)) := ⟨rfl, rfl, rfl, by decide +kernel, rfl, by decide +kernel, by decide +kernel⟩
theorem does_code_of (T : Tops K mg) {k : Nat} (s : Stands K mg "code_of" (st 24) ["value"]) {c_bytes_of : Fn} (d_bytes_of : Does P w K mg base k "bytes_of" ["n", "many"] c_bytes_of) {c_code_of : Fn} (d_code_of : Does P w K mg base k "code_of" ["value"] c_code_of) :
    Does P w K mg base (k + 1) "code_of" ["value"] (runFn 4 1 (b_code_of c_bytes_of c_code_of)) :=
  s.does sc_code_of fun f cdv A outer s H E W hr S => (ds_cons (ds_if (dt_cmp od_is (dv 0) de_non) (ds_one (ds_ret (de_tup (da_cons (de_gI T.i_NONE) da_nil)))) ds_nil)
    (ds_cons (ds_if (dt_cmp od_is (dv 0) de_bl) (ds_one (ds_ret (de_tup (da_cons (de_gI T.i_TRUE) da_nil)))) ds_nil)
    (ds_cons (ds_if (dt_cmp od_is (dv 0) de_bl) (ds_one (ds_ret (de_tup (da_cons (de_gI T.i_FALSE) da_nil)))) ds_nil)
    (ds_cons (ds_if (dt_val S.c (de_isi S.c isiT_int rfl T.f_isinstance rfl T.f_int rfl (dv 0))) (ds_one (ds_ret (de_bin (od_add S.c) (de_tup (da_cons de_int da_nil)) (dc S.c hr d_bytes_of rfl (da_cons (de_bin od_sub (dv 0) (de_gI T.i_LEAST_NUMBER)) (da_cons de_int da_nil)))))) ds_nil)
    (ds_cons (ds_if (dt_val S.c (de_isi S.c isiT_str rfl T.f_isinstance rfl T.f_str rfl (dv 0))) (ds_one (ds_ret (de_bin (od_add S.c) (de_tup (da_cons (de_bin (od_add S.c) de_int (de_callB (cd_len S.c) rfl T.f_len rfl (da_cons (dv 0) da_nil))) da_nil)) (de_callTy (cd_tuple S.c) rfl T.f_tuple rfl (da_cons (de_lc (own := [("sign", 3)]) S.c sc_code_of.nd (di_any S.c (dv 0)) (blk_ok rfl) (fun _ _ _ _ _ _ _ c1 => (tg_name (i := 3) sc_code_of.nd rfl (.inl rfl) (by decide))) (fun _ _ _ _ _ _ _ c1 => dts_nil) (fun _ _ _ _ _ _ _ c1 => (de_callB cd_ord rfl T.f_ord rfl (da_cons (dv 3) da_nil)))) da_nil))))) ds_nil)
    (ds_cons (ds_set (i := 1) sc_code_of.nd rfl (.inl rfl) (de_newL (da_cons (de_gI T.i_TUPLE) (da_cons (de_bin od_fdiv (de_callB (cd_len S.c) rfl T.f_len rfl (da_cons (dv 0) da_nil)) de_int) (da_cons (de_bin od_mod (de_callB (cd_len S.c) rfl T.f_len rfl (da_cons (dv 0) da_nil)) de_int) da_nil)))))
    (ds_cons (ds_for (vs := [2]) S.c S.own (di_any S.c (dv 0)) (tg_name (i := 2) sc_code_of.nd rfl (.inl rfl) (by decide)) (ds_one (ds_expr (de_extend S.c (dv 1) (de_callTy (cd_list S.c) rfl T.f_list rfl (da_cons (dc S.c hr d_code_of rfl (da_cons (dv 2) da_nil)) da_nil))))))
    (ds_one (ds_ret (de_callTy (cd_tuple S.c) rfl T.f_tuple rfl (da_cons (dv 1) da_nil)))))))))))

/-! ### sign_of -/
noncomputable def b_sign_of  : DS := (seqS (ifS (boolT (chainE leD leD (constE (.int 48)) (varE 0) (constE (.int 57))))
  (retS (binE getD (constE (.str "0123456789")) (binE subD (varE 0) (constE (.int 48)))))
  skipS) (seqS (ifS (boolT (chainE leD leD (constE (.int 97)) (varE 0) (constE (.int 122))))
  (retS (binE getD (constE (.str "abcdefghijklmnopqrstuvwxyz")) (binE subD (varE 0) (constE (.int 97)))))
  skipS) (raiseS "BadRows")))
theorem sc_sign_of : FnScope ["byte"] ["byte"] (defScope (st 25)) := ⟨rfl, rfl, rfl, by decide +kernel, rfl, by decide +kernel, by decide +kernel⟩
theorem does_sign_of (T : Tops K mg) {k : Nat} (s : Stands K mg "sign_of" (st 25) ["byte"])  :
    Does P w K mg base (k + 1) "sign_of" ["byte"] (runFn 1 1 (b_sign_of )) :=
  s.does sc_sign_of fun f cdv A outer s H E W hr S => (ds_cons (ds_if (dt_chain od_le od_le de_int (dv 0) de_int) (ds_one (ds_ret (de_get S.c (de_gS T.s_FIGURES) (de_bin od_sub (dv 0) de_int)))) ds_nil)
    (ds_cons (ds_if (dt_chain od_le od_le de_int (dv 0) de_int) (ds_one (ds_ret (de_get S.c (de_gS T.s_LETTERS_codes) (de_bin od_sub (dv 0) de_int)))) ds_nil)
    (ds_one (dr S T.e_BadRows rfl))))

/-! ### take_item -/
noncomputable def b_take_item (c_number_of : Fn) (c_sign_of : Fn) (c_is_item : Fn) : DS := (seqS (ifS (boolT (binE geD (varE 2) (callE lenD (consA (varE 1) nilA))))
  (raiseS "BadRows")
  skipS) (seqS (asgS (nameG 3) (binE addD (varE 2) (constE (.int 5)))) (seqS (ifS (boolT (binE eqD (varE 0) (constE (.str "text"))))
  (asgS (nameG 3) (binE addD (varE 2) (binE getD (varE 1) (varE 2))))
  skipS) (seqS (ifS (orT (andT (boolT (binE eqD (varE 0) (constE (.str "number")))) (boolT (binE neD (binE getD (varE 1) (varE 2)) (constE (.int 0))))) (orT (boolT (binE leD (varE 3) (varE 2))) (boolT (binE gtD (varE 3) (callE lenD (consA (varE 1) nilA))))))
  (raiseS "BadRows")
  skipS) (seqS (ifS (boolT (binE eqD (varE 0) (constE (.str "number"))))
  (asgS (nameG 4) (binE addD (callE c_number_of (consA (sliceE (varE 1) (someP (binE addD (varE 2) (constE (.int 1)))) (someP (varE 3))) nilA)) (constE (.int (-2147483648)))))
  (asgS (nameG 4) (methS joinD (constE (.str "")) (lcE (srcE (sliceE (varE 1) (someP (binE addD (varE 2) (constE (.int 1)))) (someP (varE 3)))) (nameG 5) yesT (callE c_sign_of (consA (varE 5) nilA)) [5])))) (seqS (ifS (notT (truT (callE c_is_item (consA (varE 0) (consA (varE 4) nilA)))))
  (raiseS "BadRows")
  skipS) (retS (tupE (consA (varE 4) (consA (varE 3) nilA))))))))))
theorem sc_take_item : FnScope ["kind", "row", "place", "end", "item", "byte"] ["kind", "row", "place"] (defScope (st 26)) := ⟨rfl, rfl, rfl, by decide +kernel, rfl, by decide +kernel, by decide +kernel⟩
theorem does_take_item (T : Tops K mg) {k : Nat} (s : Stands K mg "take_item" (st 26) ["kind", "row", "place"]) {c_number_of : Fn} (d_number_of : Does P w K mg base k "number_of" ["row"] c_number_of) {c_sign_of : Fn} (d_sign_of : Does P w K mg base k "sign_of" ["byte"] c_sign_of) {c_is_item : Fn} (d_is_item : Does P w K mg base k "is_item" ["kind", "value"] c_is_item) :
    Does P w K mg base (k + 1) "take_item" ["kind", "row", "place"] (runFn 6 3 (b_take_item c_number_of c_sign_of c_is_item)) :=
  s.does sc_take_item fun f cdv A outer s H E W hr S => (ds_cons (ds_if (dt_cmp od_ge (dv 2) (de_callB (cd_len S.c) rfl T.f_len rfl (da_cons (dv 1) da_nil))) (ds_one (dr S T.e_BadRows rfl)) ds_nil)
    (ds_cons (ds_set (i := 3) sc_take_item.nd rfl (.inl rfl) (de_bin (od_add S.c) (dv 2) de_int))
    (ds_cons (ds_if (dt_cmp (od_eq S.c) (dv 0) de_str) (ds_one (ds_set (i := 3) sc_take_item.nd rfl (.inl rfl) (de_bin (od_add S.c) (dv 2) (de_get S.c (dv 1) (dv 2))))) ds_nil)
    (ds_cons (ds_if (PW.pt (dw_or (PW.pt (dw_and (dt_cmp (od_eq S.c) (dv 0) de_str) (dw_and1 (dt_cmp (od_ne S.c) (de_get S.c (dv 1) (dv 2)) de_int)))) (dw_or (dt_cmp od_le (dv 3) (dv 2)) (dw_or1 (dt_cmp od_gt (dv 3) (de_callB (cd_len S.c) rfl T.f_len rfl (da_cons (dv 1) da_nil))))))) (ds_one (dr S T.e_BadRows rfl)) ds_nil)
    (ds_cons (ds_if (dt_cmp (od_eq S.c) (dv 0) de_str) (ds_one (ds_set (i := 4) sc_take_item.nd rfl (.inl rfl) (de_bin (od_add S.c) (dc S.c hr d_number_of rfl (da_cons (de_slice S.c (dv 1) (do_some (de_bin (od_add S.c) (dv 2) de_int)) (do_some (dv 3))) da_nil)) (de_gI T.i_LEAST_NUMBER)))) (ds_one (ds_set (i := 4) sc_take_item.nd rfl (.inl rfl) (de_join S.c de_str (de_lc (own := [("byte", 5)]) S.c sc_take_item.nd (di_any S.c (de_slice S.c (dv 1) (do_some (de_bin (od_add S.c) (dv 2) de_int)) (do_some (dv 3)))) (blk_ok rfl) (fun _ _ _ _ _ _ _ c1 => (tg_name (i := 5) sc_take_item.nd rfl (.inl rfl) (by decide))) (fun _ _ _ _ _ _ _ c1 => dts_nil) (fun _ _ _ _ _ _ _ c1 => (dc c1 hr d_sign_of rfl (da_cons (dv 5) da_nil))))))))
    (ds_cons (ds_if (dt_not (dt_val S.c (dc S.c hr d_is_item rfl (da_cons (dv 0) (da_cons (dv 4) da_nil))))) (ds_one (dr S T.e_BadRows rfl)) ds_nil)
    (ds_one (ds_ret (de_tup (da_cons (dv 4) (da_cons (dv 3) da_nil)))))))))))

/-! ### take_items -/
noncomputable def b_take_items (c_take_item : Fn) : DS := (seqS (asgS (nameG 3) (newLE nilA)) (seqS (forS (srcE (varE 0)) (nameG 4) (seqS (asgS (tupG 2 (consG (nameG 5) (consG (nameG 2) nilG))) (callE c_take_item (consA (varE 4) (consA (varE 1) (consA (varE 2) nilA))))) (exprS (methL appD (varE 3) (consA (varE 5) nilA))))) (retS (tupE (consA (callE tupleD (consA (varE 3) nilA)) (consA (varE 2) nilA))))))
theorem sc_take_items : FnScope ["kinds", "row", "place", "found", "kind", "item"] ["kinds", "row", "place"] (defScope (st 27)) := ⟨rfl, rfl, rfl, by decide +kernel, rfl, by decide +kernel, by decide +kernel⟩
theorem does_take_items (T : Tops K mg) {k : Nat} (s : Stands K mg "take_items" (st 27) ["kinds", "row", "place"]) {c_take_item : Fn} (d_take_item : Does P w K mg base k "take_item" ["kind", "row", "place"] c_take_item) :
    Does P w K mg base (k + 1) "take_items" ["kinds", "row", "place"] (runFn 6 3 (b_take_items c_take_item)) :=
  s.does sc_take_items fun f cdv A outer s H E W hr S => (ds_cons (ds_set (i := 3) sc_take_items.nd rfl (.inl rfl) (de_newL da_nil))
    (ds_cons (ds_for (vs := [4]) S.c S.own (di_any S.c (dv 0)) (tg_name (i := 4) sc_take_items.nd rfl (.inl rfl) (by decide)) (ds_cons (ds_asg (vs := [5, 2]) (dc S.c hr d_take_item rfl (da_cons (dv 4) (da_cons (dv 1) (da_cons (dv 2) da_nil)))) (tg_tup S.c (tgs_cons (tg_name (i := 5) sc_take_items.nd rfl (.inl rfl) (by decide)) (tgs_cons (tg_name (i := 2) sc_take_items.nd rfl (.inl rfl) (by decide)) tgs_nil))))
    (ds_one (ds_expr (de_append S.c (dv 3) (dv 5))))))
    (ds_one (ds_ret (de_tup (da_cons (de_callTy (cd_tuple S.c) rfl T.f_tuple rfl (da_cons (dv 3) da_nil)) (da_cons (dv 2) da_nil)))))))

/-! ### items_of -/
noncomputable def b_items_of (c_take_items : Fn) : DS := (seqS (asgS (tupG 2 (consG (nameG 2) (consG (nameG 3) nilG))) (callE c_take_items (consA (varE 0) (consA (varE 1) (consA (constE (.int 0)) nilA))))) (seqS (ifS (boolT (binE neD (varE 3) (callE lenD (consA (varE 1) nilA))))
  (raiseS "BadRows")
  skipS) (retS (varE 2))))
theorem sc_items_of : FnScope ["kinds", "row", "found", "place"] ["kinds", "row"] (defScope (st 28)) := ⟨rfl, rfl, rfl, by decide +kernel, rfl, by decide +kernel, by decide +kernel⟩
theorem does_items_of (T : Tops K mg) {k : Nat} (s : Stands K mg "items_of" (st 28) ["kinds", "row"]) {c_take_items : Fn} (d_take_items : Does P w K mg base k "take_items" ["kinds", "row", "place"] c_take_items) :
    Does P w K mg base (k + 1) "items_of" ["kinds", "row"] (runFn 4 2 (b_items_of c_take_items)) :=
  s.does sc_items_of fun f cdv A outer s H E W hr S => (ds_cons (ds_asg (vs := [2, 3]) (dc S.c hr d_take_items rfl (da_cons (dv 0) (da_cons (dv 1) (da_cons de_int da_nil)))) (tg_tup S.c (tgs_cons (tg_name (i := 2) sc_items_of.nd rfl (.inl rfl) (by decide)) (tgs_cons (tg_name (i := 3) sc_items_of.nd rfl (.inl rfl) (by decide)) tgs_nil))))
    (ds_cons (ds_if (dt_cmp (od_ne S.c) (dv 3) (de_callB (cd_len S.c) rfl T.f_len rfl (da_cons (dv 1) da_nil))) (ds_one (dr S T.e_BadRows rfl)) ds_nil)
    (ds_one (ds_ret (dv 2)))))

/-! ### sum_bytes -/
noncomputable def b_sum_bytes  : DS := (seqS (asgS (nameG 1) (constE (.int 1))) (seqS (forS (srcE (varE 0)) (nameG 2) (asgS (nameG 1) (binE modD (binE addD (binE addD (binE mulD (varE 1) (constE (.int (972663749)))) (varE 2)) (constE (.int 1))) (constE (.int (2305843009213693951)))))) (retS (varE 1))))
theorem sc_sum_bytes : FnScope ["row", "told", "byte"] ["row"] (defScope (st 29)) := ⟨rfl, rfl, rfl, by decide +kernel, rfl, by decide +kernel, by decide +kernel⟩
theorem does_sum_bytes (T : Tops K mg) {k : Nat} (s : Stands K mg "sum_bytes" (st 29) ["row"])  :
    Does P w K mg base (k + 1) "sum_bytes" ["row"] (runFn 3 1 (b_sum_bytes )) :=
  s.does sc_sum_bytes fun f cdv A outer s H E W hr S => (ds_cons (ds_set (i := 1) sc_sum_bytes.nd rfl (.inl rfl) de_int)
    (ds_cons (ds_for (vs := [2]) S.c S.own (di_any S.c (dv 0)) (tg_name (i := 2) sc_sum_bytes.nd rfl (.inl rfl) (by decide)) (ds_one (ds_set (i := 1) sc_sum_bytes.nd rfl (.inl rfl) (de_bin od_mod (de_bin (od_add S.c) (de_bin (od_add S.c) (de_bin od_mul (dv 1) (de_gI T.i_SUM_TIMES)) (dv 2)) de_int) (de_gI T.i_SUM_MODULUS)))))
    (ds_one (ds_ret (dv 1)))))

/-! ### _law_bag -/
noncomputable def b__law_bag  : DS := (seqS (asgS (nameG 2) (constE (.int 0))) (seqS (ifS (boolT (binE ltD (varE 1) (callE lenD (consA (varE 0) nilA))))
  (asgS (nameG 2) (callE intD (consA (binE getD (varE 0) (varE 1)) nilA)))
  skipS) (seqS (ifS (boolT (binE geD (varE 2) (binE powD (constE (.int 10)) (constE (.int 18)))))
  (retS (newLE (consA (varE 2) (consA (varE 2) (consA (varE 1) nilA)))))
  skipS) (retS (newLE (consA (constE (.int 0)) (consA (varE 2) (consA (varE 1) nilA))))))))
theorem sc__law_bag : FnScope ["script", "k", "cell"] ["script", "k"] (defScope (st 31)) := ⟨rfl, rfl, rfl, by decide +kernel, rfl, by decide +kernel, by decide +kernel⟩
theorem does__law_bag (T : Tops K mg) {k : Nat} (s : Stands K mg "_law_bag" (st 31) ["script", "k"])  :
    Does P w K mg base (k + 1) "_law_bag" ["script", "k"] (runFn 3 2 (b__law_bag )) :=
  s.does sc__law_bag fun f cdv A outer s H E W hr S => (ds_cons (ds_set (i := 2) sc__law_bag.nd rfl (.inl rfl) de_int)
    (ds_cons (ds_if (dt_cmp od_lt (dv 1) (de_callB (cd_len S.c) rfl T.f_len rfl (da_cons (dv 0) da_nil))) (ds_one (ds_set (i := 2) sc__law_bag.nd rfl (.inl rfl) (de_callTy cd_int rfl T.f_int rfl (da_cons (de_get S.c (dv 0) (dv 1)) da_nil)))) ds_nil)
    (ds_cons (ds_if (dt_cmp od_ge (dv 2) (de_bin od_pow de_int de_int)) (ds_one (ds_ret (de_newL (da_cons (dv 2) (da_cons (dv 2) (da_cons (dv 1) da_nil)))))) ds_nil)
    (ds_one (ds_ret (de_newL (da_cons de_int (da_cons (dv 2) (da_cons (dv 1) da_nil)))))))))

/-! ### _law_draw -/
noncomputable def b__law_draw  : DS := (seqS (ifS (boolT (binE eqD (binE getD (varE 0) (constE (.int 0))) (constE (.int 0))))
  (seqS (asgS (nameG 2) (binE modD (callE intD (consA (binE addD (binE addD (binE mulD (binE getD (varE 0) (constE (.int 1))) (constE (.int 48271))) (binE mulD (binE getD (varE 0) (constE (.int 2))) (constE (.int 69621)))) (constE (.int 11))) nilA)) (constE (.int 2147483647)))) (seqS (asgSub setD (binE addD (binE mulD (varE 2) (constE (.int 2147483629))) (binE modD (callE intD (consA (binE addD (binE mulD (varE 2) (varE 2)) (binE mulD (binE getD (varE 0) (constE (.int 2))) (constE (.int 16807)))) nilA)) (constE (.int 2147483629)))) (varE 0) (constE (.int 0))) (asgSub setD (varE 2) (varE 0) (constE (.int 1)))))
  skipS) (seqS (asgS (nameG 3) (binE getD (varE 0) (constE (.int 0)))) (seqS (asgSub setD (binE fdivD (varE 3) (varE 1)) (varE 0) (constE (.int 0))) (retS (binE modD (callE intD (consA (varE 3) nilA)) (varE 1))))))
theorem sc__law_draw : FnScope ["bag", "many", "seed", "rest"] ["bag", "many"] (defScope (st 32)) := ⟨rfl, rfl, rfl, by decide +kernel, rfl, by decide +kernel, by decide +kernel⟩
theorem does__law_draw (T : Tops K mg) {k : Nat} (s : Stands K mg "_law_draw" (st 32) ["bag", "many"])  :
    Does P w K mg base (k + 1) "_law_draw" ["bag", "many"] (runFn 4 2 (b__law_draw )) :=
  s.does sc__law_draw fun f cdv A outer s H E W hr S => (ds_cons (ds_if (dt_cmp (od_eq S.c) (de_get S.c (dv 0) de_int) de_int) (ds_cons (ds_set (i := 2) sc__law_draw.nd rfl (.inl rfl) (de_bin od_mod (de_callTy cd_int rfl T.f_int rfl (da_cons (de_bin (od_add S.c) (de_bin (od_add S.c) (de_bin od_mul (de_get S.c (dv 0) de_int) de_int) (de_bin od_mul (de_get S.c (dv 0) de_int) de_int)) de_int) da_nil)) de_int))
    (ds_cons (ds_asgSub (de_bin (od_add S.c) (de_bin od_mul (dv 2) de_int) (de_bin od_mod (de_callTy cd_int rfl T.f_int rfl (da_cons (de_bin (od_add S.c) (de_bin od_mul (dv 2) (dv 2)) (de_bin od_mul (de_get S.c (dv 0) de_int) de_int)) da_nil)) de_int)) (dv 0) de_int sd_list)
    (ds_one (ds_asgSub (dv 2) (dv 0) de_int sd_list)))) ds_nil)
    (ds_cons (ds_set (i := 3) sc__law_draw.nd rfl (.inl rfl) (de_get S.c (dv 0) de_int))
    (ds_cons (ds_asgSub (de_bin od_fdiv (dv 3) (dv 1)) (dv 0) de_int sd_list)
    (ds_one (ds_ret (de_bin od_mod (de_callTy cd_int rfl T.f_int rfl (da_cons (dv 3) da_nil)) (dv 1)))))))

/-! ### _law_item -/
noncomputable def b__law_item (c__law_draw : Fn) : DS := (seqS (ifS (boolT (binE eqD (varE 1) (constE (.str "number"))))
  (retS (binE getD (lstE (consA (negE (constE (.int 2147483648))) (consA (negE (constE (.int 1))) (consA (constE (.int 0)) (consA (constE (.int 1)) (consA (constE (.int 2)) (consA (constE (.int 3)) (consA (constE (.int 5)) (consA (constE (.int 2147483647)) nilA))))))))) (callE c__law_draw (consA (varE 0) (consA (constE (.int 8)) nilA)))))
  skipS) (retS (binE getD (lstE (consA (constE (.str "")) (consA (constE (.str "a")) (consA (constE (.str "b")) (consA (constE (.str "ab")) (consA (constE (.str "z9")) (consA (constE (.str "0")) (consA (constE (.str "abcdefghijkl")) nilA)))))))) (callE c__law_draw (consA (varE 0) (consA (constE (.int 7)) nilA))))))
theorem sc__law_item : FnScope ["bag", "kind"] ["bag", "kind"] (defScope (st 33)) := ⟨rfl, rfl, rfl, by decide +kernel, rfl, by decide +kernel, by decide +kernel⟩
theorem does__law_item (T : Tops K mg) {k : Nat} (s : Stands K mg "_law_item" (st 33) ["bag", "kind"]) {c__law_draw : Fn} (d__law_draw : Does P w K mg base k "_law_draw" ["bag", "many"] c__law_draw) :
    Does P w K mg base (k + 1) "_law_item" ["bag", "kind"] (runFn 2 2 (b__law_item c__law_draw)) :=
  s.does sc__law_item fun f cdv A outer s H E W hr S => (ds_cons (ds_if (dt_cmp (od_eq S.c) (dv 1) de_str) (ds_one (ds_ret (de_get S.c (de_lst (da_cons (de_neg de_int) (da_cons (de_neg de_int) (da_cons de_int (da_cons de_int (da_cons de_int (da_cons de_int (da_cons de_int (da_cons de_int da_nil))))))))) (dc S.c hr d__law_draw rfl (da_cons (dv 0) (da_cons de_int da_nil)))))) ds_nil)
    (ds_one (ds_ret (de_get S.c (de_lst (da_cons de_str (da_cons de_str (da_cons de_str (da_cons de_str (da_cons de_str (da_cons de_str (da_cons de_str da_nil)))))))) (dc S.c hr d__law_draw rfl (da_cons (dv 0) (da_cons de_int da_nil)))))))

/-! ### _law_split -/
noncomputable def b__law_split  : DS := (retS (callE tupleD (consA (lcE (rangeE rangeD1 (consA (varE 1) nilA)) (nameG 2) yesT (binE andD (binE shrD (varE 0) (binE mulD (constE (.int 8)) (binE subD (binE subD (varE 1) (constE (.int 1))) (varE 2)))) (constE (.int 255))) [2]) nilA)))
theorem sc__law_split : FnScope ["n", "many", "k"] ["n", "many"] (defScope (st 43)) := ⟨rfl, rfl, rfl, by decide +kernel, rfl, by decide +kernel, by decide +kernel⟩
theorem does__law_split (T : Tops K mg) {k : Nat} (s : Stands K mg "_law_split" (st 43) ["n", "many"])  :
    Does P w K mg base (k + 1) "_law_split" ["n", "many"] (runFn 3 2 (b__law_split )) :=
  s.does sc__law_split fun f cdv A outer s H E W hr S => (ds_one (ds_ret (de_callTy (cd_tuple S.c) rfl T.f_tuple rfl (da_cons (de_lc (own := [("k", 2)]) S.c sc__law_split.nd (di_range1 rfl T.f_range (da_cons (dv 1) da_nil)) (blk_ok rfl) (fun _ _ _ _ _ _ _ c1 => (tg_name (i := 2) sc__law_split.nd rfl (.inl rfl) (by decide))) (fun _ _ _ _ _ _ _ c1 => dts_nil) (fun _ _ _ _ _ _ _ c1 => (de_bin od_and (de_bin od_shr (dv 0) (de_bin od_mul de_int (de_bin od_sub (de_bin od_sub (dv 1) de_int) (dv 2)))) de_int))) da_nil))))

/-! ### _law_join -/
noncomputable def b__law_join  : DS := (seqS (asgS (nameG 1) (constE (.int 0))) (seqS (forS (srcE (varE 0)) (nameG 2) (asgS (nameG 1) (binE addD (binE mulD (varE 1) (constE (.int 256))) (varE 2)))) (retS (varE 1))))
theorem sc__law_join : FnScope ["row", "n", "byte"] ["row"] (defScope (st 44)) := ⟨rfl, rfl, rfl, by decide +kernel, rfl, by decide +kernel, by decide +kernel⟩
theorem does__law_join (T : Tops K mg) {k : Nat} (s : Stands K mg "_law_join" (st 44) ["row"])  :
    Does P w K mg base (k + 1) "_law_join" ["row"] (runFn 3 1 (b__law_join )) :=
  s.does sc__law_join fun f cdv A outer s H E W hr S => (ds_cons (ds_set (i := 1) sc__law_join.nd rfl (.inl rfl) de_int)
    (ds_cons (ds_for (vs := [2]) S.c S.own (di_any S.c (dv 0)) (tg_name (i := 2) sc__law_join.nd rfl (.inl rfl) (by decide)) (ds_one (ds_set (i := 1) sc__law_join.nd rfl (.inl rfl) (de_bin (od_add S.c) (de_bin od_mul (dv 1) de_int) (dv 2)))))
    (ds_one (ds_ret (dv 1)))))

/-! ### _law_sum -/
noncomputable def b__law_sum  : DS := (seqS (asgS (nameG 1) (constE (.int 1))) (seqS (forS (srcE (varE 0)) (nameG 2) (asgS (nameG 1) (binE modD (binE addD (binE addD (binE mulD (varE 1) (constE (.int 972663749))) (varE 2)) (constE (.int 1))) (constE (.int 2305843009213693951))))) (retS (varE 1))))
theorem sc__law_sum : FnScope ["row", "told", "byte"] ["row"] (defScope (st 45)) := ⟨rfl, rfl, rfl, by decide +kernel, rfl, by decide +kernel, by decide +kernel⟩
theorem does__law_sum (T : Tops K mg) {k : Nat} (s : Stands K mg "_law_sum" (st 45) ["row"])  :
    Does P w K mg base (k + 1) "_law_sum" ["row"] (runFn 3 1 (b__law_sum )) :=
  s.does sc__law_sum fun f cdv A outer s H E W hr S => (ds_cons (ds_set (i := 1) sc__law_sum.nd rfl (.inl rfl) de_int)
    (ds_cons (ds_for (vs := [2]) S.c S.own (di_any S.c (dv 0)) (tg_name (i := 2) sc__law_sum.nd rfl (.inl rfl) (by decide)) (ds_one (ds_set (i := 1) sc__law_sum.nd rfl (.inl rfl) (de_bin od_mod (de_bin (od_add S.c) (de_bin (od_add S.c) (de_bin od_mul (dv 1) de_int) (dv 2)) de_int) de_int))))
    (ds_one (ds_ret (dv 1)))))

/-! ### _law_code -/
noncomputable def b__law_code (c__law_split : Fn) (c__law_code : Fn) : DS := (seqS (ifS (boolT (binE isD (varE 0) (constE .non)))
  (retS (tupE (consA (constE (.int 100)) nilA)))
  skipS) (seqS (ifS (truT (isiE "bool" (varE 0)))
  (retS (tupE (consA (binE addD (constE (.int 101)) (callE intD (consA (varE 0) nilA))) nilA)))
  skipS) (seqS (ifS (truT (isiE "int" (varE 0)))
  (retS (binE addD (tupE (consA (constE (.int 0)) nilA)) (callE c__law_split (consA (binE addD (varE 0) (constE (.int 2147483648))) (consA (constE (.int 4)) nilA)))))
  skipS) (seqS (ifS (truT (isiE "str" (varE 0)))
  (retS (binE addD (tupE (consA (binE addD (constE (.int 1)) (callE lenD (consA (varE 0) nilA))) nilA)) (callE tupleD (consA (lcE (srcE (varE 0)) (nameG 3) yesT (callE ordD (consA (varE 3) nilA)) [3]) nilA))))
  skipS) (seqS (asgS (nameG 1) (binE addD (tupE (consA (constE (.int 103)) nilA)) (callE c__law_split (consA (callE lenD (consA (varE 0) nilA)) (consA (constE (.int 2)) nilA))))) (seqS (forS (srcE (varE 0)) (nameG 2) (asgS (nameG 1) (binE addD (varE 1) (callE c__law_code (consA (varE 2) nilA))))) (retS (varE 1))))))))
theorem sc__law_code : FnScope ["value", "told", "one", "sign"] ["value"] (defScope (st 46)) := ⟨rfl, rfl, rfl, by decide +kernel, rfl, by decide +kernel, by decide +kernel⟩
theorem does__law_code (T : Tops K mg) {k : Nat} (s : Stands K mg "_law_code" (st 46) ["value"]) {c__law_split : Fn} (d__law_split : Does P w K mg base k "_law_split" ["n", "many"] c__law_split) {c__law_code : Fn} (d__law_code : Does P w K mg base k "_law_code" ["value"] c__law_code) :
    Does P w K mg base (k + 1) "_law_code" ["value"] (runFn 4 1 (b__law_code c__law_split c__law_code)) :=
  s.does sc__law_code fun f cdv A outer s H E W hr S => (ds_cons (ds_if (dt_cmp od_is (dv 0) de_non) (ds_one (ds_ret (de_tup (da_cons de_int da_nil)))) ds_nil)
    (ds_cons (ds_if (dt_val S.c (de_isi S.c isiT_bool rfl T.f_isinstance rfl T.f_bool rfl (dv 0))) (ds_one (ds_ret (de_tup (da_cons (de_bin (od_add S.c) de_int (de_callTy cd_int rfl T.f_int rfl (da_cons (dv 0) da_nil))) da_nil)))) ds_nil)
    (ds_cons (ds_if (dt_val S.c (de_isi S.c isiT_int rfl T.f_isinstance rfl T.f_int rfl (dv 0))) (ds_one (ds_ret (de_bin (od_add S.c) (de_tup (da_cons de_int da_nil)) (dc S.c hr d__law_split rfl (da_cons (de_bin (od_add S.c) (dv 0) de_int) (da_cons de_int da_nil)))))) ds_nil)
    (ds_cons (ds_if (dt_val S.c (de_isi S.c isiT_str rfl T.f_isinstance rfl T.f_str rfl (dv 0))) (ds_one (ds_ret (de_bin (od_add S.c) (de_tup (da_cons (de_bin (od_add S.c) de_int (de_callB (cd_len S.c) rfl T.f_len rfl (da_cons (dv 0) da_nil))) da_nil)) (de_callTy (cd_tuple S.c) rfl T.f_tuple rfl (da_cons (de_lc (own := [("sign", 3)]) S.c sc__law_code.nd (di_any S.c (dv 0)) (blk_ok rfl) (fun _ _ _ _ _ _ _ c1 => (tg_name (i := 3) sc__law_code.nd rfl (.inl rfl) (by decide))) (fun _ _ _ _ _ _ _ c1 => dts_nil) (fun _ _ _ _ _ _ _ c1 => (de_callB cd_ord rfl T.f_ord rfl (da_cons (dv 3) da_nil)))) da_nil))))) ds_nil)
    (ds_cons (ds_set (i := 1) sc__law_code.nd rfl (.inl rfl) (de_bin (od_add S.c) (de_tup (da_cons de_int da_nil)) (dc S.c hr d__law_split rfl (da_cons (de_callB (cd_len S.c) rfl T.f_len rfl (da_cons (dv 0) da_nil)) (da_cons de_int da_nil)))))
    (ds_cons (ds_for (vs := [2]) S.c S.own (di_any S.c (dv 0)) (tg_name (i := 2) sc__law_code.nd rfl (.inl rfl) (by decide)) (ds_one (ds_set (i := 1) sc__law_code.nd rfl (.inl rfl) (de_bin (od_add S.c) (dv 1) (dc S.c hr d__law_code rfl (da_cons (dv 2) da_nil))))))
    (ds_one (ds_ret (dv 1)))))))))

/-! ### _law_codes -/
noncomputable def b__law_codes (c__law_code : Fn) : DS := (seqS (asgS (nameG 1) (tupE nilA)) (seqS (forS (srcE (varE 0)) (nameG 2) (asgS (nameG 1) (binE addD (varE 1) (callE c__law_code (consA (varE 2) nilA))))) (retS (varE 1))))
theorem sc__law_codes : FnScope ["items", "told", "item"] ["items"] (defScope (st 47)) := ⟨rfl, rfl, rfl, by decide +kernel, rfl, by decide +kernel, by decide +kernel⟩
theorem does__law_codes (T : Tops K mg) {k : Nat} (s : Stands K mg "_law_codes" (st 47) ["items"]) {c__law_code : Fn} (d__law_code : Does P w K mg base k "_law_code" ["value"] c__law_code) :
    Does P w K mg base (k + 1) "_law_codes" ["items"] (runFn 3 1 (b__law_codes c__law_code)) :=
  s.does sc__law_codes fun f cdv A outer s H E W hr S => (ds_cons (ds_set (i := 1) sc__law_codes.nd rfl (.inl rfl) (de_tup da_nil))
    (ds_cons (ds_for (vs := [2]) S.c S.own (di_any S.c (dv 0)) (tg_name (i := 2) sc__law_codes.nd rfl (.inl rfl) (by decide)) (ds_one (ds_set (i := 1) sc__law_codes.nd rfl (.inl rfl) (de_bin (od_add S.c) (dv 1) (dc S.c hr d__law_code rfl (da_cons (dv 2) da_nil))))))
    (ds_one (ds_ret (dv 1)))))

/-! ### _law_is_same -/
noncomputable def b__law_is_same (c__law_is_same : Fn) : DS := (seqS (ifS (truT (isiE "tuple" (varE 1)))
  (seqS (ifS (orT (notT (truT (isiE "tuple" (varE 0)))) (boolT (binE neD (callE lenD (consA (varE 0) nilA)) (callE lenD (consA (varE 1) nilA)))))
  (retS (constE (.bl false)))
  skipS) (retS (callE allD (consA (lcE (rangeE rangeD1 (consA (callE lenD (consA (varE 1) nilA)) nilA)) (nameG 2) yesT (callE c__law_is_same (consA (binE getD (varE 0) (varE 2)) (consA (binE getD (varE 1) (varE 2)) nilA))) [2]) nilA))))
  skipS) (seqS (ifS (truT (isiE "str" (varE 1)))
  (retS (andE (isiE "str" (varE 0)) (binE eqD (varE 0) (varE 1))))
  skipS) (seqS (ifS (boolT (binE isD (varE 1) (constE .non)))
  (retS (binE isD (varE 0) (constE .non)))
  skipS) (retS (andE (isiE "int" (varE 0)) (andE (notE (isiE "bool" (varE 0))) (binE eqD (varE 0) (varE 1))))))))
theorem sc__law_is_same : FnScope ["told", "due", "k"] ["told", "due"] (defScope (st 48)) := ⟨rfl, rfl, rfl, by decide +kernel, rfl, by decide +kernel, by decide +kernel⟩
theorem does__law_is_same (T : Tops K mg) {k : Nat} (s : Stands K mg "_law_is_same" (st 48) ["told", "due"]) {c__law_is_same : Fn} (d__law_is_same : Does P w K mg base k "_law_is_same" ["told", "due"] c__law_is_same) :
    Does P w K mg base (k + 1) "_law_is_same" ["told", "due"] (runFn 3 2 (b__law_is_same c__law_is_same)) :=
  s.does sc__law_is_same fun f cdv A outer s H E W hr S => (ds_cons (ds_if (dt_val S.c (de_isi S.c isiT_tuple rfl T.f_isinstance rfl T.f_tuple rfl (dv 1))) (ds_cons (ds_if (PW.pt (dw_or (dt_not (dt_val S.c (de_isi S.c isiT_tuple rfl T.f_isinstance rfl T.f_tuple rfl (dv 0)))) (dw_or1 (dt_cmp (od_ne S.c) (de_callB (cd_len S.c) rfl T.f_len rfl (da_cons (dv 0) da_nil)) (de_callB (cd_len S.c) rfl T.f_len rfl (da_cons (dv 1) da_nil)))))) (ds_one (ds_ret de_bl)) ds_nil)
    (ds_one (ds_ret (de_callB (cd_all S.c) rfl T.f_all rfl (da_cons (de_lc (own := [("k", 2)]) S.c sc__law_is_same.nd (di_range1 rfl T.f_range (da_cons (de_callB (cd_len S.c) rfl T.f_len rfl (da_cons (dv 1) da_nil)) da_nil)) (blk_ok rfl) (fun _ _ _ _ _ _ _ c1 => (tg_name (i := 2) sc__law_is_same.nd rfl (.inl rfl) (by decide))) (fun _ _ _ _ _ _ _ c1 => dts_nil) (fun _ _ _ _ _ _ _ c1 => (dc c1 hr d__law_is_same rfl (da_cons (de_get c1 (dv 0) (dv 2)) (da_cons (de_get c1 (dv 1) (dv 2)) da_nil))))) da_nil))))) ds_nil)
    (ds_cons (ds_if (dt_val S.c (de_isi S.c isiT_str rfl T.f_isinstance rfl T.f_str rfl (dv 1))) (ds_one (ds_ret (de_and (de_isi S.c isiT_str rfl T.f_isinstance rfl T.f_str rfl (dv 0)) (de_one (de_cmp (od_eq S.c) (dv 0) (dv 1)))))) ds_nil)
    (ds_cons (ds_if (dt_cmp od_is (dv 1) de_non) (ds_one (ds_ret (de_cmp od_is (dv 0) de_non))) ds_nil)
    (ds_one (ds_ret (de_and (de_isi S.c isiT_int rfl T.f_isinstance rfl T.f_int rfl (dv 0)) (de_and (de_not (de_isi S.c isiT_bool rfl T.f_isinstance rfl T.f_bool rfl (dv 0))) (de_one (de_cmp (od_eq S.c) (dv 0) (dv 1))))))))))

/-! ### _law_value -/
noncomputable def b__law_value (c__law_draw : Fn) (c__law_item : Fn) (c__law_value : Fn) : DS := (seqS (asgS (nameG 2) (callE c__law_draw (consA (varE 0) (consA (constE (.int 8)) nilA)))) (seqS (ifS (boolT (binE eqD (varE 2) (constE (.int 0))))
  (retS (binE getD (lstE (consA (constE .non) (consA (constE (.bl true)) (consA (constE (.bl false)) (consA (constE (.str "<=")) (consA (constE (.str "greatest")) (consA (constE (.str "A b")) (consA (tupE nilA) nilA)))))))) (callE c__law_draw (consA (varE 0) (consA (constE (.int 7)) nilA)))))
  skipS) (seqS (ifS (orT (boolT (binE ltD (varE 2) (constE (.int 4)))) (boolT (binE eqD (varE 1) (constE (.int 0)))))
  (retS (callE c__law_item (consA (varE 0) (consA (binE getD (lstE (consA (constE (.str "number")) (consA (constE (.str "text")) nilA))) (callE c__law_draw (consA (varE 0) (consA (constE (.int 2)) nilA)))) nilA))))
  skipS) (retS (callE tupleD (consA (lcE (rangeE rangeD1 (consA (binE getD (lstE (consA (constE (.int 0)) (consA (constE (.int 1)) (consA (constE (.int 2)) (consA (constE (.int 4)) (consA (constE (.int 300)) nilA)))))) (callE c__law_draw (consA (varE 0) (consA (binE addD (constE (.int 4)) (callE intD (consA (binE eqD (varE 1) (constE (.int 1))) nilA))) nilA)))) nilA)) (nameG 3) yesT (callE c__law_value (consA (varE 0) (consA (binE subD (varE 1) (constE (.int 1))) nilA))) [3]) nilA))))))
theorem sc__law_value : FnScope ["bag", "depth", "pick", "k"] ["bag", "depth"] (defScope (st 49)) := ⟨rfl, rfl, rfl, by decide +kernel, rfl, by decide +kernel, by decide +kernel⟩
theorem does__law_value (T : Tops K mg) {k : Nat} (s : Stands K mg "_law_value" (st 49) ["bag", "depth"]) {c__law_draw : Fn} (d__law_draw : Does P w K mg base k "_law_draw" ["bag", "many"] c__law_draw) {c__law_item : Fn} (d__law_item : Does P w K mg base k "_law_item" ["bag", "kind"] c__law_item) {c__law_value : Fn} (d__law_value : Does P w K mg base k "_law_value" ["bag", "depth"] c__law_value) :
    Does P w K mg base (k + 1) "_law_value" ["bag", "depth"] (runFn 4 2 (b__law_value c__law_draw c__law_item c__law_value)) :=
  s.does sc__law_value fun f cdv A outer s H E W hr S => (ds_cons (ds_set (i := 2) sc__law_value.nd rfl (.inl rfl) (dc S.c hr d__law_draw rfl (da_cons (dv 0) (da_cons de_int da_nil))))
    (ds_cons (ds_if (dt_cmp (od_eq S.c) (dv 2) de_int) (ds_one (ds_ret (de_get S.c (de_lst (da_cons de_non (da_cons de_bl (da_cons de_bl (da_cons de_str (da_cons de_str (da_cons de_str (da_cons (de_tup da_nil) da_nil)))))))) (dc S.c hr d__law_draw rfl (da_cons (dv 0) (da_cons de_int da_nil)))))) ds_nil)
    (ds_cons (ds_if (PW.pt (dw_or (dt_cmp od_lt (dv 2) de_int) (dw_or1 (dt_cmp (od_eq S.c) (dv 1) de_int)))) (ds_one (ds_ret (dc S.c hr d__law_item rfl (da_cons (dv 0) (da_cons (de_get S.c (de_lst (da_cons de_str (da_cons de_str da_nil))) (dc S.c hr d__law_draw rfl (da_cons (dv 0) (da_cons de_int da_nil)))) da_nil))))) ds_nil)
    (ds_one (ds_ret (de_callTy (cd_tuple S.c) rfl T.f_tuple rfl (da_cons (de_lc (own := [("k", 3)]) S.c sc__law_value.nd (di_range1 rfl T.f_range (da_cons (de_get S.c (de_lst (da_cons de_int (da_cons de_int (da_cons de_int (da_cons de_int (da_cons de_int da_nil)))))) (dc S.c hr d__law_draw rfl (da_cons (dv 0) (da_cons (de_bin (od_add S.c) de_int (de_callTy cd_int rfl T.f_int rfl (da_cons (de_cmp (od_eq S.c) (dv 1) de_int) da_nil))) da_nil)))) da_nil)) (blk_ok rfl) (fun _ _ _ _ _ _ _ c1 => (tg_name (i := 3) sc__law_value.nd rfl (.inl rfl) (by decide))) (fun _ _ _ _ _ _ _ c1 => dts_nil) (fun _ _ _ _ _ _ _ c1 => (dc c1 hr d__law_value rfl (da_cons (dv 0) (da_cons (de_bin od_sub (dv 1) de_int) da_nil))))) da_nil)))))))

/-! ### _law_read -/
noncomputable def b__law_read (c__law_join : Fn) (c__law_sign : Fn) : DS := (seqS (asgS (nameG 2) (newLE nilA)) (seqS (forS (srcE (varE 0)) (nameG 3) (seqS (ifS (boolT (binE eqD (varE 1) (tupE nilA)))
  (retS (constE .non))
  skipS) (seqS (asgS (nameG 4) (binE getD (lstE (consA (constE (.int 5)) (consA (binE getD (varE 1) (constE (.int 0))) nilA))) (callE intD (consA (binE eqD (varE 3) (constE (.str "text"))) nilA)))) (seqS (ifS (orT (boolT (binE eqD (varE 4) (constE (.int 0)))) (orT (boolT (binE ltD (callE lenD (consA (varE 1) nilA)) (varE 4))) (orT (andT (boolT (binE eqD (varE 3) (constE (.str "number")))) (boolT (binE neD (binE getD (varE 1) (constE (.int 0))) (constE (.int 0))))) (boolT (binE gtD (varE 4) (constE (.int 13)))))))
  (retS (constE .non))
  skipS) (seqS (ifS (boolT (binE eqD (varE 3) (constE (.str "number"))))
  (exprS (methL appD (varE 2) (consA (binE subD (callE c__law_join (consA (sliceE (varE 1) (someP (constE (.int 1))) (someP (constE (.int 5)))) nilA)) (constE (.int 2147483648))) nilA)))
  (seqS (asgS (nameG 5) (lcE (srcE (lcE (srcE (sliceE (varE 1) (someP (constE (.int 1))) (someP (varE 4)))) (nameG 7) yesT (callE c__law_sign (consA (varE 7) nilA)) [7])) (nameG 6) yesT (methS findD (constE (.str "0123456789abcdefghijklmnopqrstuvwxyz")) (varE 6)) [6])) (seqS (ifS (boolT (binE inD (negE (constE (.int 1))) (varE 5)))
  (retS (constE .non))
  skipS) (exprS (methL appD (varE 2) (consA (methS joinD (constE (.str "")) (lcE (srcE (sliceE (varE 1) (someP (constE (.int 1))) (someP (varE 4)))) (nameG 7) yesT (callE c__law_sign (consA (varE 7) nilA)) [7])) nilA)))))) (asgS (nameG 1) (sliceE (varE 1) (someP (varE 4)) noP))))))) (seqS (ifS (boolT (binE neD (varE 1) (tupE nilA)))
  (retS (constE .non))
  skipS) (retS (callE tupleD (consA (varE 2) nilA))))))
theorem sc__law_read : FnScope ["kinds", "row", "found", "kind", "end", "signs", "sign", "byte"] ["kinds", "row"] (defScope (st 50)) := ⟨rfl, rfl, rfl, by decide +kernel, rfl, by decide +kernel, by decide +kernel⟩
theorem does__law_read (T : Tops K mg) {k : Nat} (s : Stands K mg "_law_read" (st 50) ["kinds", "row"]) {c__law_join : Fn} (d__law_join : Does P w K mg base k "_law_join" ["row"] c__law_join) {c__law_sign : Fn} (d__law_sign : Does P w K mg base k "_law_sign" ["byte"] c__law_sign) :
    Does P w K mg base (k + 1) "_law_read" ["kinds", "row"] (runFn 8 2 (b__law_read c__law_join c__law_sign)) :=
  s.does sc__law_read fun f cdv A outer s H E W hr S => (ds_cons (ds_set (i := 2) sc__law_read.nd rfl (.inl rfl) (de_newL da_nil))
    (ds_cons (ds_for (vs := [3]) S.c S.own (di_any S.c (dv 0)) (tg_name (i := 3) sc__law_read.nd rfl (.inl rfl) (by decide)) (ds_cons (ds_if (dt_cmp (od_eq S.c) (dv 1) (de_tup da_nil)) (ds_one (ds_ret de_non)) ds_nil)
    (ds_cons (ds_set (i := 4) sc__law_read.nd rfl (.inl rfl) (de_get S.c (de_lst (da_cons de_int (da_cons (de_get S.c (dv 1) de_int) da_nil))) (de_callTy cd_int rfl T.f_int rfl (da_cons (de_cmp (od_eq S.c) (dv 3) de_str) da_nil))))
    (ds_cons (ds_if (PW.pt (dw_or (dt_cmp (od_eq S.c) (dv 4) de_int) (dw_or (dt_cmp od_lt (de_callB (cd_len S.c) rfl T.f_len rfl (da_cons (dv 1) da_nil)) (dv 4)) (dw_or (PW.pt (dw_and (dt_cmp (od_eq S.c) (dv 3) de_str) (dw_and1 (dt_cmp (od_ne S.c) (de_get S.c (dv 1) de_int) de_int)))) (dw_or1 (dt_cmp od_gt (dv 4) de_int)))))) (ds_one (ds_ret de_non)) ds_nil)
    (ds_cons (ds_if (dt_cmp (od_eq S.c) (dv 3) de_str) (ds_one (ds_expr (de_append S.c (dv 2) (de_bin od_sub (dc S.c hr d__law_join rfl (da_cons (de_slice S.c (dv 1) (do_some de_int) (do_some de_int)) da_nil)) de_int)))) (ds_cons (ds_setLc (i := 5) (own := [("sign", 6)]) S.c sc__law_read.nd rfl rfl (sw_true rfl rfl rfl rfl) (di_any S.c (de_lc (own := [("byte", 7)]) S.c sc__law_read.nd (di_any S.c (de_slice S.c (dv 1) (do_some de_int) (do_some (dv 4)))) (blk_ok rfl) (fun _ _ _ _ _ _ _ c1 => (tg_name (i := 7) sc__law_read.nd rfl (.inl rfl) (by decide))) (fun _ _ _ _ _ _ _ c1 => dts_nil) (fun _ _ _ _ _ _ _ c1 => (dc c1 hr d__law_sign rfl (da_cons (dv 7) da_nil))))) (blk_ok rfl) (fun _ _ _ _ _ _ _ c1 => (tg_name (i := 6) sc__law_read.nd rfl (.inl rfl) (by decide))) (fun _ _ _ _ _ _ _ c1 => dts_nil) (fun _ _ _ _ _ _ _ c1 => (de_find de_str (dv 6))))
    (ds_cons (ds_if (dt_cmp (od_in S.c) (de_neg de_int) (dv 5)) (ds_one (ds_ret de_non)) ds_nil)
    (ds_one (ds_expr (de_append S.c (dv 2) (de_join S.c de_str (de_lc (own := [("byte", 7)]) S.c sc__law_read.nd (di_any S.c (de_slice S.c (dv 1) (do_some de_int) (do_some (dv 4)))) (blk_ok rfl) (fun _ _ _ _ _ _ _ c1 => (tg_name (i := 7) sc__law_read.nd rfl (.inl rfl) (by decide))) (fun _ _ _ _ _ _ _ c1 => dts_nil) (fun _ _ _ _ _ _ _ c1 => (dc c1 hr d__law_sign rfl (da_cons (dv 7) da_nil)))))))))))
    (ds_one (ds_set (i := 1) sc__law_read.nd rfl (.inl rfl) (de_slice S.c (dv 1) (do_some (dv 4)) do_none))))))))
    (ds_cons (ds_if (dt_cmp (od_ne S.c) (dv 1) (de_tup da_nil)) (ds_one (ds_ret de_non)) ds_nil)
    (ds_one (ds_ret (de_callTy (cd_tuple S.c) rfl T.f_tuple rfl (da_cons (dv 2) da_nil)))))))

/-! ### _law_sign -/
noncomputable def b__law_sign  : DS := (seqS (forS (srcE (constE (.str "0123456789abcdefghijklmnopqrstuvwxyz"))) (nameG 1) (ifS (boolT (binE eqD (callE ordD (consA (varE 1) nilA)) (varE 0)))
  (retS (varE 1))
  skipS)) (retS (constE (.str "?"))))
theorem sc__law_sign : FnScope ["byte", "sign"] ["byte"] (defScope (st 51)) := ⟨rfl, rfl, rfl, by decide +kernel, rfl, by decide +kernel, by decide +kernel⟩
theorem does__law_sign (T : Tops K mg) {k : Nat} (s : Stands K mg "_law_sign" (st 51) ["byte"])  :
    Does P w K mg base (k + 1) "_law_sign" ["byte"] (runFn 2 1 (b__law_sign )) :=
  s.does sc__law_sign fun f cdv A outer s H E W hr S => (ds_cons (ds_for (vs := [1]) S.c S.own (di_any S.c de_str) (tg_name (i := 1) sc__law_sign.nd rfl (.inl rfl) (by decide)) (ds_one (ds_if (dt_cmp (od_eq S.c) (de_callB cd_ord rfl T.f_ord rfl (da_cons (dv 1) da_nil)) (dv 0)) (ds_one (ds_ret (dv 1))) ds_nil)))
    (ds_one (ds_ret de_str)))

/-! ### _law_told -/
noncomputable def b__law_told (c_items_of : Fn) : DS := (tryS (retS (callE c_items_of (consA (varE 0) (consA (varE 1) nilA)))) (mtL [("BadRows", true)]) (retS (constE .non)))
theorem sc__law_told : FnScope ["kinds", "row"] ["kinds", "row"] (defScope (st 52)) := ⟨rfl, rfl, rfl, by decide +kernel, rfl, by decide +kernel, by decide +kernel⟩
theorem does__law_told (T : Tops K mg) {k : Nat} (s : Stands K mg "_law_told" (st 52) ["kinds", "row"]) {c_items_of : Fn} (d_items_of : Does P w K mg base k "items_of" ["kinds", "row"] c_items_of) :
    Does P w K mg base (k + 1) "_law_told" ["kinds", "row"] (runFn 2 2 (b__law_told c_items_of)) :=
  s.does sc__law_told fun f cdv A outer s H E W hr S => (ds_one (ds_try (c := .ref (He.ga K "BadRows")) S ⟨rfl, by decide, .inl T.e_BadRows.g⟩ (mt_ok (l := [("BadRows", true)]) (by simp only [List.forall_mem_cons]; exact ⟨T.x_BadRows_BadRows, fun _ h => nomatch h⟩)) (fun W pn xe S => (ds_one (ds_ret (dc S.c hr d_items_of rfl (da_cons (dv 0) (da_cons (dv 1) da_nil)))))) (fun _ _ _ W => (ds_one (ds_ret de_non)))))

/-! ### _law_case -/
noncomputable def b__law_case (c__law_value : Fn) (c__law_is_same : Fn) (c__law_code : Fn) (c_code_of : Fn) (c__law_draw : Fn) (c__law_item : Fn) (c__law_codes : Fn) (c__law_sum : Fn) (c_sum_bytes : Fn) (c_items_of : Fn) (c__law_read : Fn) (c__law_told : Fn) : DS := (seqS (asgS (nameG 1) (callE c__law_value (consA (varE 0) (consA (constE (.int 3)) nilA)))) (seqS (ifS (notT (truT (callE c__law_is_same (consA (callE c_code_of (consA (varE 1) nilA)) (consA (callE c__law_code (consA (varE 1) nilA)) nilA)))))
  (retS (constE (.bl false)))
  skipS) (seqS (asgS (nameG 2) (callE tupleD (consA (lcE (rangeE rangeD1 (consA (callE c__law_draw (consA (varE 0) (consA (constE (.int 5)) nilA))) nilA)) (nameG 8) yesT (binE getD (lstE (consA (constE (.str "number")) (consA (constE (.str "text")) nilA))) (callE c__law_draw (consA (varE 0) (consA (constE (.int 2)) nilA)))) [8]) nilA))) (seqS (asgS (nameG 3) (callE tupleD (consA (lcE (srcE (varE 2)) (nameG 9) yesT (callE c__law_item (consA (varE 0) (consA (varE 9) nilA))) [9]) nilA))) (seqS (asgS (nameG 4) (callE c__law_codes (consA (varE 3) nilA))) (seqS (ifS (orT (notT (truT (callE c__law_is_same (consA (callE c_items_of (consA (varE 2) (consA (varE 4) nilA))) (consA (varE 3) nilA))))) (notT (truT (callE c__law_is_same (consA (callE c_sum_bytes (consA (varE 4) nilA)) (consA (callE c__law_sum (consA (varE 4) nilA)) nilA))))))
  (retS (constE (.bl false)))
  skipS) (seqS (asgS (nameG 5) (lstE (consA (binE addD (varE 4) (tupE (consA (constE (.int 0)) nilA))) (consA (tupE nilA) (consA (sliceE (varE 4) noP (someP (negE (constE (.int 1))))) (consA (sliceE (varE 4) (someP (constE (.int 1))) noP) (consA (binE addD (varE 4) (varE 4)) nilA))))))) (seqS (ifS (boolT (binE neD (varE 4) (tupE nilA)))
  (seqS (asgS (nameG 6) (callE c__law_draw (consA (varE 0) (consA (callE lenD (consA (varE 4) nilA)) nilA)))) (seqS (asgS (nameG 7) (binE addD (binE addD (sliceE (varE 4) noP (someP (varE 6))) (tupE (consA (binE getD (lstE (consA (constE (.int 0)) (consA (constE (.int 13)) (consA (constE (.int 14)) (consA (constE (.int 96)) (consA (constE (.int 123)) (consA (binE modD (binE addD (binE getD (varE 4) (varE 6)) (constE (.int 1))) (constE (.int 256))) nilA))))))) (callE c__law_draw (consA (varE 0) (consA (constE (.int 6)) nilA)))) nilA))) (sliceE (varE 4) (someP (binE addD (varE 6) (constE (.int 1)))) noP))) (seqS (asgS (nameG 5) (binE addD (varE 5) (lstE (consA (varE 7) (consA (varE 7) nilA))))) (ifS (andT (boolT (binE neD (varE 7) (varE 4))) (boolT (binE eqD (callE c_sum_bytes (consA (varE 7) nilA)) (callE c_sum_bytes (consA (varE 4) nilA)))))
  (retS (constE (.bl false)))
  skipS))))
  skipS) (seqS (asgS (nameG 7) (binE getD (varE 5) (callE c__law_draw (consA (varE 0) (consA (callE lenD (consA (varE 5) nilA)) nilA))))) (seqS (ifS (notT (truT (callE c__law_is_same (consA (callE c__law_told (consA (varE 2) (consA (varE 7) nilA))) (consA (callE c__law_read (consA (varE 2) (consA (varE 7) nilA))) nilA)))))
  (retS (constE (.bl false)))
  skipS) (seqS (asgS (nameG 2) (callE tupleD (consA (lcE (rangeE rangeD1 (consA (callE lenD (consA (varE 2) nilA)) nilA)) (nameG 8) yesT (binE getD (lstE (consA (constE (.str "number")) (consA (constE (.str "text")) nilA))) (callE c__law_draw (consA (varE 0) (consA (constE (.int 2)) nilA)))) [8]) nilA))) (retS (callE c__law_is_same (consA (callE c__law_told (consA (varE 2) (consA (varE 4) nilA))) (consA (callE c__law_read (consA (varE 2) (consA (varE 4) nilA))) nilA)))))))))))))))
theorem sc__law_case : FnScope ["bag", "value", "kinds", "items", "row", "others", "place", "other", "k", "kind"] ["bag"] (defScope (st 53)) := ⟨rfl, rfl, rfl, by decide +kernel, rfl, by decide +kernel, by decide +kernel⟩
theorem does__law_case (T : Tops K mg) {k : Nat} (s : Stands K mg "_law_case" (st 53) ["bag"]) {c__law_value : Fn} (d__law_value : Does P w K mg base k "_law_value" ["bag", "depth"] c__law_value) {c__law_is_same : Fn} (d__law_is_same : Does P w K mg base k "_law_is_same" ["told", "due"] c__law_is_same) {c__law_code : Fn} (d__law_code : Does P w K mg base k "_law_code" ["value"] c__law_code) {c_code_of : Fn} (d_code_of : Does P w K mg base k "code_of" ["value"] c_code_of) {c__law_draw : Fn} (d__law_draw : Does P w K mg base k "_law_draw" ["bag", "many"] c__law_draw) {c__law_item : Fn} (d__law_item : Does P w K mg base k "_law_item" ["bag", "kind"] c__law_item) {c__law_codes : Fn} (d__law_codes : Does P w K mg base k "_law_codes" ["items"] c__law_codes) {c__law_sum : Fn} (d__law_sum : Does P w K mg base k "_law_sum" ["row"] c__law_sum) {c_sum_bytes : Fn} (d_sum_bytes : Does P w K mg base k "sum_bytes" ["row"] c_sum_bytes) {c_items_of : Fn} (d_items_of : Does P w K mg base k "items_of" ["kinds", "row"] c_items_of) {c__law_read : Fn} (d__law_read : Does P w K mg base k "_law_read" ["kinds", "row"] c__law_read) {c__law_told : Fn} (d__law_told : Does P w K mg base k "_law_told" ["kinds", "row"] c__law_told) :
    Does P w K mg base (k + 1) "_law_case" ["bag"] (runFn 10 1 (b__law_case c__law_value c__law_is_same c__law_code c_code_of c__law_draw c__law_item c__law_codes c__law_sum c_sum_bytes c_items_of c__law_read c__law_told)) :=
  s.does sc__law_case fun f cdv A outer s H E W hr S => (ds_cons (ds_set (i := 1) sc__law_case.nd rfl (.inl rfl) (dc S.c hr d__law_value rfl (da_cons (dv 0) (da_cons de_int da_nil))))
    (ds_cons (ds_if (dt_not (dt_val S.c (dc S.c hr d__law_is_same rfl (da_cons (dc S.c hr d_code_of rfl (da_cons (dv 1) da_nil)) (da_cons (dc S.c hr d__law_code rfl (da_cons (dv 1) da_nil)) da_nil))))) (ds_one (ds_ret de_bl)) ds_nil)
    (ds_cons (ds_set (i := 2) sc__law_case.nd rfl (.inl rfl) (de_callTy (cd_tuple S.c) rfl T.f_tuple rfl (da_cons (de_lc (own := [("k", 8)]) S.c sc__law_case.nd (di_range1 rfl T.f_range (da_cons (dc S.c hr d__law_draw rfl (da_cons (dv 0) (da_cons de_int da_nil))) da_nil)) (blk_ok rfl) (fun _ _ _ _ _ _ _ c1 => (tg_name (i := 8) sc__law_case.nd rfl (.inl rfl) (by decide))) (fun _ _ _ _ _ _ _ c1 => dts_nil) (fun _ _ _ _ _ _ _ c1 => (de_get c1 (de_lst (da_cons de_str (da_cons de_str da_nil))) (dc c1 hr d__law_draw rfl (da_cons (dv 0) (da_cons de_int da_nil)))))) da_nil)))
    (ds_cons (ds_set (i := 3) sc__law_case.nd rfl (.inl rfl) (de_callTy (cd_tuple S.c) rfl T.f_tuple rfl (da_cons (de_lc (own := [("kind", 9)]) S.c sc__law_case.nd (di_any S.c (dv 2)) (blk_ok rfl) (fun _ _ _ _ _ _ _ c1 => (tg_name (i := 9) sc__law_case.nd rfl (.inl rfl) (by decide))) (fun _ _ _ _ _ _ _ c1 => dts_nil) (fun _ _ _ _ _ _ _ c1 => (dc c1 hr d__law_item rfl (da_cons (dv 0) (da_cons (dv 9) da_nil))))) da_nil)))
    (ds_cons (ds_set (i := 4) sc__law_case.nd rfl (.inl rfl) (dc S.c hr d__law_codes rfl (da_cons (dv 3) da_nil)))
    (ds_cons (ds_if (PW.pt (dw_or (dt_not (dt_val S.c (dc S.c hr d__law_is_same rfl (da_cons (dc S.c hr d_items_of rfl (da_cons (dv 2) (da_cons (dv 4) da_nil))) (da_cons (dv 3) da_nil))))) (dw_or1 (dt_not (dt_val S.c (dc S.c hr d__law_is_same rfl (da_cons (dc S.c hr d_sum_bytes rfl (da_cons (dv 4) da_nil)) (da_cons (dc S.c hr d__law_sum rfl (da_cons (dv 4) da_nil)) da_nil)))))))) (ds_one (ds_ret de_bl)) ds_nil)
    (ds_cons (ds_set (i := 5) sc__law_case.nd rfl (.inl rfl) (de_lst (da_cons (de_bin (od_add S.c) (dv 4) (de_tup (da_cons de_int da_nil))) (da_cons (de_tup da_nil) (da_cons (de_slice S.c (dv 4) do_none (do_some (de_neg de_int))) (da_cons (de_slice S.c (dv 4) (do_some de_int) do_none) (da_cons (de_bin (od_add S.c) (dv 4) (dv 4)) da_nil)))))))
    (ds_cons (ds_if (dt_cmp (od_ne S.c) (dv 4) (de_tup da_nil)) (ds_cons (ds_set (i := 6) sc__law_case.nd rfl (.inl rfl) (dc S.c hr d__law_draw rfl (da_cons (dv 0) (da_cons (de_callB (cd_len S.c) rfl T.f_len rfl (da_cons (dv 4) da_nil)) da_nil))))
    (ds_cons (ds_set (i := 7) sc__law_case.nd rfl (.inl rfl) (de_bin (od_add S.c) (de_bin (od_add S.c) (de_slice S.c (dv 4) do_none (do_some (dv 6))) (de_tup (da_cons (de_get S.c (de_lst (da_cons de_int (da_cons de_int (da_cons de_int (da_cons de_int (da_cons de_int (da_cons (de_bin od_mod (de_bin (od_add S.c) (de_get S.c (dv 4) (dv 6)) de_int) de_int) da_nil))))))) (dc S.c hr d__law_draw rfl (da_cons (dv 0) (da_cons de_int da_nil)))) da_nil))) (de_slice S.c (dv 4) (do_some (de_bin (od_add S.c) (dv 6) de_int)) do_none)))
    (ds_cons (ds_set (i := 5) sc__law_case.nd rfl (.inl rfl) (de_bin (od_add S.c) (dv 5) (de_lst (da_cons (dv 7) (da_cons (dv 7) da_nil)))))
    (ds_one (ds_if (PW.pt (dw_and (dt_cmp (od_ne S.c) (dv 7) (dv 4)) (dw_and1 (dt_cmp (od_eq S.c) (dc S.c hr d_sum_bytes rfl (da_cons (dv 7) da_nil)) (dc S.c hr d_sum_bytes rfl (da_cons (dv 4) da_nil)))))) (ds_one (ds_ret de_bl)) ds_nil))))) ds_nil)
    (ds_cons (ds_set (i := 7) sc__law_case.nd rfl (.inl rfl) (de_get S.c (dv 5) (dc S.c hr d__law_draw rfl (da_cons (dv 0) (da_cons (de_callB (cd_len S.c) rfl T.f_len rfl (da_cons (dv 5) da_nil)) da_nil)))))
    (ds_cons (ds_if (dt_not (dt_val S.c (dc S.c hr d__law_is_same rfl (da_cons (dc S.c hr d__law_told rfl (da_cons (dv 2) (da_cons (dv 7) da_nil))) (da_cons (dc S.c hr d__law_read rfl (da_cons (dv 2) (da_cons (dv 7) da_nil))) da_nil))))) (ds_one (ds_ret de_bl)) ds_nil)
    (ds_cons (ds_set (i := 2) sc__law_case.nd rfl (.inl rfl) (de_callTy (cd_tuple S.c) rfl T.f_tuple rfl (da_cons (de_lc (own := [("k", 8)]) S.c sc__law_case.nd (di_range1 rfl T.f_range (da_cons (de_callB (cd_len S.c) rfl T.f_len rfl (da_cons (dv 2) da_nil)) da_nil)) (blk_ok rfl) (fun _ _ _ _ _ _ _ c1 => (tg_name (i := 8) sc__law_case.nd rfl (.inl rfl) (by decide))) (fun _ _ _ _ _ _ _ c1 => dts_nil) (fun _ _ _ _ _ _ _ c1 => (de_get c1 (de_lst (da_cons de_str (da_cons de_str da_nil))) (dc c1 hr d__law_draw rfl (da_cons (dv 0) (da_cons de_int da_nil)))))) da_nil)))
    (ds_one (ds_ret (dc S.c hr d__law_is_same rfl (da_cons (dc S.c hr d__law_told rfl (da_cons (dv 2) (da_cons (dv 4) da_nil))) (da_cons (dc S.c hr d__law_read rfl (da_cons (dv 2) (da_cons (dv 4) da_nil))) da_nil))))))))))))))))

/-! ### law -/
noncomputable def b_law (c__law_case : Fn) (c__law_bag : Fn) : DS := (seqS (forS (rangeE rangeD1 (consA (callE min2D (consA (callE max2D (consA (callE lenD (consA (varE 0) nilA)) (consA (constE (.int 1)) nilA))) (consA (constE (.int 4)) nilA))) nilA)) (nameG 1) (ifS (notT (truT (callE c__law_case (consA (callE c__law_bag (consA (varE 0) (consA (varE 1) nilA))) nilA))))
  (retS (constE (.bl false)))
  skipS)) (retS (constE (.bl true))))
theorem sc_law : FnScope ["script", "k"] ["script"] (defScope (st 54)) := ⟨rfl, rfl, rfl, by decide +kernel, rfl, by decide +kernel, by decide +kernel⟩
theorem does_law (T : Tops K mg) {k : Nat} (s : Stands K mg "law" (st 54) ["script"]) {c__law_case : Fn} (d__law_case : Does P w K mg base k "_law_case" ["bag"] c__law_case) {c__law_bag : Fn} (d__law_bag : Does P w K mg base k "_law_bag" ["script", "k"] c__law_bag) :
    Does P w K mg base (k + 1) "law" ["script"] (runFn 2 1 (b_law c__law_case c__law_bag)) :=
  s.does sc_law fun f cdv A outer s H E W hr S => (ds_cons (ds_for (vs := [1]) S.c S.own (di_range1 rfl T.f_range (da_cons (de_callB (cd_min2 S.c) rfl T.f_min rfl (da_cons (de_callB (cd_max2 S.c) rfl T.f_max rfl (da_cons (de_callB (cd_len S.c) rfl T.f_len rfl (da_cons (dv 0) da_nil)) (da_cons de_int da_nil))) (da_cons de_int da_nil))) da_nil)) (tg_name (i := 1) sc_law.nd rfl (.inl rfl) (by decide)) (ds_one (ds_if (dt_not (dt_val S.c (dc S.c hr d__law_case rfl (da_cons (dc S.c hr d__law_bag rfl (da_cons (dv 0) (da_cons (dv 1) da_nil))) da_nil)))) (ds_one (ds_ret de_bl)) ds_nil)))
    (ds_one (ds_ret de_bl)))

end
/-! ### what the head tells -/
def d_is_integer : He.DefD := ⟨("is_integer", none), "is_integer", "is_integer", defArgs (st 9), defBody (st 9), defScope (st 9), [], []⟩
def d_is_number : He.DefD := ⟨("is_number", none), "is_number", "is_number", defArgs (st 10), defBody (st 10), defScope (st 10), [], []⟩
def d_is_text : He.DefD := ⟨("is_text", none), "is_text", "is_text", defArgs (st 11), defBody (st 11), defScope (st 11), [], []⟩
def d_is_item : He.DefD := ⟨("is_item", none), "is_item", "is_item", defArgs (st 12), defBody (st 12), defScope (st 12), [], []⟩
def d_bytes_of : He.DefD := ⟨("bytes_of", none), "bytes_of", "bytes_of", defArgs (st 22), defBody (st 22), defScope (st 22), [], []⟩
def d_number_of : He.DefD := ⟨("number_of", none), "number_of", "number_of", defArgs (st 23), defBody (st 23), defScope (st 23), [], []⟩
def d_code_of : He.DefD := ⟨("code_of", none), "code_of", "code_of", defArgs (st 24), defBody (st 24), defScope (st 24), [], []⟩
def d_sign_of : He.DefD := ⟨("sign_of", none), "sign_of", "sign_of", defArgs (st 25), defBody (st 25), defScope (st 25), [], []⟩
def d_take_item : He.DefD := ⟨("take_item", none), "take_item", "take_item", defArgs (st 26), defBody (st 26), defScope (st 26), [], []⟩
def d_take_items : He.DefD := ⟨("take_items", none), "take_items", "take_items", defArgs (st 27), defBody (st 27), defScope (st 27), [], []⟩
def d_items_of : He.DefD := ⟨("items_of", none), "items_of", "items_of", defArgs (st 28), defBody (st 28), defScope (st 28), [], []⟩
def d_sum_bytes : He.DefD := ⟨("sum_bytes", none), "sum_bytes", "sum_bytes", defArgs (st 29), defBody (st 29), defScope (st 29), [], []⟩
def d__law_bag : He.DefD := ⟨("_law_bag", none), "_law_bag", "_law_bag", defArgs (st 31), defBody (st 31), defScope (st 31), [], []⟩
def d__law_draw : He.DefD := ⟨("_law_draw", none), "_law_draw", "_law_draw", defArgs (st 32), defBody (st 32), defScope (st 32), [], []⟩
def d__law_item : He.DefD := ⟨("_law_item", none), "_law_item", "_law_item", defArgs (st 33), defBody (st 33), defScope (st 33), [], []⟩
def d__law_split : He.DefD := ⟨("_law_split", none), "_law_split", "_law_split", defArgs (st 43), defBody (st 43), defScope (st 43), [], []⟩
def d__law_join : He.DefD := ⟨("_law_join", none), "_law_join", "_law_join", defArgs (st 44), defBody (st 44), defScope (st 44), [], []⟩
def d__law_sum : He.DefD := ⟨("_law_sum", none), "_law_sum", "_law_sum", defArgs (st 45), defBody (st 45), defScope (st 45), [], []⟩
def d__law_code : He.DefD := ⟨("_law_code", none), "_law_code", "_law_code", defArgs (st 46), defBody (st 46), defScope (st 46), [], []⟩
def d__law_codes : He.DefD := ⟨("_law_codes", none), "_law_codes", "_law_codes", defArgs (st 47), defBody (st 47), defScope (st 47), [], []⟩
def d__law_is_same : He.DefD := ⟨("_law_is_same", none), "_law_is_same", "_law_is_same", defArgs (st 48), defBody (st 48), defScope (st 48), [], []⟩
def d__law_value : He.DefD := ⟨("_law_value", none), "_law_value", "_law_value", defArgs (st 49), defBody (st 49), defScope (st 49), [], []⟩
def d__law_read : He.DefD := ⟨("_law_read", none), "_law_read", "_law_read", defArgs (st 50), defBody (st 50), defScope (st 50), [], []⟩
def d__law_sign : He.DefD := ⟨("_law_sign", none), "_law_sign", "_law_sign", defArgs (st 51), defBody (st 51), defScope (st 51), [], []⟩
def d__law_told : He.DefD := ⟨("_law_told", none), "_law_told", "_law_told", defArgs (st 52), defBody (st 52), defScope (st 52), [], []⟩
def d__law_case : He.DefD := ⟨("_law_case", none), "_law_case", "_law_case", defArgs (st 53), defBody (st 53), defScope (st 53), [], []⟩
def d_law : He.DefD := ⟨("law", none), "law", "law", defArgs (st 54), defBody (st 54), defScope (st 54), [], []⟩
def fn : List He.DefD := [d_is_integer, d_is_number, d_is_text, d_is_item, d_bytes_of, d_number_of, d_code_of, d_sign_of, d_take_item, d_take_items, d_items_of, d_sum_bytes, d__law_bag, d__law_draw, d__law_item, d__law_split, d__law_join, d__law_sum, d__law_code, d__law_codes, d__law_is_same, d__law_value, d__law_read, d__law_sign, d__law_told, d__law_case, d_law]
def fa : List He.Fa := [.glo "is_integer", .glo "is_number", .glo "is_text", .glo "is_item", .glo "bytes_of", .glo "number_of", .glo "code_of", .glo "sign_of", .glo "take_item", .glo "take_items", .glo "items_of", .glo "sum_bytes", .glo "_law_bag", .glo "_law_draw", .glo "_law_item", .glo "_law_split", .glo "_law_join", .glo "_law_sum", .glo "_law_code", .glo "_law_codes", .glo "_law_is_same", .glo "_law_value", .glo "_law_read", .glo "_law_sign", .glo "_law_told", .glo "_law_case", .glo "law", .free "isinstance", .free "bool", .free "int", .free "len", .free "str", .free "all", .free "tuple", .free "range", .free "ord", .free "list", .free "min", .free "max", .int "MOST_NUMBER" (2147483647), .int "LEAST_NUMBER" (-2147483648), .int "MOST_SIGNS" (12), .int "NONE" (100), .int "TRUE" (102), .int "FALSE" (101), .int "TUPLE" (103), .int "SUM_TIMES" (972663749), .int "SUM_MODULUS" (2305843009213693951), .str "DIGITS" "0123456789", .str "LETTERS_items" "abcdefghijklmnopqrstuvwxyz", .str "FIGURES" "0123456789", .str "LETTERS_codes" "abcdefghijklmnopqrstuvwxyz", .glo "BadRows", .exc "BadRows", .exm "BadRows" "BadRows" true]
section
variable {K : PySem.W.Frag} {h : Heap} {mg : Str → Option Value}
theorem tops (X : K.In h) (G : h.Ns mainGlobals mg) (c : He.SaysD fa fn K) : Tops K mg where
  f_isinstance := He.free_ok X G (c.fact 27 (f := .free "isinstance") rfl)
  f_bool := He.free_ok X G (c.fact 28 (f := .free "bool") rfl)
  f_int := He.free_ok X G (c.fact 29 (f := .free "int") rfl)
  f_len := He.free_ok X G (c.fact 30 (f := .free "len") rfl)
  f_str := He.free_ok X G (c.fact 31 (f := .free "str") rfl)
  f_all := He.free_ok X G (c.fact 32 (f := .free "all") rfl)
  f_tuple := He.free_ok X G (c.fact 33 (f := .free "tuple") rfl)
  f_range := He.free_ok X G (c.fact 34 (f := .free "range") rfl)
  f_ord := He.free_ok X G (c.fact 35 (f := .free "ord") rfl)
  f_list := He.free_ok X G (c.fact 36 (f := .free "list") rfl)
  f_min := He.free_ok X G (c.fact 37 (f := .free "min") rfl)
  f_max := He.free_ok X G (c.fact 38 (f := .free "max") rfl)
  i_MOST_NUMBER := He.int_ok X G (c.fact 39 (f := .int "MOST_NUMBER" (2147483647)) rfl)
  i_LEAST_NUMBER := He.int_ok X G (c.fact 40 (f := .int "LEAST_NUMBER" (-2147483648)) rfl)
  i_MOST_SIGNS := He.int_ok X G (c.fact 41 (f := .int "MOST_SIGNS" (12)) rfl)
  i_NONE := He.int_ok X G (c.fact 42 (f := .int "NONE" (100)) rfl)
  i_TRUE := He.int_ok X G (c.fact 43 (f := .int "TRUE" (102)) rfl)
  i_FALSE := He.int_ok X G (c.fact 44 (f := .int "FALSE" (101)) rfl)
  i_TUPLE := He.int_ok X G (c.fact 45 (f := .int "TUPLE" (103)) rfl)
  i_SUM_TIMES := He.int_ok X G (c.fact 46 (f := .int "SUM_TIMES" (972663749)) rfl)
  i_SUM_MODULUS := He.int_ok X G (c.fact 47 (f := .int "SUM_MODULUS" (2305843009213693951)) rfl)
  s_DIGITS := He.str_ok X G (c.fact 48 (f := .str "DIGITS" "0123456789") rfl)
  s_LETTERS_items := He.str_ok X G (c.fact 49 (f := .str "LETTERS_items" "abcdefghijklmnopqrstuvwxyz") rfl)
  s_FIGURES := He.str_ok X G (c.fact 50 (f := .str "FIGURES" "0123456789") rfl)
  s_LETTERS_codes := He.str_ok X G (c.fact 51 (f := .str "LETTERS_codes" "abcdefghijklmnopqrstuvwxyz") rfl)
  e_BadRows := have e := He.exc_ok (c.fact 53 (f := .exc "BadRows") rfl); ⟨He.glo_ok X G (c.fact 52 (f := .glo "BadRows") rfl), e.1, e.2.1, e.2.2.1, e.2.2.2⟩
  x_BadRows_BadRows := He.exm_ok (c.fact 54 (f := .exm "BadRows" "BadRows" true) rfl)
theorem stands_is_integer (X : K.In h) (G : h.Ns mainGlobals mg) (c : He.SaysD fa fn K) : Stands K mg "is_integer" (st 9) ["value", "low", "high"] := by
  obtain ⟨fd, F⟩ := c.def_ 0 (d := d_is_integer) rfl
  exact ⟨_, fd, F, He.glo_ok X G (c.fact 0 (f := .glo "is_integer") rfl), F.bindsA fun _ _ _ _ _ _ us hl => match us, hl with | [_, _, _], _ => rfl⟩
theorem stands_is_number (X : K.In h) (G : h.Ns mainGlobals mg) (c : He.SaysD fa fn K) : Stands K mg "is_number" (st 10) ["value"] := by
  obtain ⟨fd, F⟩ := c.def_ 1 (d := d_is_number) rfl
  exact ⟨_, fd, F, He.glo_ok X G (c.fact 1 (f := .glo "is_number") rfl), F.bindsA fun _ _ _ _ _ _ us hl => match us, hl with | [_], _ => rfl⟩
theorem stands_is_text (X : K.In h) (G : h.Ns mainGlobals mg) (c : He.SaysD fa fn K) : Stands K mg "is_text" (st 11) ["value"] := by
  obtain ⟨fd, F⟩ := c.def_ 2 (d := d_is_text) rfl
  exact ⟨_, fd, F, He.glo_ok X G (c.fact 2 (f := .glo "is_text") rfl), F.bindsA fun _ _ _ _ _ _ us hl => match us, hl with | [_], _ => rfl⟩
theorem stands_is_item (X : K.In h) (G : h.Ns mainGlobals mg) (c : He.SaysD fa fn K) : Stands K mg "is_item" (st 12) ["kind", "value"] := by
  obtain ⟨fd, F⟩ := c.def_ 3 (d := d_is_item) rfl
  exact ⟨_, fd, F, He.glo_ok X G (c.fact 3 (f := .glo "is_item") rfl), F.bindsA fun _ _ _ _ _ _ us hl => match us, hl with | [_, _], _ => rfl⟩
theorem stands_bytes_of (X : K.In h) (G : h.Ns mainGlobals mg) (c : He.SaysD fa fn K) : Stands K mg "bytes_of" (st 22) ["n", "many"] := by
  obtain ⟨fd, F⟩ := c.def_ 4 (d := d_bytes_of) rfl
  exact ⟨_, fd, F, He.glo_ok X G (c.fact 4 (f := .glo "bytes_of") rfl), F.bindsA fun _ _ _ _ _ _ us hl => match us, hl with | [_, _], _ => rfl⟩
theorem stands_number_of (X : K.In h) (G : h.Ns mainGlobals mg) (c : He.SaysD fa fn K) : Stands K mg "number_of" (st 23) ["row"] := by
  obtain ⟨fd, F⟩ := c.def_ 5 (d := d_number_of) rfl
  exact ⟨_, fd, F, He.glo_ok X G (c.fact 5 (f := .glo "number_of") rfl), F.bindsA fun _ _ _ _ _ _ us hl => match us, hl with | [_], _ => rfl⟩
theorem stands_code_of (X : K.In h) (G : h.Ns mainGlobals mg) (c : He.SaysD fa fn K) : Stands K mg "code_of" (st 24) ["value"] := by
  obtain ⟨fd, F⟩ := c.def_ 6 (d := d_code_of) rfl
  exact ⟨_, fd, F, He.glo_ok X G (c.fact 6 (f := .glo "code_of") rfl), F.bindsA fun _ _ _ _ _ _ us hl => match us, hl with | [_], _ => rfl⟩
theorem stands_sign_of (X : K.In h) (G : h.Ns mainGlobals mg) (c : He.SaysD fa fn K) : Stands K mg "sign_of" (st 25) ["byte"] := by
  obtain ⟨fd, F⟩ := c.def_ 7 (d := d_sign_of) rfl
  exact ⟨_, fd, F, He.glo_ok X G (c.fact 7 (f := .glo "sign_of") rfl), F.bindsA fun _ _ _ _ _ _ us hl => match us, hl with | [_], _ => rfl⟩
theorem stands_take_item (X : K.In h) (G : h.Ns mainGlobals mg) (c : He.SaysD fa fn K) : Stands K mg "take_item" (st 26) ["kind", "row", "place"] := by
  obtain ⟨fd, F⟩ := c.def_ 8 (d := d_take_item) rfl
  exact ⟨_, fd, F, He.glo_ok X G (c.fact 8 (f := .glo "take_item") rfl), F.bindsA fun _ _ _ _ _ _ us hl => match us, hl with | [_, _, _], _ => rfl⟩
theorem stands_take_items (X : K.In h) (G : h.Ns mainGlobals mg) (c : He.SaysD fa fn K) : Stands K mg "take_items" (st 27) ["kinds", "row", "place"] := by
  obtain ⟨fd, F⟩ := c.def_ 9 (d := d_take_items) rfl
  exact ⟨_, fd, F, He.glo_ok X G (c.fact 9 (f := .glo "take_items") rfl), F.bindsA fun _ _ _ _ _ _ us hl => match us, hl with | [_, _, _], _ => rfl⟩
theorem stands_items_of (X : K.In h) (G : h.Ns mainGlobals mg) (c : He.SaysD fa fn K) : Stands K mg "items_of" (st 28) ["kinds", "row"] := by
  obtain ⟨fd, F⟩ := c.def_ 10 (d := d_items_of) rfl
  exact ⟨_, fd, F, He.glo_ok X G (c.fact 10 (f := .glo "items_of") rfl), F.bindsA fun _ _ _ _ _ _ us hl => match us, hl with | [_, _], _ => rfl⟩
theorem stands_sum_bytes (X : K.In h) (G : h.Ns mainGlobals mg) (c : He.SaysD fa fn K) : Stands K mg "sum_bytes" (st 29) ["row"] := by
  obtain ⟨fd, F⟩ := c.def_ 11 (d := d_sum_bytes) rfl
  exact ⟨_, fd, F, He.glo_ok X G (c.fact 11 (f := .glo "sum_bytes") rfl), F.bindsA fun _ _ _ _ _ _ us hl => match us, hl with | [_], _ => rfl⟩
theorem stands__law_bag (X : K.In h) (G : h.Ns mainGlobals mg) (c : He.SaysD fa fn K) : Stands K mg "_law_bag" (st 31) ["script", "k"] := by
  obtain ⟨fd, F⟩ := c.def_ 12 (d := d__law_bag) rfl
  exact ⟨_, fd, F, He.glo_ok X G (c.fact 12 (f := .glo "_law_bag") rfl), F.bindsA fun _ _ _ _ _ _ us hl => match us, hl with | [_, _], _ => rfl⟩
theorem stands__law_draw (X : K.In h) (G : h.Ns mainGlobals mg) (c : He.SaysD fa fn K) : Stands K mg "_law_draw" (st 32) ["bag", "many"] := by
  obtain ⟨fd, F⟩ := c.def_ 13 (d := d__law_draw) rfl
  exact ⟨_, fd, F, He.glo_ok X G (c.fact 13 (f := .glo "_law_draw") rfl), F.bindsA fun _ _ _ _ _ _ us hl => match us, hl with | [_, _], _ => rfl⟩
theorem stands__law_item (X : K.In h) (G : h.Ns mainGlobals mg) (c : He.SaysD fa fn K) : Stands K mg "_law_item" (st 33) ["bag", "kind"] := by
  obtain ⟨fd, F⟩ := c.def_ 14 (d := d__law_item) rfl
  exact ⟨_, fd, F, He.glo_ok X G (c.fact 14 (f := .glo "_law_item") rfl), F.bindsA fun _ _ _ _ _ _ us hl => match us, hl with | [_, _], _ => rfl⟩
theorem stands__law_split (X : K.In h) (G : h.Ns mainGlobals mg) (c : He.SaysD fa fn K) : Stands K mg "_law_split" (st 43) ["n", "many"] := by
  obtain ⟨fd, F⟩ := c.def_ 15 (d := d__law_split) rfl
  exact ⟨_, fd, F, He.glo_ok X G (c.fact 15 (f := .glo "_law_split") rfl), F.bindsA fun _ _ _ _ _ _ us hl => match us, hl with | [_, _], _ => rfl⟩
theorem stands__law_join (X : K.In h) (G : h.Ns mainGlobals mg) (c : He.SaysD fa fn K) : Stands K mg "_law_join" (st 44) ["row"] := by
  obtain ⟨fd, F⟩ := c.def_ 16 (d := d__law_join) rfl
  exact ⟨_, fd, F, He.glo_ok X G (c.fact 16 (f := .glo "_law_join") rfl), F.bindsA fun _ _ _ _ _ _ us hl => match us, hl with | [_], _ => rfl⟩
theorem stands__law_sum (X : K.In h) (G : h.Ns mainGlobals mg) (c : He.SaysD fa fn K) : Stands K mg "_law_sum" (st 45) ["row"] := by
  obtain ⟨fd, F⟩ := c.def_ 17 (d := d__law_sum) rfl
  exact ⟨_, fd, F, He.glo_ok X G (c.fact 17 (f := .glo "_law_sum") rfl), F.bindsA fun _ _ _ _ _ _ us hl => match us, hl with | [_], _ => rfl⟩
theorem stands__law_code (X : K.In h) (G : h.Ns mainGlobals mg) (c : He.SaysD fa fn K) : Stands K mg "_law_code" (st 46) ["value"] := by
  obtain ⟨fd, F⟩ := c.def_ 18 (d := d__law_code) rfl
  exact ⟨_, fd, F, He.glo_ok X G (c.fact 18 (f := .glo "_law_code") rfl), F.bindsA fun _ _ _ _ _ _ us hl => match us, hl with | [_], _ => rfl⟩
theorem stands__law_codes (X : K.In h) (G : h.Ns mainGlobals mg) (c : He.SaysD fa fn K) : Stands K mg "_law_codes" (st 47) ["items"] := by
  obtain ⟨fd, F⟩ := c.def_ 19 (d := d__law_codes) rfl
  exact ⟨_, fd, F, He.glo_ok X G (c.fact 19 (f := .glo "_law_codes") rfl), F.bindsA fun _ _ _ _ _ _ us hl => match us, hl with | [_], _ => rfl⟩
theorem stands__law_is_same (X : K.In h) (G : h.Ns mainGlobals mg) (c : He.SaysD fa fn K) : Stands K mg "_law_is_same" (st 48) ["told", "due"] := by
  obtain ⟨fd, F⟩ := c.def_ 20 (d := d__law_is_same) rfl
  exact ⟨_, fd, F, He.glo_ok X G (c.fact 20 (f := .glo "_law_is_same") rfl), F.bindsA fun _ _ _ _ _ _ us hl => match us, hl with | [_, _], _ => rfl⟩
theorem stands__law_value (X : K.In h) (G : h.Ns mainGlobals mg) (c : He.SaysD fa fn K) : Stands K mg "_law_value" (st 49) ["bag", "depth"] := by
  obtain ⟨fd, F⟩ := c.def_ 21 (d := d__law_value) rfl
  exact ⟨_, fd, F, He.glo_ok X G (c.fact 21 (f := .glo "_law_value") rfl), F.bindsA fun _ _ _ _ _ _ us hl => match us, hl with | [_, _], _ => rfl⟩
theorem stands__law_read (X : K.In h) (G : h.Ns mainGlobals mg) (c : He.SaysD fa fn K) : Stands K mg "_law_read" (st 50) ["kinds", "row"] := by
  obtain ⟨fd, F⟩ := c.def_ 22 (d := d__law_read) rfl
  exact ⟨_, fd, F, He.glo_ok X G (c.fact 22 (f := .glo "_law_read") rfl), F.bindsA fun _ _ _ _ _ _ us hl => match us, hl with | [_, _], _ => rfl⟩
theorem stands__law_sign (X : K.In h) (G : h.Ns mainGlobals mg) (c : He.SaysD fa fn K) : Stands K mg "_law_sign" (st 51) ["byte"] := by
  obtain ⟨fd, F⟩ := c.def_ 23 (d := d__law_sign) rfl
  exact ⟨_, fd, F, He.glo_ok X G (c.fact 23 (f := .glo "_law_sign") rfl), F.bindsA fun _ _ _ _ _ _ us hl => match us, hl with | [_], _ => rfl⟩
theorem stands__law_told (X : K.In h) (G : h.Ns mainGlobals mg) (c : He.SaysD fa fn K) : Stands K mg "_law_told" (st 52) ["kinds", "row"] := by
  obtain ⟨fd, F⟩ := c.def_ 24 (d := d__law_told) rfl
  exact ⟨_, fd, F, He.glo_ok X G (c.fact 24 (f := .glo "_law_told") rfl), F.bindsA fun _ _ _ _ _ _ us hl => match us, hl with | [_, _], _ => rfl⟩
theorem stands__law_case (X : K.In h) (G : h.Ns mainGlobals mg) (c : He.SaysD fa fn K) : Stands K mg "_law_case" (st 53) ["bag"] := by
  obtain ⟨fd, F⟩ := c.def_ 25 (d := d__law_case) rfl
  exact ⟨_, fd, F, He.glo_ok X G (c.fact 25 (f := .glo "_law_case") rfl), F.bindsA fun _ _ _ _ _ _ us hl => match us, hl with | [_], _ => rfl⟩
theorem stands_law (X : K.In h) (G : h.Ns mainGlobals mg) (c : He.SaysD fa fn K) : Stands K mg "law" (st 54) ["script"] := by
  obtain ⟨fd, F⟩ := c.def_ 26 (d := d_law) rfl
  exact ⟨_, fd, F, He.glo_ok X G (c.fact 26 (f := .glo "law") rfl), F.bindsA fun _ _ _ _ _ _ us hl => match us, hl with | [_], _ => rfl⟩
end
end K65
set_option Elab.async false
set_option linter.all false
set_option maxRecDepth 100000
set_option maxHeartbeats 0
namespace K65
open PySem PySem.Spec PyProof.Rows L2 MP

/-! ### plain -/
def join (n : Int) (l : List Int) : Int := l.foldl (fun n b => n * 256 + b) n
def sg (b : Int) : Option Nat := if (48 ≤ b ∧ b ≤ 57) ∨ (97 ≤ b ∧ b ≤ 122) then some b.toNat else none
def kn (k : Bool) : MP.D := .str (if k then "text" else "number")
def Byte (b : Int) : Prop := 0 ≤ b ∧ b < 256
/-- one item off a row -/
def tk (k : Bool) (t : List Int) : Option (MP.D × Nat) := match t with
  | [] => none
  | b :: r => if k = true then (if b ≤ 0 ∨ (t.length : Int) < b ∨ 13 < b then none else (match (r.take (b.toNat - 1)).mapM sg with
      | some cs => some (.str ⟨cs.toArray⟩, b.toNat)
      | none => none))
    else (if b ≠ 0 ∨ t.length < 5 then none else some (.int (join 0 (r.take 4) - 2147483648), 5))

/-! ### what the defs do -/
noncomputable def f_is_integer : Fn := runFn 3 3 b_is_integer
theorem is_integer_ok (v a b : Int) (h : Th) : f_is_integer [.int v, .int a, .int b] h = .ok (.bl (decide (a ≤ v ∧ v ≤ b))) h := by
  unfold f_is_integer
  rw [run3]
  simp [b_is_integer, isiB]
  split <;> simp [*]
noncomputable def f_is_number : Fn := runFn 1 1 (b_is_number f_is_integer)
theorem is_number_ok (v : Int) (h : Th) : f_is_number [.int v] h = .ok (.bl (decide (-2147483648 ≤ v ∧ v ≤ 2147483647))) h := by
  unfold f_is_number
  rw [run1]
  simp [b_is_number, is_integer_ok]
noncomputable def f_number_of : Fn := runFn 3 1 b_number_of
theorem number_of_ok (l : List Int) (h : Th) : f_number_of [.tup (l.map .int)] h = .ok (.int (join 0 l)) h := by
  unfold f_number_of
  rw [run1]
  have loop : ∀ (k : List Int) (n : Int) (x : Option MP.D) (l0 : List MP.D), ∃ x', forGo (.val l0) (nameG 2) (asgS (nameG 1) (binE addD (binE mulD (varE 1) (constE (.int 256))) (varE 2))) (k.map .int) [some (.tup (l.map .int)), some (.int n), x] h = .nx [some (.tup (l.map .int)), some (.int (join n k)), x'] h := by
    intro k
    induction k with
    | nil => intro n x l0; exact ⟨x, by simp [join]⟩
    | cons b k ih =>
      intro n x l0
      obtain ⟨x', e⟩ := ih (n * 256 + b) (some (.int b)) l0
      refine ⟨x', ?_⟩
      rw [List.map_cons, for_name]
      simp [e]
      rfl
  obtain ⟨x', e⟩ := loop l 0 none (l.map .int)
  simp [b_number_of, e]
noncomputable def f_law_join : Fn := runFn 3 1 b__law_join
theorem law_join_ok (l : List Int) (h : Th) : f_law_join [.tup (l.map .int)] h = .ok (.int (join 0 l)) h := number_of_ok l h

theorem inD_chr (c : Nat) (z : Str) (h : Th) : inD (.str ⟨#[c]⟩) (.str z) h = .ok (.bl (decide (c ∈ z.cps.toList))) h := by
  simp [inD, inB]
noncomputable def f_is_text : Fn := runFn 2 1 b_is_text
def okc (c : Nat) : Bool := decide (c ∈ ("abcdefghijklmnopqrstuvwxyz" : Str).cps.toList) || decide (c ∈ ("0123456789" : Str).cps.toList)
theorem okc_sg {b : Int} {c : Nat} (e : sg b = some c) : okc c = true := by
  unfold sg at e
  split at e
  · rename_i q
    cases e
    have : ∀ n : Nat, (48 ≤ n ∧ n ≤ 57) ∨ (97 ≤ n ∧ n ≤ 122) → okc n = true := by
      intro n hn
      have hb : n < 123 := by omega
      have : ∀ n : Fin 123, (48 ≤ n.val ∧ n.val ≤ 57) ∨ (97 ≤ n.val ∧ n.val ≤ 122) → okc n.val = true := by decide +kernel
      exact this ⟨n, hb⟩ hn
    exact this _ (by omega)
  · cases e
theorem is_text_ok (z : Str) (hz : z.length ≤ 12) (hc : ∀ c ∈ z.cps.toList, okc c = true) (h : Th) : f_is_text [.str z] h = .ok (.bl true) h := by
  unfold f_is_text
  rw [run1]
  have hz' : z.length ≤ 16777216 := by omega
  have m : ∀ d ∈ signsD z, orE (binE inD (varE 1) (constE (.str "abcdefghijklmnopqrstuvwxyz"))) (binE inD (varE 1) (constE (.str "0123456789"))) ((wipeR [some (.str z), none] [1]).set 1 (some d)) h = .ok ((fun _ => .bl true) d) h := by
    intro d hd
    unfold signsD at hd
    obtain ⟨c, hc', rfl⟩ := List.mem_map.mp hd
    have := hc c hc'
    unfold okc at this
    simp [inD_chr]
    intro q
    simp at this
    exact this.resolve_left q
  have e := lc_map (l0 := signsD z) (i := 1) (rho := wipeR [some (.str z), none] [1]) (h := h) (f := fun _ => .bl true) m
  simp at e
  simp [b_is_text, isiB, lenD_str h z hz', srcD_str h z hz', e, List.replicate]
  rw [if_neg (by omega)]
  have : bools (List.map (fun _ => MP.D.bl true) (signsD z)) = some (List.map (fun _ => true) (signsD z)) := bools_map (signsD z) fun _ => true
  simp [this, srcD_str h z hz', e]
noncomputable def f_sign_of : Fn := runFn 1 1 b_sign_of
theorem sign_of_ok (b : Int) (h : Th) : f_sign_of [.int b] h = match sg b with
    | some c => .ok (.str ⟨#[c]⟩) h
    | none => .ex ⟨"BadRows", []⟩ h := by
  unfold f_sign_of
  rw [run1]
  have d1 : ∀ (h1 : 48 ≤ b) (h2 : b ≤ 57), MP.getD (.str "0123456789") (.int (b - 48)) h = .ok (.str ⟨#[b.toNat]⟩) h := fun h1 h2 => by
    refine getD_str _ _ _ (by decide) ?_
    rw [atI_at (by omega)]
    have : ∀ n : Fin 10, ("0123456789" : Str).cps.toList[n.val]? = some (n.val + 48) := by decide +kernel
    have := this ⟨(b - 48).toNat, by omega⟩
    rw [this]
    congr 1
    show (b - 48).toNat + 48 = _
    omega
  have d2 : ∀ (h1 : 97 ≤ b) (h2 : b ≤ 122), MP.getD (.str "abcdefghijklmnopqrstuvwxyz") (.int (b - 97)) h = .ok (.str ⟨#[b.toNat]⟩) h := fun h1 h2 => by
    refine getD_str _ _ _ (by decide) ?_
    rw [atI_at (by omega)]
    have : ∀ n : Fin 26, ("abcdefghijklmnopqrstuvwxyz" : Str).cps.toList[n.val]? = some (n.val + 97) := by decide +kernel
    have := this ⟨(b - 97).toNat, by omega⟩
    rw [this]
    congr 1
    show (b - 97).toNat + 97 = _
    omega
  unfold sg
  by_cases q1 : 48 ≤ b ∧ b ≤ 57
  · simp [b_sign_of, q1, d1 q1.1 q1.2]
  · by_cases q2 : 97 ≤ b ∧ b ≤ 122
    · have : ¬ b ≤ 57 := by omega
      have : 48 ≤ b := by omega
      simp [b_sign_of, q2, d2 q2.1 q2.2, *]
    · rw [if_neg (by omega)]
      have e1 : (if 48 ≤ b then Res.ok (MP.D.bl (decide (b ≤ 57))) h else Res.ok (MP.D.bl false) h) = Res.ok (MP.D.bl false) h := by
        split
        · rw [decide_eq_false (by omega)]
        · rfl
      have e2 : (if 97 ≤ b then Res.ok (MP.D.bl (decide (b ≤ 122))) h else Res.ok (MP.D.bl false) h) = Res.ok (MP.D.bl false) h := by
        split
        · rw [decide_eq_false (by omega)]
        · rfl
      simp [b_sign_of, e1, e2]
noncomputable def f_is_item : Fn := runFn 2 2 (b_is_item f_is_number f_is_text)
@[simp] theorem nt : ("number" : Str) ≠ ("text" : Str) := by decide +kernel
@[simp] theorem tn : ("text" : Str) ≠ ("number" : Str) := by decide +kernel
theorem is_item_num (v : Int) (h : Th) : f_is_item [.str "number", .int v] h = .ok (.bl (decide (-2147483648 ≤ v ∧ v ≤ 2147483647))) h := by
  unfold f_is_item
  rw [run2]
  simp [b_is_item, is_number_ok]
theorem is_item_text (z : Str) (hz : z.length ≤ 12) (hc : ∀ c ∈ z.cps.toList, okc c = true) (h : Th) : f_is_item [.str "text", .str z] h = .ok (.bl true) h := by
  unfold f_is_item
  rw [run2]
  simp [b_is_item, is_text_ok z hz hc]
theorem is_item_long (z : Str) (hz : 12 < z.length) (hz2 : z.length ≤ 16777216) (h : Th) : f_is_item [.str "text", .str z] h = .ok (.bl false) h := by
  have e : f_is_text [.str z] h = .ok (.bl false) h := by
    unfold f_is_text
    rw [run1]
    simp [b_is_text, isiB, lenD_str h z hz2, List.replicate]
    rw [if_pos (by omega)]
    rfl
  unfold f_is_item
  rw [run2]
  simp [b_is_item, e]
theorem join_bytes {b0 b1 b2 b3 : Int} (h0 : Byte b0) (h1 : Byte b1) (h2 : Byte b2) (h3 : Byte b3) : 0 ≤ join 0 [b0, b1, b2, b3] ∧ join 0 [b0, b1, b2, b3] < 4294967296 := by
  unfold Byte at *
  simp [join]
  omega
noncomputable def f_take_item : Fn := runFn 6 3 (b_take_item f_number_of f_sign_of f_is_item)
theorem take_num (l : List Int) (hb : ∀ b ∈ l, Byte b) (p : Nat) (h : Th) : f_take_item [.str "number", .tup (l.map .int), .int p] h = match tk false (l.drop p) with
    | some (d, e) => .ok (.tup [d, .int (p + e)]) h
    | none => .ex ⟨"BadRows", []⟩ h := by
  unfold f_take_item
  rw [run3]
  cases q : l.drop p with
  | nil =>
    have hp : l.length ≤ p := by simpa using q
    simp [b_take_item, List.replicate, tk, hp]
  | cons b r =>
    have hp : p < l.length := by
      have := congrArg List.length q
      simp at this
      omega
    have hr : r.length = l.length - p - 1 := by
      have := congrArg List.length q
      simp at this
      omega
    have hlb : l[p]? = some b := by
      have := congrArg (fun x => x[0]?) q
      simpa using this
    have hg : atI (l.map MP.D.int) (p : Int) = some (.int b) := by
      rw [atI_at (by omega)]
      simp [hlb]
    have hr2 : l.drop (p + 1) = r := by
      have := congrArg (List.drop 1) q
      simpa [Nat.add_comm] using this
    by_cases hb0 : b = 0
    · by_cases h5 : p + 5 ≤ l.length
      · have hc : cutD (l.map MP.D.int) (some ((p : Int) + 1)) (some ((p : Int) + 5)) = (r.take 4).map MP.D.int := by
          have := cutD_nat (l.map MP.D.int) (p + 1) (p + 5)
          rw [show ((p + 1 : Nat) : Int) = (p : Int) + 1 from by omega, show ((p + 5 : Nat) : Int) = (p : Int) + 5 from by omega] at this
          rw [this, ← List.map_drop, hr2, ← List.map_take]
          congr 2
          omega
        have hj : 0 ≤ join 0 (r.take 4) ∧ join 0 (r.take 4) < 4294967296 := by
          have hr4 : 4 ≤ r.length := by omega
          have hm : ∀ x ∈ r, Byte x := fun x hx => hb x (by
            have : x ∈ l.drop p := by rw [q]; exact List.mem_cons_of_mem _ hx
            exact List.mem_of_mem_drop this)
          match r, hr4, hm with
          | b0 :: b1 :: b2 :: b3 :: r, _, hm =>
            exact join_bytes (hm _ (by simp)) (hm _ (by simp)) (hm _ (by simp)) (hm _ (by simp))
        have n1 : ¬ (l.length : Int) ≤ p := by omega
        have n2 : ¬ (p : Int) + 5 ≤ p := by omega
        have n3 : ¬ (l.length : Int) < (p : Int) + 5 := by omega
        have n4 : ¬ (r.length + 1 < 5) := by omega
        have n5 : decide (-2147483648 ≤ join 0 (r.take 4) + -2147483648 ∧ join 0 (r.take 4) + -2147483648 ≤ 2147483647) = true := decide_eq_true (by omega)
        simp only [tk]
        simp [-List.map_take, -List.map_drop, b_take_item, List.replicate, hg, hb0, n1, n2, n3, hc, number_of_ok, is_item_num, n4, n5, Int.sub_eq_add_neg]
      · have n1 : ¬ (l.length : Int) ≤ p := by omega
        have n2 : ¬ (p : Int) + 5 ≤ p := by omega
        have n3 : (l.length : Int) < (p : Int) + 5 := by omega
        have n4 : r.length + 1 < 5 := by omega
        simp [b_take_item, List.replicate, hg, hb0, n1, n2, n3, tk, n4]
    · have n1 : ¬ (l.length : Int) ≤ p := by omega
      simp [b_take_item, List.replicate, hg, hb0, n1, tk]
theorem mapM_ok : ∀ {l : List Int} {cs : List Nat}, l.mapM sg = some cs → cs.length = l.length ∧ ∀ c ∈ cs, okc c = true
  | [], cs, e => by cases e; simp
  | b :: l, cs, e => by
    rw [List.mapM_cons] at e
    cases q : sg b with
    | none => rw [q] at e; cases e
    | some c =>
      rw [q] at e
      cases q2 : l.mapM sg with
      | none => rw [q2] at e; cases e
      | some cs' =>
        rw [q2] at e
        cases e
        obtain ⟨h1, h2⟩ := mapM_ok q2
        refine ⟨by simp [h1], fun x hx => ?_⟩
        rcases List.mem_cons.mp hx with z | z
        · rw [z]; exact okc_sg q
        · exact h2 x z
def fsg (d : MP.D) : Option MP.D := match d with
  | .int b => (sg b).map chr
  | _ => none
/-- the texts of signs -/
theorem signs_lc (l0 : List MP.D) (l : List Int) (rho : Ro) (h : Th) (hr : rho.length = 6) : lcGo (.val l0) (nameG 5) yesT (callE f_sign_of (consA (varE 5) nilA)) rho (l.map MP.D.int) h = match l.mapM sg with
    | some cs => .ok (cs.map chr) h
    | none => .ex ⟨"BadRows", []⟩ h := by
  have := lc_map? (l0 := l0) (i := 5) (m := callE f_sign_of (consA (varE 5) nilA)) (rho := rho) (h := h) (f := fsg) (x := ⟨"BadRows", []⟩) (l := l.map MP.D.int) fun d hd => by
      obtain ⟨b, _, rfl⟩ := List.mem_map.mp hd
      have : (rho.set 5 (some (MP.D.int b)))[5]? = some (some (.int b)) := by rw [List.getElem?_set_self (by omega)]
      simp only [ap_callE, ap_consA, ap_var, this, oo_some, ok_bind, ap_nilA, sign_of_ok]
      show _ = match (sg b).map chr with
        | some y => _
        | none => _
      cases sg b <;> rfl
  rw [this, mapM_map (f := sg) (g := fsg) (u := MP.D.int) (v := chr) (fun a => rfl) l]
  cases l.mapM sg <;> rfl
theorem take_text (l : List Int) (hb : ∀ b ∈ l, Byte b) (p : Nat) (h : Th) : f_take_item [.str "text", .tup (l.map .int), .int p] h = match tk true (l.drop p) with
    | some (d, e) => .ok (.tup [d, .int (p + e)]) h
    | none => .ex ⟨"BadRows", []⟩ h := by
  unfold f_take_item
  rw [run3]
  cases q : l.drop p with
  | nil =>
    have hp : l.length ≤ p := by simpa using q
    simp [b_take_item, List.replicate, tk, hp]
  | cons b r =>
    have hp : p < l.length := by
      have := congrArg List.length q
      simp at this
      omega
    have hr : r.length = l.length - p - 1 := by
      have := congrArg List.length q
      simp at this
      omega
    have hlb : l[p]? = some b := by
      have := congrArg (fun x => x[0]?) q
      simpa using this
    have hg : atI (l.map MP.D.int) (p : Int) = some (.int b) := by
      rw [atI_at (by omega)]
      simp [hlb]
    have hr2 : l.drop (p + 1) = r := by
      have := congrArg (List.drop 1) q
      simpa [Nat.add_comm] using this
    obtain ⟨hb0, hb1⟩ := hb b (by
      have : b ∈ l.drop p := by rw [q]; exact List.mem_cons_self
      exact List.mem_of_mem_drop this)
    have n1 : ¬ (l.length : Int) ≤ p := by omega
    by_cases h0 : b ≤ 0
    · have n2 : (p : Int) + b ≤ p := by omega
      simp [b_take_item, List.replicate, hg, h0, n1, n2, tk]
    · by_cases h1 : (l.length : Int) < p + b
      · have n3 : (r.length : Int) + 1 < b := by omega
        simp [b_take_item, List.replicate, hg, h0, n1, h1, tk, n3]
      · have hc : cutD (l.map MP.D.int) (some ((p : Int) + 1)) (some ((p : Int) + b)) = (r.take (b.toNat - 1)).map MP.D.int := by
          have := cutD_nat (l.map MP.D.int) (p + 1) (p + b.toNat)
          rw [show ((p + 1 : Nat) : Int) = (p : Int) + 1 from by omega, show ((p + b.toNat : Nat) : Int) = (p : Int) + b from by omega] at this
          rw [this, ← List.map_drop, hr2, ← List.map_take]
          congr 2
          omega
        have n3 : ¬ (r.length : Int) + 1 < b := by omega
        have n2 : ¬ (p : Int) + b ≤ p := by omega
        have es := signs_lc ((r.take (b.toNat - 1)).map MP.D.int) (r.take (b.toNat - 1)) [some (.str "text"), some (.tup (l.map .int)), some (.int p), some (.int (p + b)), none, none] h rfl
        simp only [tk]
        cases qm : (r.take (b.toNat - 1)).mapM sg with
        | none =>
          rw [qm] at es
          simp [-List.map_take, -List.map_drop, b_take_item, List.replicate, hg, h0, n1, n2, h1, hc, n3, es]
        | some cs =>
          rw [qm] at es
          obtain ⟨hcl, hco⟩ := mapM_ok qm
          have hcl2 : cs.length = b.toNat - 1 := by rw [hcl, List.length_take]; omega
          have ej := joinD_chr (cs := cs) (by omega) h
          have hz : (⟨cs.toArray⟩ : Str).length = b.toNat - 1 := by rw [← hcl2]; show cs.toArray.size = _; simp
          by_cases h13 : 13 < b
          · have ei := is_item_long ⟨cs.toArray⟩ (by omega) (by omega) h
            simp [-List.map_take, -List.map_drop, b_take_item, List.replicate, hg, h0, n1, n2, h1, hc, n3, es, ej, ei, h13]
          · have ei := is_item_text ⟨cs.toArray⟩ (by omega) (by simpa using hco) h
            simp [-List.map_take, -List.map_drop, b_take_item, List.replicate, hg, h0, n1, n2, h1, hc, n3, es, ej, ei, h13]
            omega
theorem take_item_ok (k : Bool) (l : List Int) (hb : ∀ b ∈ l, Byte b) (p : Nat) (h : Th) : f_take_item [kn k, .tup (l.map .int), .int p] h = match tk k (l.drop p) with
    | some (d, e) => .ok (.tup [d, .int (p + e)]) h
    | none => .ex ⟨"BadRows", []⟩ h := by
  cases k with
  | false => exact take_num l hb p h
  | true => exact take_text l hb p h
end K65
set_option Elab.async false
set_option linter.all false
set_option maxRecDepth 100000
set_option maxHeartbeats 0
namespace K65
open PySem PySem.Spec PyProof.Rows L2 MP

def tks : List Bool → List Int → Option (List MP.D × List Int)
  | [], t => some ([], t)
  | k :: ks, t => match tk k t with
    | none => none
    | some (d, e) => match tks ks (t.drop e) with
      | none => none
      | some (ds, r) => some (d :: ds, r)
theorem tk_low {k : Bool} {t : List Int} {d : MP.D} {e : Nat} (q : tk k t = some (d, e)) : (∀ n, Low n d) ∧ e ≤ t.length := by
  unfold tk at q
  split at q
  · cases q
  · rename_i b r
    split at q
    · split at q
      · cases q
      · rename_i hb
        split at q
        · cases q
          refine ⟨fun _ => Low.str, ?_⟩
          simp only [List.length_cons] at hb ⊢
          omega
        · cases q
    · split at q
      · cases q
      · rename_i hb
        cases q
        exact ⟨fun _ => Low.int, by simp only [List.length_cons] at hb ⊢; omega⟩
noncomputable def f_take_items0 : Fn := runFn 6 3 (b_take_items f_take_item)
noncomputable def f_take_items : Fn := cl f_take_items0
theorem tks_loop (l : List Int) (hb : ∀ b ∈ l, Byte b) (h0 : Th) (l0 : List MP.D) (kd : MP.D) : ∀ (ks : List Bool) (p : Nat) (ds : List MP.D) (x4 x5 : Option MP.D), ds.length + ks.length ≤ 1000 → p ≤ l.length →
    match tks ks (l.drop p) with
    | some (es, t) => ∃ p' x4' x5', p' ≤ l.length ∧ t = l.drop p' ∧ forGo (.val l0) (nameG 4) (seqS (asgS (tupG 2 (consG (nameG 5) (consG (nameG 2) nilG))) (callE f_take_item (consA (varE 4) (consA (varE 1) (consA (varE 2) nilA))))) (exprS (methL appD (varE 3) (consA (varE 5) nilA)))) (ks.map kn)
        [some kd, some (.tup (l.map .int)), some (.int p), some (.ref h0.length), x4, x5] (h0 ++ [.lst ds]) = .nx [some kd, some (.tup (l.map .int)), some (.int (p' : Nat)), some (.ref h0.length), x4', x5'] (h0 ++ [.lst (ds ++ es)])
    | none => ∃ rho' t, forGo (.val l0) (nameG 4) (seqS (asgS (tupG 2 (consG (nameG 5) (consG (nameG 2) nilG))) (callE f_take_item (consA (varE 4) (consA (varE 1) (consA (varE 2) nilA))))) (exprS (methL appD (varE 3) (consA (varE 5) nilA)))) (ks.map kn)
        [some kd, some (.tup (l.map .int)), some (.int p), some (.ref h0.length), x4, x5] (h0 ++ [.lst ds]) = .ex ⟨"BadRows", []⟩ rho' (h0 ++ t)
  | [], p, ds, x4, x5, _, hp => by
    simp only [tks]
    exact ⟨p, x4, x5, hp, rfl, by simp⟩
  | k :: ks, p, ds, x4, x5, hl, hp => by
    have et := take_item_ok k l hb p (h0 ++ [.lst ds])
    simp only [tks]
    rw [List.map_cons, for_name]
    cases q : tk k (l.drop p) with
    | none =>
      rw [q] at et
      refine ⟨[some kd, some (.tup (l.map .int)), some (.int p), some (.ref h0.length), some (kn k), x5], [.lst ds], ?_⟩
      simp [et]
    | some de =>
      obtain ⟨d, e⟩ := de
      rw [q] at et
      obtain ⟨_, he⟩ := tk_low q
      have he' : p + e ≤ l.length := by
        simp only [List.length_drop] at he
        omega
      have ih := tks_loop l hb h0 l0 kd ks (p + e) (ds ++ [d]) (some (kn k)) (some d) (by simp at hl ⊢; omega) he'
      have ea := appD_ref (h0 ++ [.lst ds]) ds d (n := h0.length) (by simp) (by simp at hl; omega)
      have eth := thListD_ref (h0 ++ [.lst ds]) ds (n := h0.length) (by simp)
      have es : (h0 ++ [O.lst ds]).set h0.length (.lst (ds ++ [d])) = h0 ++ [.lst (ds ++ [d])] := by simp
      rw [es] at ea
      dsimp only
      rw [show (l.drop p).drop e = l.drop (p + e) from by rw [List.drop_drop]]
      cases q2 : tks ks (l.drop (p + e)) with
      | none =>
        rw [q2] at ih
        obtain ⟨rho', t, ih⟩ := ih
        refine ⟨rho', t, ?_⟩
        simp [et, eth, ea]
        simpa using ih
      | some er =>
        obtain ⟨es', r⟩ := er
        rw [q2] at ih
        obtain ⟨p', x4', x5', hp', ht, ih⟩ := ih
        refine ⟨p', x4', x5', hp', ht, ?_⟩
        simp [et, eth, ea]
        simpa using ih
theorem tks_low : ∀ {ks : List Bool} {t : List Int} {es : List MP.D} {r : List Int}, tks ks t = some (es, r) → (∀ n, Lows n es) ∧ es.length = ks.length
  | [], t, es, r, q => by
    cases q
    exact ⟨fun n d hd => (nomatch hd), rfl⟩
  | k :: ks, t, es, r, q => by
    unfold tks at q
    cases q1 : tk k t with
    | none => rw [q1] at q; cases q
    | some de =>
      obtain ⟨d, e⟩ := de
      rw [q1] at q
      dsimp only at q
      cases q2 : tks ks (t.drop e) with
      | none => rw [q2] at q; cases q
      | some er =>
        obtain ⟨es', r'⟩ := er
        rw [q2] at q
        cases q
        obtain ⟨h1, h2⟩ := tks_low q2
        refine ⟨fun n x hx => ?_, by simp [h2]⟩
        rcases List.mem_cons.mp hx with z | z
        · rw [z]; exact (tk_low q1).1 n
        · exact h1 n x z
theorem take_items_ok (ks : List Bool) (l : List Int) (hb : ∀ b ∈ l, Byte b) (hk : ks.length ≤ 1000) (h : Th) : f_take_items [.tup (ks.map kn), .tup (l.map .int), .int 0] h = match tks ks l with
    | some (es, t) => .ok (.tup [.tup es, .int (l.length - t.length)]) h
    | none => .ex ⟨"BadRows", []⟩ h := by
  have lp := tks_loop l hb h (ks.map kn) (.tup (ks.map kn)) ks 0 [] none none (by simpa using hk) (Nat.zero_le _)
  rw [List.drop_zero] at lp
  cases q : tks ks l with
  | none =>
    rw [q] at lp
    obtain ⟨rho', t, lp⟩ := lp
    refine cl_ex (t := t) ?_
    unfold f_take_items0
    rw [run3]
    simp [b_take_items, List.replicate]
    simp at lp
    simp [lp]
  | some er =>
    obtain ⟨es, t⟩ := er
    rw [q] at lp
    obtain ⟨p', x4, x5, hp', ht, lp⟩ := lp
    obtain ⟨low, _⟩ := tks_low q
    have hl : ((l.length : Int) - (t.length : Int)) = (p' : Int) := by rw [ht, List.length_drop]; omega
    dsimp only
    rw [hl]
    refine cl_low (t := [.lst es]) ?_ (Low.tup fun d hd => ?_)
    · unfold f_take_items0
      rw [run3]
      simp [b_take_items, List.replicate]
      simp at lp
      simp [lp]
      rw [tupleD_ref _ es (by simp)]
      simp
    · rcases List.mem_cons.mp hd with z | z
      · rw [z]; exact Low.tup (low _)
      · have : d = .int p' := by simpa using z
        rw [this]; exact Low.int
noncomputable def f_items_of : Fn := runFn 4 2 (b_items_of f_take_items)
/-- what a row tells -/
def rd (ks : List Bool) (l : List Int) : Option (List MP.D) := match tks ks l with
  | some (es, []) => some es
  | _ => none
theorem tks_short {ks : List Bool} {l : List Int} {es : List MP.D} {t : List Int} (q : tks ks l = some (es, t)) : t.length ≤ l.length := by
  revert l es t
  induction ks with
  | nil => intro l es t q; cases q; exact Nat.le_refl _
  | cons k ks ih =>
    intro l es t q
    unfold tks at q
    cases q1 : tk k l with
    | none => rw [q1] at q; cases q
    | some de =>
      obtain ⟨d, e⟩ := de
      rw [q1] at q
      dsimp only at q
      cases q2 : tks ks (l.drop e) with
      | none => rw [q2] at q; cases q
      | some er =>
        obtain ⟨es', r'⟩ := er
        rw [q2] at q
        cases q
        have := ih q2
        rw [List.length_drop] at this
        omega
theorem items_of_ok (ks : List Bool) (l : List Int) (hb : ∀ b ∈ l, Byte b) (hk : ks.length ≤ 1000) (h : Th) : f_items_of [.tup (ks.map kn), .tup (l.map .int)] h = match rd ks l with
    | some es => .ok (.tup es) h
    | none => .ex ⟨"BadRows", []⟩ h := by
  have e := take_items_ok ks l hb hk h
  unfold f_items_of
  rw [run2]
  unfold rd
  cases q : tks ks l with
  | none =>
    rw [q] at e
    simp [b_items_of, List.replicate, e]
  | some er =>
    obtain ⟨es, t⟩ := er
    rw [q] at e
    have := tks_short q
    cases t with
    | nil =>
      simp [b_items_of, List.replicate, e]
    | cons b t =>
      have n1 : ¬ ((l.length : Int) - (((t.length : Nat) : Int) + 1) = (l.length : Int)) := by omega
      simp [b_items_of, List.replicate, e, n1]
noncomputable def f_law_told : Fn := runFn 2 2 (b__law_told f_items_of)
def told (o : Option (List MP.D)) : MP.D := match o with
  | some es => .tup es
  | none => .non
theorem law_told_ok (ks : List Bool) (l : List Int) (hb : ∀ b ∈ l, Byte b) (hk : ks.length ≤ 1000) (h : Th) : f_law_told [.tup (ks.map kn), .tup (l.map .int)] h = .ok (told (rd ks l)) h := by
  have e := items_of_ok ks l hb hk h
  unfold f_law_told
  rw [run2]
  cases q : rd ks l with
  | none =>
    rw [q] at e
    simp [b__law_told, e]
    rw [tryK_ex (by decide +kernel)]
    rfl
  | some es =>
    rw [q] at e
    simp [b__law_told, e]
    rfl
end K65
set_option Elab.async false
set_option linter.all false
set_option maxRecDepth 100000
set_option maxHeartbeats 0
namespace K65
open PySem PySem.Spec PyProof.Rows L2 MP

abbrev ALPH : Str := "0123456789abcdefghijklmnopqrstuvwxyz"
def sn (b : Int) : Nat := match sg b with
  | some c => c
  | none => 63
noncomputable def f_law_sign : Fn := runFn 2 1 b__law_sign
theorem ord_chr (c : Nat) (h : Th) : ordD [chr c] h = .ok (.int c) h := by
  rw [ordD_str _ _ (by rfl)]
  simp
theorem sign_loop (b : Int) (h : Th) (l0 : List MP.D) : ∀ (cs : List Nat) (x : Option MP.D), (b ∈ cs.map (fun c : Nat => (c : Int)) → forGo (.val l0) (nameG 1) (ifS (boolT (binE eqD (callE ordD (consA (varE 1) nilA)) (varE 0))) (retS (varE 1)) skipS) (cs.map chr) [some (.int b), x] h = .rt (chr b.toNat) h) ∧
    (b ∉ cs.map (fun c : Nat => (c : Int)) → ∃ x', forGo (.val l0) (nameG 1) (ifS (boolT (binE eqD (callE ordD (consA (varE 1) nilA)) (varE 0))) (retS (varE 1)) skipS) (cs.map chr) [some (.int b), x] h = .nx [some (.int b), x'] h)
  | [], x => ⟨fun z => (nomatch z), fun _ => ⟨x, by simp⟩⟩
  | c :: cs, x => by
    obtain ⟨i1, i2⟩ := sign_loop b h l0 cs (some (chr c))
    rw [List.map_cons, List.map_cons, for_name]
    by_cases q : (c : Int) = b
    · refine ⟨fun _ => ?_, fun z => absurd (List.mem_cons.mpr (.inl q.symm)) z⟩
      have : b.toNat = c := by omega
      simp [ord_chr, q, this]
    · have hs : (seqS (ifS (boolT (binE eqD (callE ordD (consA (varE 1) nilA)) (varE 0))) (retS (varE 1)) skipS) skipS) = (seqS (ifS (boolT (binE eqD (callE ordD (consA (varE 1) nilA)) (varE 0))) (retS (varE 1)) skipS) skipS) := rfl
      refine ⟨fun z => ?_, fun z => ?_⟩
      · rcases List.mem_cons.mp z with z | z
        · exact absurd z.symm q
        · have := i1 z
          simp [ord_chr, q, this]
      · obtain ⟨x', e⟩ := i2 fun y => z (List.mem_cons_of_mem _ y)
        refine ⟨x', ?_⟩
        simp [ord_chr, q, e]
theorem alph_sg (b : Int) : b ∈ ALPH.cps.toList.map (fun c : Nat => (c : Int)) ↔ ∃ c, sg b = some c := by
  have key : ∀ n : Fin 128, ((n.val : Int) ∈ ALPH.cps.toList.map (fun c : Nat => (c : Int))) ↔ ((48 ≤ n.val ∧ n.val ≤ 57) ∨ (97 ≤ n.val ∧ n.val ≤ 122)) := by decide +kernel
  have low : ∀ c ∈ ALPH.cps.toList, c < 128 := by decide +kernel
  constructor
  · intro hb
    obtain ⟨c, hc, rfl⟩ := List.mem_map.mp hb
    have := (key ⟨c, low c hc⟩).mp (List.mem_map.mpr ⟨c, hc, rfl⟩)
    refine ⟨c, ?_⟩
    unfold sg
    rw [if_pos (by simp only at this; omega)]
    simp
  · rintro ⟨c, e⟩
    unfold sg at e
    split at e
    · rename_i q
      have hb : b.toNat < 128 := by omega
      have := (key ⟨b.toNat, hb⟩).mpr (by simp only; omega)
      rw [show ((⟨b.toNat, hb⟩ : Fin 128).val : Int) = b from by simp only; omega] at this
      exact this
    · cases e
theorem law_sign_ok (b : Int) (h : Th) : f_law_sign [.int b] h = .ok (chr (sn b)) h := by
  unfold f_law_sign
  rw [run1]
  have es : signsD ALPH = ALPH.cps.toList.map chr := rfl
  obtain ⟨i1, i2⟩ := sign_loop b h (ALPH.cps.toList.map chr) ALPH.cps.toList none
  have e0 : srcD (.str ALPH) h = .ok (.val (ALPH.cps.toList.map chr)) h := srcD_str h ALPH (by decide +kernel)
  unfold sn
  cases q : sg b with
  | none =>
    obtain ⟨x', e⟩ := i2 fun z => by
      obtain ⟨c, e⟩ := (alph_sg b).mp z
      rw [q] at e; cases e
    simp [b__law_sign, List.replicate, e0, e]
    rfl
  | some c =>
    have e := i1 ((alph_sg b).mpr ⟨c, q⟩)
    have hc : b.toNat = c := by
      unfold sg at q
      split at q
      · cases q; rfl
      · cases q
    rw [hc] at e
    simp [b__law_sign, List.replicate, e0, e]
noncomputable def rbody : DS := (seqS (ifS (boolT (binE eqD (varE 1) (tupE nilA)))
  (retS (constE .non))
  skipS) (seqS (asgS (nameG 4) (binE getD (lstE (consA (constE (.int 5)) (consA (binE getD (varE 1) (constE (.int 0))) nilA))) (callE intD (consA (binE eqD (varE 3) (constE (.str "text"))) nilA)))) (seqS (ifS (orT (boolT (binE eqD (varE 4) (constE (.int 0)))) (orT (boolT (binE ltD (callE lenD (consA (varE 1) nilA)) (varE 4))) (orT (andT (boolT (binE eqD (varE 3) (constE (.str "number")))) (boolT (binE neD (binE getD (varE 1) (constE (.int 0))) (constE (.int 0))))) (boolT (binE gtD (varE 4) (constE (.int 13)))))))
  (retS (constE .non))
  skipS) (seqS (ifS (boolT (binE eqD (varE 3) (constE (.str "number"))))
  (exprS (methL appD (varE 2) (consA (binE subD (callE f_law_join (consA (sliceE (varE 1) (someP (constE (.int 1))) (someP (constE (.int 5)))) nilA)) (constE (.int 2147483648))) nilA)))
  (seqS (asgS (nameG 5) (lcE (srcE (lcE (srcE (sliceE (varE 1) (someP (constE (.int 1))) (someP (varE 4)))) (nameG 7) yesT (callE f_law_sign (consA (varE 7) nilA)) [7])) (nameG 6) yesT (methS findD (constE (.str "0123456789abcdefghijklmnopqrstuvwxyz")) (varE 6)) [6])) (seqS (ifS (boolT (binE inD (negE (constE (.int 1))) (varE 5)))
  (retS (constE .non))
  skipS) (exprS (methL appD (varE 2) (consA (methS joinD (constE (.str "")) (lcE (srcE (sliceE (varE 1) (someP (constE (.int 1))) (someP (varE 4)))) (nameG 7) yesT (callE f_law_sign (consA (varE 7) nilA)) [7])) nilA)))))) (asgS (nameG 1) (sliceE (varE 1) (someP (varE 4)) noP))))))
noncomputable def f_law_read0 : Fn := runFn 8 2 (b__law_read f_law_join f_law_sign)
noncomputable def f_law_read : Fn := cl f_law_read0
theorem read_eq : b__law_read f_law_join f_law_sign = seqS (asgS (nameG 2) (newLE nilA)) (seqS (forS (srcE (varE 0)) (nameG 3) rbody) (seqS (ifS (boolT (binE neD (varE 1) (tupE nilA)))
  (retS (constE .non))
  skipS) (retS (callE tupleD (consA (varE 2) nilA))))) := rfl
theorem eqD_nil (l : List Int) (h : Th) : eqD (.tup (l.map MP.D.int)) (.tup []) h = .ok (.bl (decide (l = []))) h := eqD_ints l [] h
theorem neD_nil (l : List Int) (h : Th) : neD (.tup (l.map MP.D.int)) (.tup []) h = .ok (.bl (!decide (l = []))) h := neD_ints l [] h
theorem atI_zero {α : Type} (b : α) (r : List α) : atI (b :: r) 0 = some b := by
  rw [atI_at (by omega)]
  rfl
theorem read_num (kd : MP.D) (t : List Int) (hb : ∀ b ∈ t, Byte b) (h0 : Th) (ds : List MP.D) (hd : ds.length < 1000) (x4 x5 x6 x7 : Option MP.D) : match tk false t with
    | none => rbody [some kd, some (.tup (t.map .int)), some (.ref h0.length), some (.str "number"), x4, x5, x6, x7] (h0 ++ [.lst ds]) = .rt .non (h0 ++ [.lst ds])
    | some (d, e) => ∃ x4' x5', rbody [some kd, some (.tup (t.map .int)), some (.ref h0.length), some (.str "number"), x4, x5, x6, x7] (h0 ++ [.lst ds]) = .nx [some kd, some (.tup ((t.drop e).map .int)), some (.ref h0.length), some (.str "number"), x4', x5', x6, x7] (h0 ++ [.lst (ds ++ [d])]) := by
  cases t with
  | nil =>
    have := eqD_nil [] (h0 ++ [O.lst ds])
    simp at this
    simp [tk, rbody, this]
  | cons b r =>
    have en : ∀ b : Int, eqD (.tup (.int b :: r.map MP.D.int)) (.tup []) (h0 ++ [O.lst ds]) = .ok (.bl false) (h0 ++ [O.lst ds]) := fun b => by
      have := eqD_nil (b :: r) (h0 ++ [O.lst ds])
      simpa using this
    have ea : ∀ d, appD (.ref h0.length) [d] (h0 ++ [O.lst ds]) = .ok .non (h0 ++ [.lst (ds ++ [d])]) := fun d => by
      have := appD_ref (h0 ++ [.lst ds]) ds d (n := h0.length) (by simp) (by omega)
      simpa using this
    have eth := thListD_ref (h0 ++ [.lst ds]) ds (n := h0.length) (by simp)
    have c1 : MP.cutD ((b :: r).map MP.D.int) (some 1) (some 5) = (r.take 4).map MP.D.int := by
      have := cutD_nat ((b :: r).map MP.D.int) 1 5
      rw [← List.map_drop, ← List.map_take] at this
      exact this
    have c2 : MP.cutD ((b :: r).map MP.D.int) (some 5) none = ((b :: r).drop 5).map MP.D.int := by
      have := cutD_from ((b :: r).map MP.D.int) 5
      rw [← List.map_drop] at this
      exact this
    have a5 : atI [MP.D.int 5, .int b] 0 = some (.int 5) := rfl
    by_cases hb0 : b = 0
    · by_cases h5 : r.length + 1 < 5
      · have n1 : (r.length : Int) + 1 < 5 := by omega
        simp [tk, rbody, en, atI_zero, hb0, h5, n1]
      · have n1 : ¬ (r.length : Int) + 1 < 5 := by omega
        simp only [tk]
        rw [if_neg (by simp), if_neg (by simp [hb0]; omega)]
        refine ⟨some (.int 5), x5, ?_⟩
        subst hb0
        simp [-List.map_take, -List.map_drop, rbody, en, atI_zero, n1]
        rw [List.map_cons] at c1 c2
        simp [-List.map_take, -List.map_drop, c1, c2, eth, ea, law_join_ok]
    · simp [tk, rbody, en, atI_zero, hb0]
theorem find_in : ∀ c ∈ ALPH.cps.toList, Txt.find ALPH ⟨#[c]⟩ ≠ -1 := by decide +kernel
theorem find_out : Txt.find ALPH ⟨#[63]⟩ = -1 := by decide +kernel
theorem find_sn (b : Int) : Txt.find ALPH ⟨#[sn b]⟩ = -1 ↔ sg b = none := by
  unfold sn
  cases q : sg b with
  | none => simp only [find_out]
  | some c =>
    refine ⟨fun z => ?_, fun z => by cases z⟩
    obtain ⟨c', hc', e⟩ := List.mem_map.mp ((alph_sg b).mpr ⟨c, q⟩)
    have : c' = c := by
      unfold sg at q
      split at q
      · cases q; omega
      · cases q
    subst this
    exact absurd z (find_in c' hc')
theorem mapM_none : ∀ {l : List Int}, l.mapM sg = none ↔ ∃ b ∈ l, sg b = none
  | [] => by simp
  | b :: l => by
    rw [List.mapM_cons]
    cases q : sg b with
    | none => exact ⟨fun _ => ⟨b, List.mem_cons_self, q⟩, fun _ => rfl⟩
    | some c =>
      have ih := mapM_none (l := l)
      cases q2 : l.mapM sg with
      | none =>
        obtain ⟨x, hx, e⟩ := ih.mp q2
        exact ⟨fun _ => ⟨x, List.mem_cons_of_mem _ hx, e⟩, fun _ => rfl⟩
      | some cs =>
        refine ⟨fun z => (nomatch z), fun ⟨x, hx, e⟩ => ?_⟩
        rcases List.mem_cons.mp hx with z | z
        · rw [z, q] at e; cases e
        · have := ih.mpr ⟨x, z, e⟩
          rw [q2] at this; cases this
theorem mapM_sn : ∀ {l : List Int} {cs : List Nat}, l.mapM sg = some cs → l.map sn = cs
  | [], cs, e => by cases e; rfl
  | b :: l, cs, e => by
    rw [List.mapM_cons] at e
    cases q : sg b with
    | none => rw [q] at e; cases e
    | some c =>
      rw [q] at e
      cases q2 : l.mapM sg with
      | none => rw [q2] at e; cases e
      | some cs' =>
        rw [q2] at e
        cases e
        rw [List.map_cons, mapM_sn q2]
        unfold sn
        rw [q]
theorem lsign_lc (l0 : List MP.D) (l : List Int) (rho : Ro) (h : Th) (hr : rho.length = 8) : lcGo (.val l0) (nameG 7) yesT (callE f_law_sign (consA (varE 7) nilA)) rho (l.map MP.D.int) h = .ok ((l.map sn).map chr) h := by
  rw [lc_map (f := fun d => match d with
    | .int b => chr (sn b)
    | _ => .non)]
  · rw [List.map_map, List.map_map]
    rfl
  · intro d hd
    obtain ⟨b, _, rfl⟩ := List.mem_map.mp hd
    have : (rho.set 7 (some (MP.D.int b)))[7]? = some (some (.int b)) := by rw [List.getElem?_set_self (by omega)]
    simp only [ap_callE, ap_consA, ap_var, this, oo_some, ok_bind, ap_nilA, law_sign_ok]
theorem lfind_lc (l0 : List MP.D) (cs : List Nat) (rho : Ro) (h : Th) (hr : rho.length = 8) : lcGo (.val l0) (nameG 6) yesT (methS findD (constE (.str "0123456789abcdefghijklmnopqrstuvwxyz")) (varE 6)) rho (cs.map chr) h = .ok ((cs.map fun c => Txt.find ALPH ⟨#[c]⟩).map .int) h := by
  rw [lc_map (f := fun d => match d with
    | .str z => .int (Txt.find ALPH z)
    | _ => .non)]
  · rw [List.map_map, List.map_map]
    rfl
  · intro d hd
    obtain ⟨b, _, rfl⟩ := List.mem_map.mp hd
    have : (rho.set 6 (some (chr b)))[6]? = some (some (chr b)) := by rw [List.getElem?_set_self (by omega)]
    simp only [ap_methS, ap_const, sK_str, ap_var, this, oo_some, ok_bind, findD_str]
theorem read_text (kd : MP.D) (t : List Int) (hb : ∀ b ∈ t, Byte b) (h0 : Th) (ds : List MP.D) (hd : ds.length < 1000) (x4 x5 x6 x7 : Option MP.D) : match tk true t with
    | none => rbody [some kd, some (.tup (t.map .int)), some (.ref h0.length), some (.str "text"), x4, x5, x6, x7] (h0 ++ [.lst ds]) = .rt .non (h0 ++ [.lst ds])
    | some (d, e) => ∃ x4' x5', rbody [some kd, some (.tup (t.map .int)), some (.ref h0.length), some (.str "text"), x4, x5, x6, x7] (h0 ++ [.lst ds]) = .nx [some kd, some (.tup ((t.drop e).map .int)), some (.ref h0.length), some (.str "text"), x4', x5', x6, x7] (h0 ++ [.lst (ds ++ [d])]) := by
  cases t with
  | nil =>
    have := eqD_nil [] (h0 ++ [O.lst ds])
    simp at this
    simp [tk, rbody, this]
  | cons b r =>
    have en : ∀ b : Int, eqD (.tup (.int b :: r.map MP.D.int)) (.tup []) (h0 ++ [O.lst ds]) = .ok (.bl false) (h0 ++ [O.lst ds]) := fun b => by
      have := eqD_nil (b :: r) (h0 ++ [O.lst ds])
      simpa using this
    have ea : ∀ d, appD (.ref h0.length) [d] (h0 ++ [O.lst ds]) = .ok .non (h0 ++ [.lst (ds ++ [d])]) := fun d => by
      have := appD_ref (h0 ++ [.lst ds]) ds d (n := h0.length) (by simp) (by omega)
      simpa using this
    have eth := thListD_ref (h0 ++ [.lst ds]) ds (n := h0.length) (by simp)
    obtain ⟨hb0, hb1⟩ := hb b List.mem_cons_self
    have a1 : atI [MP.D.int 5, .int b] 1 = some (.int b) := rfl
    by_cases h0' : b = 0
    · simp [tk, rbody, en, atI_zero, h0', show atI [MP.D.int 5, .int 0] 1 = some (.int 0) from rfl]
    · have hle : ¬ b ≤ 0 := by omega
      by_cases h1 : (r.length : Int) + 1 < b
      · simp [tk, rbody, en, atI_zero, h0', a1, h1, hle]
      · by_cases h13 : 13 < b
        · simp [tk, rbody, en, atI_zero, h0', a1, h1, h13, hle]
        · have c1 : MP.cutD ((b :: r).map MP.D.int) (some 1) (some b) = (r.take (b.toNat - 1)).map MP.D.int := by
            have := cutD_nat ((b :: r).map MP.D.int) 1 b.toNat
            rw [← List.map_drop, ← List.map_take, show ((b.toNat : Nat) : Int) = b from by omega] at this
            exact this
          have c2 : MP.cutD ((b :: r).map MP.D.int) (some b) none = ((b :: r).drop b.toNat).map MP.D.int := by
            have := cutD_from ((b :: r).map MP.D.int) b.toNat
            rw [← List.map_drop, show ((b.toNat : Nat) : Int) = b from by omega] at this
            exact this
          rw [List.map_cons] at c1 c2
          have e1' := fun x4 x5 => lsign_lc ((r.take (b.toNat - 1)).map MP.D.int) (r.take (b.toNat - 1)) [some kd, some (.tup (.int b :: r.map MP.D.int)), some (.ref h0.length), some (.str "text"), x4, x5, x6, none] (h0 ++ [O.lst ds]) rfl
          have e2 := fun x4 x5 => lfind_lc (((r.take (b.toNat - 1)).map sn).map chr) ((r.take (b.toNat - 1)).map sn) [some kd, some (.tup (.int b :: r.map MP.D.int)), some (.ref h0.length), some (.str "text"), x4, x5, none, x7] (h0 ++ [O.lst ds]) rfl
          have em := inD_ints (-1) (((r.take (b.toNat - 1)).map sn).map fun c => Txt.find ALPH ⟨#[c]⟩) (h0 ++ [O.lst ds])
          have hm : (-1 ∈ ((r.take (b.toNat - 1)).map sn).map fun c => Txt.find ALPH ⟨#[c]⟩) ↔ (r.take (b.toNat - 1)).mapM sg = none := by
            rw [mapM_none, List.map_map]
            constructor
            · intro z
              obtain ⟨x, hx, e⟩ := List.mem_map.mp z
              exact ⟨x, hx, (find_sn x).mp e⟩
            · rintro ⟨x, hx, e⟩
              exact List.mem_map.mpr ⟨x, hx, (find_sn x).mpr e⟩
          simp only [tk]
          rw [if_pos trivial, if_neg (by simp only [List.length_cons]; omega)]
          cases qm : (r.take (b.toNat - 1)).mapM sg with
          | none =>
            have hm' := hm.mpr qm
            rw [decide_eq_true hm'] at em
            simp [-List.map_take, -List.map_drop, -List.map_map, rbody, en, atI_zero, h0', a1, h1, h13, c1, e1', e2, em]
          | some cs =>
            have hm' : ¬ (-1 ∈ ((r.take (b.toNat - 1)).map sn).map fun c => Txt.find ALPH ⟨#[c]⟩) := fun z => by
              rw [hm.mp z] at qm; cases qm
            rw [decide_eq_false hm'] at em
            obtain ⟨hcl, hco⟩ := mapM_ok qm
            have ej := joinD_chr (cs := cs) (by rw [hcl, List.length_take]; omega) (h0 ++ [O.lst ds])
            rw [mapM_sn qm] at e1' e2 em
            refine ⟨some (.int b), some (.lst ((cs.map fun c => Txt.find ALPH ⟨#[c]⟩).map .int)), ?_⟩
            simp [-List.map_take, -List.map_drop, -List.map_map, rbody, en, atI_zero, h0', a1, h1, h13, c1, c2, e1', e2, em, eth, ea, ej]
theorem read_step (k : Bool) (kd : MP.D) (t : List Int) (hb : ∀ b ∈ t, Byte b) (h0 : Th) (ds : List MP.D) (hd : ds.length < 1000) (x4 x5 x6 x7 : Option MP.D) : match tk k t with
    | none => rbody [some kd, some (.tup (t.map .int)), some (.ref h0.length), some (kn k), x4, x5, x6, x7] (h0 ++ [.lst ds]) = .rt .non (h0 ++ [.lst ds])
    | some (d, e) => ∃ x4' x5', rbody [some kd, some (.tup (t.map .int)), some (.ref h0.length), some (kn k), x4, x5, x6, x7] (h0 ++ [.lst ds]) = .nx [some kd, some (.tup ((t.drop e).map .int)), some (.ref h0.length), some (kn k), x4', x5', x6, x7] (h0 ++ [.lst (ds ++ [d])]) := by
  cases k with
  | false => exact read_num kd t hb h0 ds hd x4 x5 x6 x7
  | true => exact read_text kd t hb h0 ds hd x4 x5 x6 x7
end K65
set_option Elab.async false
set_option linter.all false
set_option maxRecDepth 100000
set_option maxHeartbeats 0
namespace K65
open PySem PySem.Spec PyProof.Rows L2 MP

theorem read_loop (kd : MP.D) (h0 : Th) (l0 : List MP.D) : ∀ (ks : List Bool) (t : List Int) (ds : List MP.D) (x3 x4 x5 x6 x7 : Option MP.D), (∀ b ∈ t, Byte b) → ds.length + ks.length < 1000 →
    match tks ks t with
    | none => ∃ ds', forGo (.val l0) (nameG 3) rbody (ks.map kn) [some kd, some (.tup (t.map .int)), some (.ref h0.length), x3, x4, x5, x6, x7] (h0 ++ [.lst ds]) = .rt .non (h0 ++ [.lst ds'])
    | some (es, r) => ∃ x3' x4' x5', forGo (.val l0) (nameG 3) rbody (ks.map kn) [some kd, some (.tup (t.map .int)), some (.ref h0.length), x3, x4, x5, x6, x7] (h0 ++ [.lst ds]) =
        .nx [some kd, some (.tup (r.map .int)), some (.ref h0.length), x3', x4', x5', x6, x7] (h0 ++ [.lst (ds ++ es)])
  | [], t, ds, x3, x4, x5, x6, x7, _, _ => by
    simp only [tks]
    exact ⟨x3, x4, x5, by simp⟩
  | k :: ks, t, ds, x3, x4, x5, x6, x7, hb, hl => by
    have st := read_step k kd t hb h0 ds (by simp at hl; omega) x4 x5 x6 x7
    rw [List.map_cons, for_name]
    have hs : ([some kd, some (.tup (t.map .int)), some (.ref h0.length), x3, x4, x5, x6, x7] : Ro).set 3 (some (kn k)) = [some kd, some (.tup (t.map .int)), some (.ref h0.length), some (kn k), x4, x5, x6, x7] := rfl
    rw [hs]
    unfold tks
    cases q : tk k t with
    | none =>
      rw [q] at st
      dsimp only at st ⊢
      rw [st]
      exact ⟨ds, rfl⟩
    | some de =>
      obtain ⟨d, e⟩ := de
      rw [q] at st
      obtain ⟨x4', x5', st⟩ := st
      dsimp only
      have ih := read_loop kd h0 l0 ks (t.drop e) (ds ++ [d]) (some (kn k)) x4' x5' x6 x7 (fun b h => hb b (List.mem_of_mem_drop h)) (by simp at hl ⊢; omega)
      rw [st]
      simp only [afterS_nx]
      cases q2 : tks ks (t.drop e) with
      | none =>
        rw [q2] at ih
        exact ih
      | some er =>
        obtain ⟨es', r⟩ := er
        rw [q2] at ih
        obtain ⟨y3, y4, y5, ih⟩ := ih
        refine ⟨y3, y4, y5, ?_⟩
        rw [ih]
        simp
theorem law_read_ok (ks : List Bool) (l : List Int) (hb : ∀ b ∈ l, Byte b) (hk : ks.length < 1000) (h : Th) : f_law_read [.tup (ks.map kn), .tup (l.map .int)] h = .ok (told (rd ks l)) h := by
  have lp := read_loop (.tup (ks.map kn)) h (ks.map kn) ks l [] none none none none none hb (by simpa using hk)
  unfold rd
  cases q : tks ks l with
  | none =>
    rw [q] at lp
    obtain ⟨ds', lp⟩ := lp
    refine cl_low (t := [.lst ds']) ?_ Low.non
    unfold f_law_read0
    rw [run2, read_eq]
    simp [List.replicate]
    rw [lp]
    rfl
  | some er =>
    obtain ⟨es, r⟩ := er
    rw [q] at lp
    obtain ⟨x3, x4, x5, lp⟩ := lp
    obtain ⟨low, _⟩ := tks_low q
    have en := neD_nil r (h ++ [.lst es])
    cases r with
    | nil =>
      refine cl_low (t := [.lst es]) ?_ (Low.tup (low _))
      unfold f_law_read0
      rw [run2, read_eq]
      simp [List.replicate]
      rw [lp]
      simp at en
      simp [en]
      rw [tupleD_ref _ es (by simp)]
      simp [told]
    | cons b r =>
      refine cl_low (t := [.lst es]) ?_ Low.non
      unfold f_law_read0
      rw [run2, read_eq]
      simp [List.replicate]
      rw [lp]
      simp at en
      simp [en, told]
/-! ### sums -/
def sumG (n : Int) (l : List Int) : Int := l.foldl (fun n b => (n * 972663749 + b + 1) % 2305843009213693951) n
noncomputable def f_sum_bytes : Fn := runFn 3 1 b_sum_bytes
theorem sum_bytes_ok (l : List Int) (h : Th) : f_sum_bytes [.tup (l.map .int)] h = .ok (.int (sumG 1 l)) h := by
  unfold f_sum_bytes
  rw [run1]
  have loop : ∀ (k : List Int) (n : Int) (x : Option MP.D) (l0 : List MP.D), ∃ x', forGo (.val l0) (nameG 2) (asgS (nameG 1) (binE modD (binE addD (binE addD (binE mulD (varE 1) (constE (.int (972663749)))) (varE 2)) (constE (.int 1))) (constE (.int (2305843009213693951))))) (k.map .int) [some (.tup (l.map .int)), some (.int n), x] h = .nx [some (.tup (l.map .int)), some (.int (sumG n k)), x'] h := by
    intro k
    induction k with
    | nil => intro n x l0; exact ⟨x, by simp [sumG]⟩
    | cons b k ih =>
      intro n x l0
      obtain ⟨x', e⟩ := ih ((n * 972663749 + b + 1) % 2305843009213693951) (some (.int b)) l0
      refine ⟨x', ?_⟩
      rw [List.map_cons, for_name]
      simp [e]
      rfl
  obtain ⟨x', e⟩ := loop l 1 none (l.map .int)
  simp [b_sum_bytes, List.replicate, e]
noncomputable def f_law_sum : Fn := runFn 3 1 b__law_sum
theorem law_sum_ok (l : List Int) (h : Th) : f_law_sum [.tup (l.map .int)] h = .ok (.int (sumG 1 l)) h := sum_bytes_ok l h
theorem sum_step (a b c d : Int) (h : (a * 972663749 + c + 1) % 2305843009213693951 = (b * 972663749 + c + 1) % 2305843009213693951) (ha : 0 ≤ a ∧ a < 2305843009213693951) (hb : 0 ≤ b ∧ b < 2305843009213693951) : a = b := by
  have h1 : ((a * 972663749 + c + 1) - (b * 972663749 + c + 1)) % 2305843009213693951 = 0 := Int.emod_eq_emod_iff_emod_sub_eq_zero.mp h
  have h2 : (2305843009213693951 : Int) ∣ (a - b) * 972663749 := by
    refine Int.dvd_of_emod_eq_zero ?_
    rw [← h1]
    congr 1
    rw [Int.sub_mul]
    omega
  have h3 : (2305843009213693951 : Int) ∣ (a - b) * 972663749 * 1459853981234778580 := Int.dvd_trans h2 (Int.dvd_mul_right _ _)
  rw [Int.mul_assoc] at h3
  have e : (972663749 : Int) * 1459853981234778580 = 1 + 2305843009213693951 * ((972663749 * 1459853981234778580 - 1) / 2305843009213693951) := by decide +kernel
  rw [e, Int.mul_add, Int.mul_one] at h3
  have h4 : (2305843009213693951 : Int) ∣ a - b := by
    refine (Int.dvd_add_left ?_).mp h3
    rw [Int.mul_left_comm]
    exact Int.dvd_mul_right _ _
  have h5 : a % 2305843009213693951 = b % 2305843009213693951 := Int.emod_eq_emod_iff_emod_sub_eq_zero.mpr (Int.emod_eq_zero_of_dvd h4)
  rw [Int.emod_eq_of_lt ha.1 ha.2, Int.emod_eq_of_lt hb.1 hb.2] at h5
  exact h5
theorem sum_rng (n : Int) (b : Int) : 0 ≤ (n * 972663749 + b + 1) % 2305843009213693951 ∧ (n * 972663749 + b + 1) % 2305843009213693951 < 2305843009213693951 :=
  ⟨Int.emod_nonneg _ (by decide), Int.emod_lt_of_pos _ (by decide)⟩
theorem sum_inj : ∀ (l : List Int) (a b : Int), 0 ≤ a ∧ a < 2305843009213693951 → 0 ≤ b ∧ b < 2305843009213693951 → sumG a l = sumG b l → a = b
  | [], a, b, _, _, h => h
  | c :: l, a, b, ha, hb, h => by
    have := sum_inj l _ _ (sum_rng a c) (sum_rng b c) h
    exact sum_step a b c 0 this ha hb
theorem sumG_app (n : Int) (l k : List Int) : sumG n (l ++ k) = sumG (sumG n l) k := List.foldl_append
theorem sum_bnd : ∀ (l : List Int) (n : Int), 0 ≤ n ∧ n < 2305843009213693951 → 0 ≤ sumG n l ∧ sumG n l < 2305843009213693951
  | [], n, h => h
  | c :: l, n, _ => sum_bnd l _ (sum_rng n c)
/-- rows that differ in one byte have other sums -/
theorem sum_differs (l r : List Int) (b c : Int) (hb : Byte b) (hc : Byte c) (h : sumG 1 (l ++ b :: r) = sumG 1 (l ++ c :: r)) : b = c := by
  rw [sumG_app, sumG_app] at h
  have h1 := sum_inj r _ _ (sum_rng (sumG 1 l) b) (sum_rng (sumG 1 l) c) h
  have h2 : ((sumG 1 l * 972663749 + b + 1) - (sumG 1 l * 972663749 + c + 1)) % 2305843009213693951 = 0 := Int.emod_eq_emod_iff_emod_sub_eq_zero.mp h1
  have h3 : (sumG 1 l * 972663749 + b + 1) - (sumG 1 l * 972663749 + c + 1) = b - c := by omega
  rw [h3] at h2
  unfold Byte at hb hc
  by_cases q : 0 ≤ b - c
  · rw [Int.emod_eq_of_lt q (by omega)] at h2
    omega
  · have h4 : (c - b) % 2305843009213693951 = 0 := by
      have := Int.emod_eq_zero_of_dvd ((Int.dvd_neg).mpr (Int.dvd_of_emod_eq_zero h2))
      rwa [Int.neg_sub] at this
    rw [Int.emod_eq_of_lt (by omega) (by omega)] at h4
    omega
end K65
set_option Elab.async false
set_option linter.all false
set_option maxRecDepth 100000
set_option maxHeartbeats 0
namespace K65
open PySem PySem.Spec PyProof.Rows L2 MP

def b4 (n : Int) : List Int := [n / 16777216 % 256, n / 65536 % 256, n / 256 % 256, n % 256]
def b2 (n : Int) : List Int := [n / 256 % 256, n % 256]
noncomputable def f_bytes_of : Fn := runFn 3 2 b_bytes_of
theorem bytes_of_ok (n : Int) (h : Th) : f_bytes_of [.int n, .int 4] h = .ok (.tup ((b4 n).map .int)) h := by
  unfold f_bytes_of
  rw [run2]
  have e : rangeD3 [.int 3, .int (-1), .int (-1)] h = .ok (.val [.int 3, .int 2, .int 1, .int 0]) h := rfl
  simp [b_bytes_of, List.replicate, e, lc_name, bitAnd_m8, b4]
noncomputable def f_law_split : Fn := runFn 3 2 b__law_split
theorem law_split4 (n : Int) (h : Th) : f_law_split [.int n, .int 4] h = .ok (.tup ((b4 n).map .int)) h := by
  unfold f_law_split
  rw [run2]
  have e : rangeD1 [.int 4] h = .ok (.val [.int 0, .int 1, .int 2, .int 3]) h := rfl
  simp [b__law_split, List.replicate, e, lc_name, bitAnd_m8, b4]
theorem law_split2 (n : Int) (h : Th) : f_law_split [.int n, .int 2] h = .ok (.tup ((b2 n).map .int)) h := by
  unfold f_law_split
  rw [run2]
  have e : rangeD1 [.int 2] h = .ok (.val [.int 0, .int 1]) h := rfl
  simp [b__law_split, List.replicate, e, lc_name, bitAnd_m8, b2]
mutual
def code : MP.D → List Int
  | .non => [100]
  | .bl true => [102]
  | .bl false => [101]
  | .int i => 0 :: b4 (i + 2147483648)
  | .str z => (1 + (z.length : Int)) :: z.cps.toList.map fun c : Nat => (c : Int)
  | .tup l => 103 :: (l.length : Int) / 256 :: (l.length : Int) % 256 :: codes l
  | _ => []
def codes : List MP.D → List Int
  | [] => []
  | d :: ds => code d ++ codes ds
end
def okv : Nat → MP.D → Prop
  | 0, _ => False
  | _ + 1, .non => True
  | _ + 1, .bl _ => True
  | _ + 1, .int _ => True
  | _ + 1, .str z => z.length ≤ 1000
  | n + 1, .tup l => l.length ≤ 1000 ∧ (∀ x ∈ l, okv n x) ∧ (codes l).length ≤ 1000000
  | _ + 1, _ => False
theorem ords_lc (l0 : List MP.D) (cs : List Nat) (i : Nat) (rho : Ro) (h : Th) (hr : i < rho.length) : lcGo (.val l0) (nameG i) yesT (callE ordD (consA (varE i) nilA)) rho (cs.map chr) h = .ok ((cs.map fun c : Nat => (c : Int)).map .int) h := by
  rw [lc_map (f := fun d => match d with
    | .str z => .int (z.cps.getD 0 0 : Nat)
    | _ => .non)]
  · rw [List.map_map, List.map_map]
    congr 1
  · intro d hd
    obtain ⟨b, _, rfl⟩ := List.mem_map.mp hd
    have : (rho.set i (some (chr b)))[i]? = some (some (chr b)) := by rw [List.getElem?_set_self hr]
    simp only [ap_callE, ap_consA, ap_var, this, oo_some, ok_bind, ap_nilA]
    rw [ord_chr]
    simp
noncomputable def f_code_of : Nat → Fn
  | 0 => fun _ _ => .bad
  | n + 1 => cl (runFn 4 1 (b_code_of f_bytes_of (f_code_of n)))
noncomputable def f_law_code : Nat → Fn
  | 0 => fun _ _ => .bad
  | n + 1 => runFn 4 1 (b__law_code f_law_split (f_law_code n))
theorem code_loop (n : Nat) (h0 : Th) (v : MP.D) (l0 : List MP.D) (ih : ∀ d h, okv n d → f_code_of n [d] h = .ok (.tup ((code d).map .int)) h) : ∀ (l : List MP.D) (acc : List Int) (x : Option MP.D), (∀ d ∈ l, okv n d) → acc.length + (codes l).length ≤ 16000000 →
    ∃ x', forGo (.val l0) (nameG 2) (exprS (methL extD (varE 1) (consA (callE listOfD (consA (callE (f_code_of n) (consA (varE 2) nilA)) nilA)) nilA))) l [some v, some (.ref h0.length), x, none] (h0 ++ [.lst (acc.map .int)]) =
      .nx [some v, some (.ref h0.length), x', none] (h0 ++ [.lst ((acc ++ codes l).map .int)])
  | [], acc, x, _, _ => ⟨x, by simp [codes]⟩
  | d :: ds, acc, x, ho, hl => by
    have e1 := ih d (h0 ++ [.lst (acc.map .int)]) (ho d List.mem_cons_self)
    have hc : codes (d :: ds) = code d ++ codes ds := by simp only [codes]
    rw [hc] at hl ⊢
    rw [List.length_append] at hl
    obtain ⟨x', e2⟩ := code_loop n h0 v l0 ih ds (acc ++ code d) (some d) (fun y hy => ho y (List.mem_cons_of_mem _ hy)) (by rw [List.length_append]; omega)
    refine ⟨x', ?_⟩
    have eth := thListD_ref (h0 ++ [.lst (acc.map .int)]) (acc.map MP.D.int) (n := h0.length) (by simp)
    have ee := extD_ref (h0 ++ [.lst (acc.map .int)]) (acc.map MP.D.int) ((code d).map .int) (n := h0.length) (by simp) (by simp; omega)
    have es : (h0 ++ [O.lst (acc.map .int)]).set h0.length (.lst (acc.map MP.D.int ++ (code d).map .int)) = h0 ++ [.lst ((acc ++ code d).map .int)] := by simp
    rw [es] at ee
    rw [for_name]
    simp [-List.map_append, e1, eth, ee]
    rw [e2, List.append_assoc]
theorem code_of_ok : ∀ (n : Nat) (d : MP.D) (h : Th), okv n d → f_code_of n [d] h = .ok (.tup ((code d).map .int)) h
  | 0, d, h, o => o.elim
  | n + 1, .non, h, o => by
    refine cl_same ?_ low_tints
    rw [run1]
    simp [b_code_of, List.replicate, isB, code]
  | n + 1, .bl b, h, o => by
    refine cl_same ?_ low_tints
    rw [run1]
    cases b <;> simp [b_code_of, List.replicate, isB, code]
  | n + 1, .int i, h, o => by
    refine cl_same ?_ low_tints
    rw [run1]
    have hl : (b4 (i + 2147483648)).length = 4 := rfl
    simp [b_code_of, List.replicate, isB, isiB, code, bytes_of_ok, hl, Int.sub_eq_add_neg]
  | n + 1, .str z, h, o => by
    have hz : z.length ≤ 1000 := o
    refine cl_same ?_ low_tints
    rw [run1]
    have e1 := lenD_str h z (by omega)
    have e2 := srcD_str h z (by omega)
    have e3 := ords_lc (signsD z) z.cps.toList 3 [some (.str z), none, none, none] h (by simp)
    have hl : z.cps.size ≤ 1000 := hz
    have e4 : signsD z = z.cps.toList.map chr := rfl
    rw [← e4] at e3
    simp [b_code_of, List.replicate, isB, isiB, code, e1, e2, e3]
    rw [if_pos (by omega)]
    simp
  | n + 1, .tup l, h, o => by
    obtain ⟨o1, o2, o3⟩ := o
    refine cl_low (t := [.lst ((103 :: (l.length : Int) / 256 :: (l.length : Int) % 256 :: codes l).map .int)]) ?_ low_tints
    rw [run1]
    obtain ⟨x', e⟩ := code_loop n h (.tup l) l (fun d h o => code_of_ok n d h o) l [103, (l.length : Int) / 256, (l.length : Int) % 256] none o2 (by simp; omega)
    have et := tupleD_ref (h ++ [O.lst ((103 :: (l.length : Int) / 256 :: (l.length : Int) % 256 :: codes l).map .int)]) ((103 :: (l.length : Int) / 256 :: (l.length : Int) % 256 :: codes l).map MP.D.int) (n := h.length) (by simp)
    simp at e et
    simp [b_code_of, List.replicate, isB, isiB, code, e, et]
theorem law_code_loop (n : Nat) (h : Th) (v : MP.D) (l0 : List MP.D) (ih : ∀ d h, okv n d → f_law_code n [d] h = .ok (.tup ((code d).map .int)) h) : ∀ (l : List MP.D) (acc : List Int) (x : Option MP.D), (∀ d ∈ l, okv n d) → acc.length + (codes l).length ≤ 16000000 →
    ∃ x', forGo (.val l0) (nameG 2) (asgS (nameG 1) (binE addD (varE 1) (callE (f_law_code n) (consA (varE 2) nilA)))) l [some v, some (.tup (acc.map .int)), x, none] h =
      .nx [some v, some (.tup ((acc ++ codes l).map .int)), x', none] h
  | [], acc, x, _, _ => ⟨x, by simp [codes]⟩
  | d :: ds, acc, x, ho, hl => by
    have e1 := ih d h (ho d List.mem_cons_self)
    have hc : codes (d :: ds) = code d ++ codes ds := by simp only [codes]
    rw [hc] at hl ⊢
    rw [List.length_append] at hl
    obtain ⟨x', e2⟩ := law_code_loop n h v l0 ih ds (acc ++ code d) (some d) (fun y hy => ho y (List.mem_cons_of_mem _ hy)) (by rw [List.length_append]; omega)
    refine ⟨x', ?_⟩
    rw [for_name]
    have hle : acc.length + (code d).length ≤ 16777216 := by omega
    rw [List.map_append] at e2
    simp [-List.map_append, e1, hle]
    rw [e2, List.append_assoc]
theorem law_code_ok : ∀ (n : Nat) (d : MP.D) (h : Th), okv n d → f_law_code n [d] h = .ok (.tup ((code d).map .int)) h
  | 0, d, h, o => o.elim
  | n + 1, .non, h, o => by
    unfold f_law_code
    rw [run1]
    simp [b__law_code, List.replicate, isB, code]
  | n + 1, .bl b, h, o => by
    unfold f_law_code
    rw [run1]
    cases b <;> simp [b__law_code, List.replicate, isB, isiB, code]
  | n + 1, .int i, h, o => by
    unfold f_law_code
    rw [run1]
    have hl : (b4 (i + 2147483648)).length = 4 := rfl
    simp [b__law_code, List.replicate, isB, isiB, code, law_split4, hl]
  | n + 1, .str z, h, o => by
    have hz : z.length ≤ 1000 := o
    unfold f_law_code
    rw [run1]
    have e1 := lenD_str h z (by omega)
    have e2 := srcD_str h z (by omega)
    have e3 := ords_lc (signsD z) z.cps.toList 3 [some (.str z), none, none, none] h (by simp)
    have hl : z.cps.size ≤ 1000 := hz
    have e4 : signsD z = z.cps.toList.map chr := rfl
    rw [← e4] at e3
    simp [b__law_code, List.replicate, isB, isiB, code, e1, e2, e3]
    rw [if_pos (by omega)]
    simp
  | n + 1, .tup l, h, o => by
    obtain ⟨o1, o2, o3⟩ := o
    unfold f_law_code
    rw [run1]
    obtain ⟨x', e⟩ := law_code_loop n h (.tup l) l (fun d h o => law_code_ok n d h o) l (103 :: b2 (l.length : Int)) none o2 (by simp [b2]; omega)
    have hb : b2 (l.length : Int) = [(l.length : Int) / 256, (l.length : Int) % 256] := by
      unfold b2
      rw [Int.emod_eq_of_lt (by omega) (by omega)]
    have hl : (b2 (l.length : Int)).length = 2 := rfl
    rw [hb] at e hl
    simp at e
    simp [b__law_code, List.replicate, isB, isiB, code, law_split2, hb, e]
noncomputable def f_law_codes : Fn := runFn 3 1 (b__law_codes (f_law_code 6))
theorem law_codes_loop (h : Th) (v : MP.D) (l0 : List MP.D) : ∀ (l : List MP.D) (acc : List Int) (x : Option MP.D), (∀ d ∈ l, okv 6 d) → acc.length + (codes l).length ≤ 16000000 →
    ∃ x', forGo (.val l0) (nameG 2) (asgS (nameG 1) (binE addD (varE 1) (callE (f_law_code 6) (consA (varE 2) nilA)))) l [some v, some (.tup (acc.map .int)), x] h =
      .nx [some v, some (.tup ((acc ++ codes l).map .int)), x'] h
  | [], acc, x, _, _ => ⟨x, by simp [codes]⟩
  | d :: ds, acc, x, ho, hl => by
    have e1 := law_code_ok 6 d h (ho d List.mem_cons_self)
    have hc : codes (d :: ds) = code d ++ codes ds := by simp only [codes]
    rw [hc] at hl ⊢
    rw [List.length_append] at hl
    obtain ⟨x', e2⟩ := law_codes_loop h v l0 ds (acc ++ code d) (some d) (fun y hy => ho y (List.mem_cons_of_mem _ hy)) (by rw [List.length_append]; omega)
    refine ⟨x', ?_⟩
    rw [for_name]
    have hle : acc.length + (code d).length ≤ 16777216 := by omega
    rw [List.map_append] at e2
    simp [-List.map_append, e1, hle]
    rw [e2, List.append_assoc]
theorem law_codes_ok (l : List MP.D) (h : Th) (ho : ∀ d ∈ l, okv 6 d) (hl : (codes l).length ≤ 16000000) : f_law_codes [.tup l] h = .ok (.tup ((codes l).map .int)) h := by
  unfold f_law_codes
  rw [run1]
  obtain ⟨x', e⟩ := law_codes_loop h (.tup l) l l [] none ho (by simpa using hl)
  simp at e
  simp [b__law_codes, List.replicate, e]
end K65
set_option Elab.async false
set_option linter.all false
set_option maxRecDepth 100000
set_option maxHeartbeats 0
namespace K65
open PySem PySem.Spec PyProof.Rows L2 MP

/-! ### the same -/
def pl : Nat → MP.D → Prop
  | 0, _ => False
  | _ + 1, .non => True
  | _ + 1, .int _ => True
  | _ + 1, .str _ => True
  | n + 1, .tup l => l.length ≤ 16000000 ∧ ∀ x ∈ l, pl n x
  | _ + 1, _ => False
noncomputable def f_same : Nat → Fn
  | 0 => fun _ _ => .bad
  | n + 1 => runFn 3 2 (b__law_is_same (f_same n))
theorem same_ok : ∀ (n : Nat) (d : MP.D) (h : Th), pl n d → f_same n [d, d] h = .ok (.bl true) h
  | 0, d, h, o => o.elim
  | n + 1, .non, h, o => by
    unfold f_same
    rw [run2]
    simp [b__law_is_same, isiB, isB]
  | n + 1, .int i, h, o => by
    unfold f_same
    rw [run2]
    simp [b__law_is_same, isiB, isB]
  | n + 1, .str z, h, o => by
    unfold f_same
    rw [run2]
    simp [b__law_is_same, isiB, isB]
  | n + 1, .tup l, h, o => by
    obtain ⟨o1, o2⟩ := o
    unfold f_same
    rw [run2]
    have e := lc_map (l0 := rangeL 0 l.length) (i := 2) (m := callE (f_same n) (consA (binE MP.getD (varE 0) (varE 2)) (consA (binE MP.getD (varE 1) (varE 2)) nilA))) (rho := [some (.tup l), some (.tup l), none]) (h := h) (f := fun _ => .bl true) (l := rangeL 0 l.length) fun d hd => by
      obtain ⟨k, hk, rfl⟩ := List.mem_map.mp hd
      have hk : k < l.length := List.mem_range.mp hk
      have ha : atI l (k : Int) = some l[k] := by
        rw [atI_at (by omega)]
        simp [hk]
      have hs := same_ok n l[k] h (o2 _ (List.getElem_mem hk))
      simp [ha, hs]
    have hr : rangeD1 [.int (l.length : Int)] h = .ok (.val (rangeL 0 l.length)) h := by
      rw [range1_int _ _ (by omega)]
      simp
    have hb : bools (List.map (fun _ => MP.D.bl true) (rangeL 0 l.length)) = some (List.map (fun _ => true) (rangeL 0 l.length)) := bools_map (rangeL 0 l.length) fun _ => true
    have hn : neD (.int (l.length : Int)) (.int (l.length : Int)) h = .ok (.bl false) h := by simp
    simp [b__law_is_same, isiB, List.replicate, hr, e, hb]

/-! ### the bag -/
abbrev Bag := Int × Int × Int
def bagO (b : Bag) : O := .lst [.int b.1, .int b.2.1, .int b.2.2]
def put (n : Nat) (b : Bag) (h : Th) : Th := h.set n (bagO b)
section
variable {n : Nat} {h : Th} (hn : n < h.length)
include hn
theorem put_at (b : Bag) : (put n b h)[n]? = some (bagO b) := by
  unfold put
  rw [List.getElem?_set_self hn]
theorem get0 (b : Bag) : MP.getD (.ref n) (.int 0) (put n b h) = .ok (.int b.1) (put n b h) := by
  rw [getD_ref _ _ _ (put_at hn b)]; rfl
theorem get1 (b : Bag) : MP.getD (.ref n) (.int 1) (put n b h) = .ok (.int b.2.1) (put n b h) := by
  rw [getD_ref _ _ _ (put_at hn b)]; rfl
theorem get2 (b : Bag) : MP.getD (.ref n) (.int 2) (put n b h) = .ok (.int b.2.2) (put n b h) := by
  rw [getD_ref _ _ _ (put_at hn b)]; rfl
theorem set0 (b : Bag) (v : Int) : setD (.ref n) (.int 0) (.int v) (put n b h) = .ok .non (put n (v, b.2.1, b.2.2) h) := by
  rw [setD_ref _ _ _ _ (put_at hn b) (q := 0) rfl]
  unfold put
  rw [List.set_set]
  rfl
theorem set1 (b : Bag) (v : Int) : setD (.ref n) (.int 1) (.int v) (put n b h) = .ok .non (put n (b.1, v, b.2.2) h) := by
  rw [setD_ref _ _ _ _ (put_at hn b) (q := 1) rfl]
  unfold put
  rw [List.set_set]
  rfl
end
noncomputable def f_draw : Fn := runFn 4 2 b__law_draw
theorem draw_ok {n : Nat} {h : Th} (hn : n < h.length) (b : Bag) (m : Int) (hm : 0 < m ∧ m < 1073741824) : ∃ d b', f_draw [.ref n, .int m] (put n b h) = .ok (.int d) (put n b' h) ∧ 0 ≤ d ∧ d < m := by
  obtain ⟨r, s, k⟩ := b
  unfold f_draw
  rw [run2]
  by_cases hr : r = 0
  · obtain ⟨seed, hs⟩ : ∃ seed, seed = (s * 48271 + k * 69621 + 11) % 2147483647 := ⟨_, rfl⟩
    have h0 : 0 ≤ seed := by rw [hs]; exact Int.emod_nonneg _ (by decide)
    have h1 : seed < 2147483647 := by rw [hs]; exact Int.emod_lt_of_pos _ (by decide)
    have hmul : ∀ h', mulD (.int seed) (.int seed) h' = .ok (.int (seed * seed)) h' := fun h' => mulD_l _ _ _ ⟨by omega, by omega⟩
    refine ⟨(seed * 2147483629 + (seed * seed + k * 16807) % 2147483629) % m, ((seed * 2147483629 + (seed * seed + k * 16807) % 2147483629) / m, seed, k), ?_, Int.emod_nonneg _ (by omega), Int.emod_lt_of_pos _ hm.1⟩
    simp [b__law_draw, List.replicate, get0 hn, get1 hn, get2 hn, set0 hn, set1 hn, hr, ← hs, hmul, hm.1, hm.2]
  · refine ⟨r % m, (r / m, s, k), ?_, Int.emod_nonneg _ (by omega), Int.emod_lt_of_pos _ hm.1⟩
    simp [b__law_draw, List.replicate, get0 hn, get1 hn, get2 hn, set0 hn, set1 hn, hr, hm.1, hm.2]
end K65
set_option Elab.async false
set_option linter.all false
set_option maxRecDepth 100000
set_option maxHeartbeats 0
namespace K65
open PySem PySem.Spec PyProof.Rows L2 MP

structure Good (k : Bool) (d : MP.D) : Prop where
  o : okv 1 d
  p : pl 1 d
  l : (code d).length ≤ 13
  b : ∀ b ∈ code d, Byte b
  rt : ∀ t, tk k (code d ++ t) = some (d, (code d).length)
theorem join_b4 (n : Int) (h0 : 0 ≤ n) (h1 : n < 4294967296) : join 0 (b4 n) = n := by
  simp only [join, b4, List.foldl]
  omega
theorem good_int (i : Int) (h0 : -2147483648 ≤ i) (h1 : i ≤ 2147483647) : Good false (.int i) := by
  refine ⟨trivial, trivial, by simp [code, b4], fun b hb => ?_, fun t => ?_⟩
  · simp only [code, List.mem_cons, b4] at hb
    unfold Byte
    rcases hb with rfl | rfl | rfl | rfl | rfl | hb
    · omega
    · omega
    · omega
    · omega
    · omega
    · exact absurd hb (by simp)
  · have e : (code (.int i) ++ t) = 0 :: (b4 (i + 2147483648) ++ t) := by simp [code]
    rw [e]
    have et : (b4 (i + 2147483648) ++ t).take 4 = b4 (i + 2147483648) := by simp [b4]
    simp only [tk]
    rw [if_neg (by simp), if_neg (by simp [b4]), et, join_b4 _ (by omega) (by omega)]
    simp [code, b4]
theorem good_text (z : Str) (hl : z.length ≤ 12) (hc : ∀ c ∈ z.cps.toList, sg (c : Int) = some c) : Good true (.str z) := by
  have hz : z.cps.size ≤ 12 := hl
  have hz2 : z.length = z.cps.size := rfl
  refine ⟨by show z.length ≤ 1000; omega, trivial, by simp [code]; omega, fun b hb => ?_, fun t => ?_⟩
  · simp only [code, List.mem_cons] at hb
    unfold Byte
    rcases hb with rfl | hb
    · omega
    · obtain ⟨c, hc', rfl⟩ := List.mem_map.mp hb
      have := hc c hc'
      unfold sg at this
      split at this
      · omega
      · cases this
  · have e : (code (.str z) ++ t) = (1 + (z.length : Int)) :: (z.cps.toList.map (fun c : Nat => (c : Int)) ++ t) := by simp [code]
    rw [e]
    have en : (1 + (z.length : Int)).toNat - 1 = (z.cps.toList.map (fun c : Nat => (c : Int))).length := by simp; omega
    have hm : ∀ cs : List Nat, (∀ c ∈ cs, sg (c : Int) = some c) → (cs.map (fun c : Nat => (c : Int))).mapM sg = some cs := by
      intro cs
      induction cs with
      | nil => intro _; rfl
      | cons c cs ih =>
        intro q
        rw [List.map_cons, List.mapM_cons, q c List.mem_cons_self, ih fun x hx => q x (List.mem_cons_of_mem _ hx)]
        rfl
    simp only [tk]
    rw [if_pos trivial, if_neg (by simp only [List.length_cons, List.length_append, List.length_map, Array.length_toList]; omega), en, List.take_left, hm _ hc]
    simp [code]
    omega
noncomputable def f_item : Fn := runFn 2 2 (b__law_item f_draw)
theorem item_ok {n : Nat} {h : Th} (hn : n < h.length) (b : Bag) (k : Bool) : ∃ d b', f_item [.ref n, kn k] (put n b h) = .ok d (put n b' h) ∧ Good k d := by
  cases k with
  | false =>
    obtain ⟨q, b1, e1, q0, q1⟩ := draw_ok hn b 8 (by decide)
    obtain ⟨d, hd, ea⟩ := atI_mem (l := [MP.D.int (-2147483648), .int (-1), .int 0, .int 1, .int 2, .int 3, .int 5, .int 2147483647]) q0 (by simpa using q1)
    refine ⟨d, b1, ?_, ?_⟩
    · unfold f_item
      rw [run2]
      simp [b__law_item, kn, e1, ea]
    · simp only [List.mem_cons, List.not_mem_nil, or_false] at hd
      rcases hd with rfl | rfl | rfl | rfl | rfl | rfl | rfl | rfl <;> exact good_int _ (by decide) (by decide)
  | true =>
    obtain ⟨q, b1, e1, q0, q1⟩ := draw_ok hn b 7 (by decide)
    obtain ⟨d, hd, ea⟩ := atI_mem (l := [MP.D.str "", .str "a", .str "b", .str "ab", .str "z9", .str "0", .str "abcdefghijkl"]) q0 (by simpa using q1)
    refine ⟨d, b1, ?_, ?_⟩
    · unfold f_item
      rw [run2]
      simp [b__law_item, kn, e1, ea]
    · simp only [List.mem_cons, List.not_mem_nil, or_false] at hd
      rcases hd with rfl | rfl | rfl | rfl | rfl | rfl | rfl <;> exact good_text _ (by decide +kernel) (by decide +kernel)
theorem kn_mem {d : MP.D} (h : d ∈ [MP.D.str "number", .str "text"]) : ∃ k, d = kn k := by
  simp only [List.mem_cons, List.not_mem_nil, or_false] at h
  rcases h with rfl | rfl
  · exact ⟨false, rfl⟩
  · exact ⟨true, rfl⟩

/-! ### values -/
def LB : Nat → Nat
  | 0 => 13
  | 1 => 3903
  | n + 2 => 3 + 4 * LB (n + 1)
structure Vok (n : Nat) (d : MP.D) : Prop where
  o : okv (n + 2) d
  l : (code d).length ≤ LB n
theorem okv_mono : ∀ {n : Nat} {d : MP.D}, okv n d → okv (n + 1) d
  | 0, d, o => o.elim
  | n + 1, .non, o => trivial
  | n + 1, .bl b, o => trivial
  | n + 1, .int i, o => trivial
  | n + 1, .str z, o => o
  | n + 1, .tup l, o => ⟨o.1, fun x hx => okv_mono (o.2.1 x hx), o.2.2⟩
  | n + 1, .lst l, o => o.elim
  | n + 1, .frz l, o => o.elim
  | n + 1, .ref l, o => o.elim
theorem okv_up {n m : Nat} {d : MP.D} (o : okv n d) (h : n ≤ m) : okv m d := by
  induction h with
  | refl => exact o
  | step _ ih => exact okv_mono ih
theorem LB_13 : ∀ n, 13 ≤ LB n
  | 0 => Nat.le_refl _
  | 1 => by decide
  | n + 2 => by have := LB_13 (n + 1); show 13 ≤ 3 + 4 * LB (n + 1); omega
theorem codes_len (B : Nat) : ∀ l : List MP.D, (∀ d ∈ l, (code d).length ≤ B) → (codes l).length ≤ l.length * B
  | [], _ => by simp [codes]
  | d :: ds, q => by
    have h1 := q d List.mem_cons_self
    have h2 := codes_len B ds fun x hx => q x (List.mem_cons_of_mem _ hx)
    simp only [codes, List.length_append, List.length_cons]
    rw [Nat.succ_mul]
    omega
noncomputable def f_value : Nat → Fn
  | 0 => fun _ _ => .bad
  | n + 1 => runFn 4 2 (b__law_value f_draw f_item (f_value n))
theorem value_ok {r : Nat} {h : Th} (hr : r < h.length) : ∀ (n depth : Nat), depth < n → depth ≤ 3 → ∀ b : Bag, ∃ v b', f_value n [.ref r, .int depth] (put r b h) = .ok v (put r b' h) ∧ Vok depth v
  | 0, _, hd, _, _ => absurd hd (Nat.not_lt_zero _)
  | n + 1, depth, hd, h3, b => by
    obtain ⟨p, b1, e1, p0, p1⟩ := draw_ok hr b 8 (by decide)
    by_cases hp : p = 0
    · obtain ⟨q, b2, e2, q0, q1⟩ := draw_ok hr b1 7 (by decide)
      obtain ⟨d, hdm, ea⟩ := atI_mem (l := [MP.D.non, .bl true, .bl false, .str "<=", .str "greatest", .str "A b", .tup []]) q0 (by simpa using q1)
      refine ⟨d, b2, ?_, ?_⟩
      · unfold f_value
        rw [run2]
        simp [b__law_value, List.replicate, e1, hp, e2, ea]
      · simp only [List.mem_cons, List.not_mem_nil, or_false] at hdm
        have hL := LB_13 depth
        have key : okv 2 d ∧ (code d).length ≤ 13 := by
          rcases hdm with rfl | rfl | rfl | rfl | rfl | rfl | rfl
          · exact ⟨trivial, by decide +kernel⟩
          · exact ⟨trivial, by decide +kernel⟩
          · exact ⟨trivial, by decide +kernel⟩
          · exact ⟨by show Str.length _ ≤ 1000; decide +kernel, by decide +kernel⟩
          · exact ⟨by show Str.length _ ≤ 1000; decide +kernel, by decide +kernel⟩
          · exact ⟨by show Str.length _ ≤ 1000; decide +kernel, by decide +kernel⟩
          · exact ⟨⟨Nat.zero_le _, fun x hx => (nomatch hx), by simp [codes]⟩, by decide +kernel⟩
        exact ⟨okv_up key.1 (by omega), by omega⟩
    · by_cases hq : p < 4 ∨ depth = 0
      · obtain ⟨q, b2, e2, q0, q1⟩ := draw_ok hr b1 2 (by decide)
        obtain ⟨d, hdm, ea⟩ := atI_mem (l := [MP.D.str "number", .str "text"]) q0 (by simpa using q1)
        obtain ⟨k, rfl⟩ := kn_mem hdm
        obtain ⟨v, b3, e3, g⟩ := item_ok hr b2 k
        have hL := LB_13 depth
        refine ⟨v, b3, ?_, ⟨okv_up g.o (by omega), Nat.le_trans g.l hL⟩⟩
        unfold f_value
        rw [run2]
        by_cases h4 : p < 4
        · simp [b__law_value, List.replicate, e1, hp, h4, e2, ea, e3]
        · have hz : depth = 0 := hq.resolve_left h4
          subst hz
          simp [b__law_value, List.replicate, e1, hp, h4, e2, ea, e3]
      · have h4 : ¬ p < 4 := fun z => hq (.inl z)
        have hz : depth ≠ 0 := fun z => hq (.inr z)
        obtain ⟨d', rfl⟩ : ∃ d', depth = d' + 1 := ⟨depth - 1, by omega⟩
        obtain ⟨m, em⟩ : ∃ m : Int, m = 4 + (if d' + 1 = 1 then 1 else 0) := ⟨_, rfl⟩
        have hm : 0 < m ∧ m ≤ 5 := by rw [em]; split <;> omega
        obtain ⟨q, b2, e2, q0, q1⟩ := draw_ok hr b1 m (by omega)
        have hcnt : ∃ c : Nat, atI [MP.D.int 0, .int 1, .int 2, .int 4, .int 300] q = some (.int c) ∧ (c ≤ 4 ∨ (c ≤ 300 ∧ d' = 0)) := by
          have : q = 0 ∨ q = 1 ∨ q = 2 ∨ q = 3 ∨ q = 4 := by omega
          rcases this with rfl | rfl | rfl | rfl | rfl
          · exact ⟨0, rfl, by omega⟩
          · exact ⟨1, rfl, by omega⟩
          · exact ⟨2, rfl, by omega⟩
          · exact ⟨4, rfl, by omega⟩
          · refine ⟨300, rfl, .inr ⟨by omega, ?_⟩⟩
            by_cases z : d' + 1 = 1
            · omega
            · rw [if_neg z] at em; omega
        obtain ⟨c, ec, hc⟩ := hcnt
        have ew := lc_walk (E := fun b => put r b h) (l0 := rangeL 0 c) (i := 3) (m := callE (f_value n) (consA (varE 0) (consA (binE subD (varE 1) (constE (.int 1))) nilA)))
          (rho := [some (.ref r), some (.int ((d' : Int) + 1)), some (.int p), none]) (P := Vok d') (l := rangeL 0 c) (a := b2) fun d hdm a => by
            obtain ⟨v, b', e, g⟩ := value_ok hr n d' (by omega) (by omega) a
            refine ⟨v, b', ?_, g⟩
            simp [e]
        obtain ⟨ys, b3, e3, l3, g3⟩ := ew
        have hl3 : ys.length = c := by rw [l3]; simp [rangeL]
        have hr1 : ∀ h', rangeD1 [.int (c : Int)] h' = .ok (.val (rangeL 0 c)) h' := fun h' => by
          rw [range1_int _ _ (by omega)]
          simp
        have hcl := codes_len (LB d') ys fun d hd => (g3 d hd).l
        have hLB : (codes ys).length + 3 ≤ LB (d' + 1) := by
          rcases hc with hc | ⟨hc, rfl⟩
          · have h1 : ys.length * LB d' ≤ 4 * LB d' := Nat.mul_le_mul_right _ (by omega)
            cases d' with
            | zero => have : LB 0 = 13 := rfl; have : LB (0 + 1) = 3903 := rfl; omega
            | succ d'' => have : LB (d'' + 1 + 1) = 3 + 4 * LB (d'' + 1) := rfl; omega
          · have h1 : ys.length * LB 0 ≤ 300 * LB 0 := Nat.mul_le_mul_right _ (by omega)
            have : LB 0 = 13 := rfl
            have : LB (0 + 1) = 3903 := rfl
            omega
        have hLB3 : LB (d' + 1) ≤ 62463 := by
          have : d' = 0 ∨ d' = 1 ∨ d' = 2 := by omega
          rcases this with rfl | rfl | rfl <;> decide
        refine ⟨.tup ys, b3, ?_, ⟨⟨by omega, fun x hx => (g3 x hx).o, by omega⟩, ?_⟩⟩
        · unfold f_value
          rw [run2]
          have em' : (4 : Int) + (if (d' : Int) + 1 = 1 then 1 else 0) = m := by
            rw [em]
            congr 1
            by_cases z : d' + 1 = 1
            · rw [if_pos z, if_pos (by omega)]
            · rw [if_neg z, if_neg (by omega)]
          have hz' : ¬ (d' : Int) + 1 = 0 := by omega
          simp [b__law_value, List.replicate, e1, hp, h4, hz', em', e2, ec, hr1, e3]
        · simp only [code, List.length_cons]
          omega
end K65
set_option Elab.async false
set_option linter.all false
set_option maxRecDepth 100000
set_option maxHeartbeats 0
namespace K65
open PySem PySem.Spec PyProof.Rows L2 MP

/-! ### rows -/
def T (l : List Int) : MP.D := .tup (l.map .int)
theorem T_eq (l : List Int) : .tup (l.map .int) = T l := rfl
def Items : List Bool → List MP.D → Prop
  | [], [] => True
  | k :: ks, e :: es => Good k e ∧ Items ks es
  | _, _ => False
theorem Items.facts : ∀ {ks : List Bool} {es : List MP.D}, Items ks es → es.length = ks.length ∧ (∀ e ∈ es, okv 6 e ∧ pl 1 e) ∧ (codes es).length ≤ es.length * 13 ∧ (∀ b ∈ codes es, Byte b) ∧ ∀ t, tks ks (codes es ++ t) = some (es, t)
  | [], [], _ => ⟨rfl, fun e h => (nomatch h), by simp [codes], fun b h => by simp [codes] at h, fun t => by simp [codes, tks]⟩
  | k :: ks, e :: es, ⟨g, i⟩ => by
    obtain ⟨h1, h2, h3, h4, h5⟩ := i.facts
    refine ⟨by simp [h1], fun x hx => ?_, ?_, fun b hb => ?_, fun t => ?_⟩
    · rcases List.mem_cons.mp hx with z | z
      · rw [z]; exact ⟨okv_up g.o (by omega), g.p⟩
      · exact h2 x z
    · simp only [codes, List.length_append, List.length_cons]
      have := g.l
      rw [Nat.succ_mul]
      omega
    · simp only [codes, List.mem_append] at hb
      rcases hb with z | z
      · exact g.b b z
      · exact h4 b z
    · simp only [codes, List.append_assoc, tks, g.rt]
      rw [List.drop_left, h5]
  | [], _ :: _, h => h.elim
  | _ :: _, [], h => h.elim
theorem items_lc {r : Nat} {h : Th} (hr : r < h.length) (l0 : List MP.D) (v : MP.D) (kd : MP.D) : ∀ (ks : List Bool) (b : Bag), ∃ es b', lcGo (.val l0) (nameG 9) yesT (callE f_item (consA (varE 0) (consA (varE 9) nilA))) [some (.ref r), some v, some kd, none, none, none, none, none, none, none] (ks.map kn) (put r b h) = .ok es (put r b' h) ∧ Items ks es
  | [], b => ⟨[], b, by simp, trivial⟩
  | k :: ks, b => by
    obtain ⟨d, b1, e1, g⟩ := item_ok hr b k
    obtain ⟨es, b2, e2, i⟩ := items_lc hr l0 v kd ks b1
    refine ⟨d :: es, b2, ?_, g, i⟩
    rw [List.map_cons, lc_name]
    simp [e1, e2]
theorem kinds_map : ∀ {ys : List MP.D}, (∀ y ∈ ys, ∃ k, y = kn k) → ∃ ks : List Bool, ys = ks.map kn
  | [], _ => ⟨[], rfl⟩
  | y :: ys, q => by
    obtain ⟨k, rfl⟩ := q y List.mem_cons_self
    obtain ⟨ks, rfl⟩ := kinds_map fun z hz => q z (List.mem_cons_of_mem _ hz)
    exact ⟨k :: ks, rfl⟩
/-- new kinds -/
theorem kinds_lc {r : Nat} {h : Th} (hr : r < h.length) (c : Nat) (rho : Ro) (hl : rho.length = 10) (h0 : rho[0]? = some (some (.ref r))) (b : Bag) :
    ∃ (ks : List Bool) (b' : Bag), lcGo (.val (rangeL 0 c)) (nameG 8) yesT (binE MP.getD (lstE (consA (constE (.str "number")) (consA (constE (.str "text")) nilA))) (callE f_draw (consA (varE 0) (consA (constE (.int 2)) nilA)))) rho (rangeL 0 c) (put r b h) = .ok (ks.map kn) (put r b' h) ∧ ks.length = c := by
  obtain ⟨ys, b', e, l, g⟩ := lc_walk (E := fun b => put r b h) (l0 := rangeL 0 c) (i := 8) (m := binE MP.getD (lstE (consA (constE (.str "number")) (consA (constE (.str "text")) nilA))) (callE f_draw (consA (varE 0) (consA (constE (.int 2)) nilA))))
    (rho := rho) (P := fun y => ∃ k, y = kn k) (l := rangeL 0 c) (a := b) fun d hd a => by
      obtain ⟨q, b1, e1, q0, q1⟩ := draw_ok hr a 2 (by decide)
      obtain ⟨d', hdm, ea⟩ := atI_mem (l := [MP.D.str "number", .str "text"]) q0 (by simpa using q1)
      refine ⟨d', b1, ?_, kn_mem hdm⟩
      have hs : (rho.set 8 (some d))[0]? = some (some (.ref r)) := by rw [List.getElem?_set_ne (by decide)]; exact h0
      simp [hs, e1, ea]
  obtain ⟨ks, rfl⟩ := kinds_map g
  exact ⟨ks, b', e, by rw [List.length_map] at l; rw [l]; simp [rangeL]⟩
theorem pl_told (ks : List Bool) (l : List Int) (hk : ks.length ≤ 1000) : pl 3 (told (rd ks l)) := by
  have key : ∀ (ks : List Bool) (l : List Int) (es : List MP.D) (t : List Int), tks ks l = some (es, t) → ∀ e ∈ es, pl 2 e := by
    intro ks
    induction ks with
    | nil => intro l es t q; cases q; intro e he; cases he
    | cons k ks ih =>
      intro l es t q
      unfold tks at q
      cases q1 : tk k l with
      | none => rw [q1] at q; cases q
      | some de =>
        obtain ⟨d, e⟩ := de
        rw [q1] at q
        dsimp only at q
        cases q2 : tks ks (l.drop e) with
        | none => rw [q2] at q; cases q
        | some er =>
          obtain ⟨es', r'⟩ := er
          rw [q2] at q
          cases q
          intro x hx
          rcases List.mem_cons.mp hx with z | z
          · rw [z]
            unfold tk at q1
            split at q1
            · cases q1
            · split at q1
              · split at q1
                · cases q1
                · split at q1
                  · cases q1; trivial
                  · cases q1
              · split at q1
                · cases q1
                · cases q1; trivial
          · exact ih _ _ _ q2 x z
  unfold rd
  split
  · rename_i es q
    obtain ⟨_, hl⟩ := tks_low q
    exact ⟨by omega, key _ _ _ _ q⟩
  · trivial
theorem pl_T (l : List Int) (hl : l.length ≤ 16000000) : pl 2 (T l) := by
  refine ⟨by simpa using hl, fun x hx => ?_⟩
  obtain ⟨i, _, rfl⟩ := List.mem_map.mp hx
  trivial
theorem pl_up : ∀ {n : Nat} {d : MP.D}, pl n d → pl (n + 1) d
  | 0, d, o => o.elim
  | n + 1, .non, o => trivial
  | n + 1, .int i, o => trivial
  | n + 1, .str z, o => trivial
  | n + 1, .tup l, o => ⟨o.1, fun x hx => pl_up (o.2 x hx)⟩
  | n + 1, .bl b, o => o.elim
  | n + 1, .lst l, o => o.elim
  | n + 1, .frz l, o => o.elim
  | n + 1, .ref l, o => o.elim
end K65
set_option Elab.async false
set_option linter.all false
set_option maxRecDepth 100000
set_option maxHeartbeats 0
namespace K65
open PySem PySem.Spec PyProof.Rows L2 MP

noncomputable def cA8 : DS := (ifS (boolT (binE neD (varE 4) (tupE nilA))) (seqS (asgS (nameG 6) (callE f_draw (consA (varE 0) (consA (callE lenD (consA (varE 4) nilA)) nilA)))) (seqS (asgS (nameG 7) (binE addD (binE addD (sliceE (varE 4) noP (someP (varE 6))) (tupE (consA (binE getD (lstE (consA (constE (.int 0)) (consA (constE (.int 13)) (consA (constE (.int 14)) (consA (constE (.int 96)) (consA (constE (.int 123)) (consA (binE modD (binE addD (binE getD (varE 4) (varE 6)) (constE (.int 1))) (constE (.int 256))) nilA))))))) (callE f_draw (consA (varE 0) (consA (constE (.int 6)) nilA)))) nilA))) (sliceE (varE 4) (someP (binE addD (varE 6) (constE (.int 1)))) noP))) (seqS (asgS (nameG 5) (binE addD (varE 5) (lstE (consA (varE 7) (consA (varE 7) nilA))))) (ifS (andT (boolT (binE neD (varE 7) (varE 4))) (boolT (binE eqD (callE f_sum_bytes (consA (varE 7) nilA)) (callE f_sum_bytes (consA (varE 4) nilA))))) (retS (constE (.bl false))) skipS)))) skipS)
noncomputable def ctail : DS := (seqS (asgS (nameG 7) (binE getD (varE 5) (callE f_draw (consA (varE 0) (consA (callE lenD (consA (varE 5) nilA)) nilA))))) (seqS (ifS (notT (truT (callE (f_same 4) (consA (callE f_law_told (consA (varE 2) (consA (varE 7) nilA))) (consA (callE f_law_read (consA (varE 2) (consA (varE 7) nilA))) nilA))))) (retS (constE (.bl false))) skipS) (seqS (asgS (nameG 2) (callE tupleD (consA (lcE (rangeE rangeD1 (consA (callE lenD (consA (varE 2) nilA)) nilA)) (nameG 8) yesT (binE getD (lstE (consA (constE (.str "number")) (consA (constE (.str "text")) nilA))) (callE f_draw (consA (varE 0) (consA (constE (.int 2)) nilA)))) [8]) nilA))) (retS (callE (f_same 4) (consA (callE f_law_told (consA (varE 2) (consA (varE 4) nilA))) (consA (callE f_law_read (consA (varE 2) (consA (varE 4) nilA))) nilA)))))))
noncomputable def chead : DS := (seqS (asgS (nameG 1) (callE (f_value 4) (consA (varE 0) (consA (constE (.int 3)) nilA)))) (seqS (ifS (notT (truT (callE (f_same 4) (consA (callE (f_code_of 6) (consA (varE 1) nilA)) (consA (callE (f_law_code 6) (consA (varE 1) nilA)) nilA))))) (retS (constE (.bl false))) skipS) (seqS (asgS (nameG 2) (callE tupleD (consA (lcE (rangeE rangeD1 (consA (callE f_draw (consA (varE 0) (consA (constE (.int 5)) nilA))) nilA)) (nameG 8) yesT (binE getD (lstE (consA (constE (.str "number")) (consA (constE (.str "text")) nilA))) (callE f_draw (consA (varE 0) (consA (constE (.int 2)) nilA)))) [8]) nilA))) (seqS (asgS (nameG 3) (callE tupleD (consA (lcE (srcE (varE 2)) (nameG 9) yesT (callE f_item (consA (varE 0) (consA (varE 9) nilA))) [9]) nilA))) (seqS (asgS (nameG 4) (callE f_law_codes (consA (varE 3) nilA))) (seqS (ifS (orT (notT (truT (callE (f_same 4) (consA (callE f_items_of (consA (varE 2) (consA (varE 4) nilA))) (consA (varE 3) nilA))))) (notT (truT (callE (f_same 4) (consA (callE f_sum_bytes (consA (varE 4) nilA)) (consA (callE f_law_sum (consA (varE 4) nilA)) nilA)))))) (retS (constE (.bl false))) skipS) (seqS (asgS (nameG 5) (lstE (consA (binE addD (varE 4) (tupE (consA (constE (.int 0)) nilA))) (consA (tupE nilA) (consA (sliceE (varE 4) noP (someP (negE (constE (.int 1))))) (consA (sliceE (varE 4) (someP (constE (.int 1))) noP) (consA (binE addD (varE 4) (varE 4)) nilA))))))) (seqS cA8 ctail))))))))
theorem case_eq : b__law_case (f_value 4) (f_same 4) (f_law_code 6) (f_code_of 6) f_draw f_item f_law_codes f_law_sum f_sum_bytes f_items_of f_law_read f_law_told = chead := rfl

/-! ### in the row's words -/
theorem t_told (ks : List Bool) (l : List Int) (hb : ∀ b ∈ l, Byte b) (hk : ks.length ≤ 1000) (h : Th) : f_law_told [.tup (ks.map kn), T l] h = .ok (told (rd ks l)) h := law_told_ok ks l hb hk h
theorem t_read (ks : List Bool) (l : List Int) (hb : ∀ b ∈ l, Byte b) (hk : ks.length < 1000) (h : Th) : f_law_read [.tup (ks.map kn), T l] h = .ok (told (rd ks l)) h := law_read_ok ks l hb hk h
theorem t_len (l : List Int) (h : Th) : lenD [T l] h = .ok (.int l.length) h := by simp [T]
theorem t_to (l : List Int) (p : Nat) (h : Th) : sliceD (T l) none (some (p : Int)) h = .ok (T (l.take p)) h := by
  unfold T
  rw [sliceD_tup, cutD_to, List.map_take]
theorem t_from (l : List Int) (p : Nat) (h : Th) : sliceD (T l) (some (p : Int)) none h = .ok (T (l.drop p)) h := by
  unfold T
  rw [sliceD_tup, cutD_from, List.map_drop]
theorem t_last (l : List Int) (h : Th) : sliceD (T l) none (some (-1)) h = .ok (T (l.take (l.length - 1))) h := by
  unfold T
  rw [sliceD_tup, cutD_last, List.map_take, List.length_map]
theorem t_add (l k : List Int) (h : Th) (hl : l.length + k.length ≤ 16777216) : addD (T l) (T k) h = .ok (T (l ++ k)) h := by
  unfold T
  rw [addD_tup, if_pos (by simpa using hl), List.map_append]
theorem t_add1 (l : List Int) (x : Int) (h : Th) (hl : l.length + 1 ≤ 16777216) : addD (T l) (.tup [.int x]) h = .ok (T (l ++ [x])) h := t_add l [x] h hl
theorem t_get (l : List Int) (p : Nat) (x : Int) (e : l[p]? = some x) (h : Th) : MP.getD (T l) (.int p) h = .ok (.int x) h := by
  unfold T
  rw [getD_tup, atI_at (by omega)]
  simp [e]
theorem t_ne0 (l : List Int) (h : Th) : neD (T l) (.tup []) h = .ok (.bl (!decide (l = []))) h := neD_nil l h
theorem t_ne (l k : List Int) (h : Th) : neD (T l) (T k) h = .ok (.bl (!decide (l = k))) h := neD_ints l k h

/-- the end: another row, other kinds -/
theorem ctail_ok {r : Nat} {h : Th} (hr : r < h.length) (v items : MP.D) (ks : List Bool) (row : List Int) (os : List MP.D) (x6 x7 : Option MP.D) (b : Bag) (hk : ks.length ≤ 5) (hb : ∀ b ∈ row, Byte b)
    (ho : ∀ o ∈ os, ∃ l, o = T l ∧ ∀ b ∈ l, Byte b) (hn : 0 < os.length ∧ os.length ≤ 7) :
    ∃ b', fin (ctail [some (.ref r), some v, some (.tup (ks.map kn)), some items, some (T row), some (.lst os), x6, x7, none, none] (put r b h)) = .ok (.bl true) (put r b' h) := by
  obtain ⟨q, b1, e1, q0, q1⟩ := draw_ok hr b (os.length : Int) (by omega)
  obtain ⟨o, hom, ea⟩ := atI_mem (l := os) q0 q1
  obtain ⟨l, rfl, hlb⟩ := ho o hom
  have hs1 : ∀ h', f_same 4 [told (rd ks l), told (rd ks l)] h' = .ok (.bl true) h' := fun h' => same_ok 4 _ h' (pl_up (pl_told ks l (by omega)))
  obtain ⟨ks2, b2, e2, l2⟩ := kinds_lc hr ks.length [some (.ref r), some v, some (.tup (ks.map kn)), some items, some (T row), some (.lst os), x6, some (T l), none, none] rfl rfl b1
  have hs2 : ∀ h', f_same 4 [told (rd ks2 row), told (rd ks2 row)] h' = .ok (.bl true) h' := fun h' => same_ok 4 _ h' (pl_up (pl_told ks2 row (by omega)))
  have hr1 : ∀ h', rangeD1 [.int (ks.length : Int)] h' = .ok (.val (rangeL 0 ks.length)) h' := fun h' => by
    rw [range1_int _ _ (by omega)]
    simp
  refine ⟨b2, ?_⟩
  simp [ctail, e1, ea, t_told ks l hlb (by omega), t_read ks l hlb (by omega), hs1, hr1, e2, t_told ks2 row hb (by omega), t_read ks2 row hb (by omega), hs2]
noncomputable def f_case : Fn := runFn 10 1 (b__law_case (f_value 4) (f_same 4) (f_law_code 6) (f_code_of 6) f_draw f_item f_law_codes f_law_sum f_sum_bytes f_items_of f_law_read f_law_told)
theorem case_ok {r : Nat} {h : Th} (hr : r < h.length) (b : Bag) : ∃ b', f_case [.ref r] (put r b h) = .ok (.bl true) (put r b' h) := by
  obtain ⟨v, b1, e1, gv⟩ := value_ok hr 4 3 (by decide) (by decide) b
  have e1 : f_value 4 [.ref r, .int 3] (put r b h) = .ok v (put r b1 h) := e1
  have hv6 : okv 6 v := okv_up gv.o (by decide)
  have hvl : (code v).length ≤ 62463 := gv.l
  have ec1 : ∀ h', f_code_of 6 [v] h' = .ok (T (code v)) h' := fun h' => code_of_ok 6 v h' hv6
  have ec2 : ∀ h', f_law_code 6 [v] h' = .ok (T (code v)) h' := fun h' => law_code_ok 6 v h' hv6
  have es1 : ∀ h', f_same 4 [T (code v), T (code v)] h' = .ok (.bl true) h' := fun h' => same_ok 4 _ h' (pl_up (pl_up (pl_T _ (by omega))))
  obtain ⟨c, b2, e2, c0, c1⟩ := draw_ok hr b1 5 (by decide)
  obtain ⟨c', rfl⟩ : ∃ c' : Nat, c = (c' : Int) := ⟨c.toNat, by omega⟩
  have hr1 : ∀ h', rangeD1 [.int (c' : Int)] h' = .ok (.val (rangeL 0 c')) h' := fun h' => by
    rw [range1_int _ _ (by omega)]
    simp
  obtain ⟨ks, b3, e3, l3⟩ := kinds_lc hr c' [some (.ref r), some v, none, none, none, none, none, none, none, none] rfl rfl b2
  obtain ⟨es, b4, e4, it⟩ := items_lc hr (ks.map kn) v (.tup (ks.map kn)) ks b3
  obtain ⟨f1, f2, f3, f4, f5⟩ := it.facts
  obtain ⟨row, erow⟩ : ∃ row, row = codes es := ⟨_, rfl⟩
  have hrow : row.length ≤ 60 := by
    rw [erow]
    have : es.length * 13 ≤ 4 * 13 := Nat.mul_le_mul_right _ (by omega)
    omega
  have hrb : ∀ b ∈ row, Byte b := by rw [erow]; exact f4
  have e5 : ∀ h', f_law_codes [.tup es] h' = .ok (T row) h' := fun h' => by
    rw [erow]
    exact law_codes_ok es h' (fun d hd => (f2 d hd).1) (by rw [← erow]; omega)
  have erd : rd ks row = some es := by
    have := f5 []
    rw [List.append_nil, ← erow] at this
    unfold rd
    rw [this]
  have e6 : ∀ h', f_items_of [.tup (ks.map kn), T row] h' = .ok (.tup es) h' := fun h' => by
    have := items_of_ok ks row hrb (by omega) h'
    rw [erd] at this
    exact this
  have es2 : ∀ h', f_same 4 [.tup es, .tup es] h' = .ok (.bl true) h' := fun h' => same_ok 4 _ h' ⟨by omega, fun x hx => pl_up (pl_up (f2 x hx).2)⟩
  have e7 : ∀ l h', f_sum_bytes [T l] h' = .ok (.int (sumG 1 l)) h' := fun l h' => sum_bytes_ok l h'
  have e8 : ∀ l h', f_law_sum [T l] h' = .ok (.int (sumG 1 l)) h' := fun l h' => law_sum_ok l h'
  have es3 : ∀ i h', f_same 4 [.int i, .int i] h' = .ok (.bl true) h' := fun i h' => same_ok 4 _ h' trivial
  have a0 : ∀ h', addD (T row) (.tup [.int 0]) h' = .ok (T (row ++ [0])) h' := fun h' => t_add1 row 0 h' (by omega)
  have a1 : ∀ h', addD (T row) (T row) h' = .ok (T (row ++ row)) h' := fun h' => t_add row row h' (by omega)
  have s1 : ∀ h', sliceD (T row) (some 1) none h' = .ok (T (row.drop 1)) h' := fun h' => t_from row 1 h'
  have hos : ∀ o ∈ [T (row ++ [0]), .tup [], T (row.take (row.length - 1)), T (row.drop 1), T (row ++ row)], ∃ l, o = T l ∧ ∀ b ∈ l, Byte b := by
    intro o ho
    simp only [List.mem_cons, List.not_mem_nil, or_false] at ho
    rcases ho with rfl | rfl | rfl | rfl | rfl
    · refine ⟨_, rfl, fun b hb => ?_⟩
      rcases List.mem_append.mp hb with z | z
      · exact hrb b z
      · have : b = 0 := by simpa using z
        rw [this]; exact ⟨by decide, by decide⟩
    · exact ⟨[], rfl, fun b hb => (nomatch hb)⟩
    · exact ⟨_, rfl, fun b hb => hrb b (List.mem_of_mem_take hb)⟩
    · exact ⟨_, rfl, fun b hb => hrb b (List.mem_of_mem_drop hb)⟩
    · refine ⟨_, rfl, fun b hb => ?_⟩
      rcases List.mem_append.mp hb with z | z <;> exact hrb b z
  unfold f_case
  rw [run1, case_eq]
  by_cases hne : row = []
  · obtain ⟨b', et⟩ := ctail_ok hr v (.tup es) ks row [T (row ++ [0]), .tup [], T (row.take (row.length - 1)), T (row.drop 1), T (row ++ row)] none none b4 (by omega) hrb hos (by simp)
    have en : ∀ h', neD (T row) (.tup []) h' = .ok (.bl false) h' := fun h' => by rw [t_ne0, decide_eq_true hne]; rfl
    refine ⟨b', ?_⟩
    rw [← et]
    simp [chead, cA8, List.replicate, e1, ec1, ec2, es1, e2, hr1, e3, e4, e5, e6, es2, e7, e8, es3, a0, a1, s1, t_last, en]
  · have en : ∀ h', neD (T row) (.tup []) h' = .ok (.bl true) h' := fun h' => by rw [t_ne0, decide_eq_false hne]; rfl
    have hpos : 0 < row.length := List.length_pos_iff.mpr hne
    obtain ⟨p, b5, e9, p0, p1⟩ := draw_ok hr b4 (row.length : Int) (by omega)
    obtain ⟨p', rfl⟩ : ∃ p' : Nat, p = (p' : Int) := ⟨p.toNat, by omega⟩
    obtain ⟨x, ex⟩ : ∃ x, row[p']? = some x := ⟨_, List.getElem?_eq_getElem (by omega)⟩
    have hxb : Byte x := hrb x (List.mem_of_getElem? ex)
    obtain ⟨q, b6, e10, q0, q1⟩ := draw_ok hr b5 6 (by decide)
    obtain ⟨y, hym, ey⟩ : ∃ y, Byte y ∧ atI [MP.D.int 0, .int 13, .int 14, .int 96, .int 123, .int ((x + 1) % 256)] q = some (.int y) := by
      have : q = 0 ∨ q = 1 ∨ q = 2 ∨ q = 3 ∨ q = 4 ∨ q = 5 := by omega
      rcases this with rfl | rfl | rfl | rfl | rfl | rfl
      · exact ⟨0, ⟨by decide, by decide⟩, rfl⟩
      · exact ⟨13, ⟨by decide, by decide⟩, rfl⟩
      · exact ⟨14, ⟨by decide, by decide⟩, rfl⟩
      · exact ⟨96, ⟨by decide, by decide⟩, rfl⟩
      · exact ⟨123, ⟨by decide, by decide⟩, rfl⟩
      · exact ⟨(x + 1) % 256, ⟨by omega, by omega⟩, rfl⟩
    obtain ⟨other, eo⟩ : ∃ other, other = row.take p' ++ [y] ++ row.drop (p' + 1) := ⟨_, rfl⟩
    have hob : ∀ b ∈ other, Byte b := by
      rw [eo]
      intro b hb
      rcases List.mem_append.mp hb with z | z
      · rcases List.mem_append.mp z with z | z
        · exact hrb b (List.mem_of_mem_take z)
        · have : b = y := by simpa using z
          rw [this]; exact hym
      · exact hrb b (List.mem_of_mem_drop z)
    have g1 : ∀ h', MP.getD (T row) (.int (p' : Int)) h' = .ok (.int x) h' := fun h' => t_get row p' x ex h'
    have s2 : ∀ h', sliceD (T row) (some ((p' : Int) + 1)) none h' = .ok (T (row.drop (p' + 1))) h' := fun h' => t_from row (p' + 1) h'
    have a2 : ∀ h', addD (T (row.take p')) (.tup [.int y]) h' = .ok (T (row.take p' ++ [y])) h' := fun h' => t_add1 _ _ h' (by simp; omega)
    have a3 : ∀ h', addD (T (row.take p' ++ [y])) (T (row.drop (p' + 1))) h' = .ok (T other) h' := fun h' => by
      rw [eo]
      exact t_add _ _ h' (by simp; omega)
    have hsum : other ≠ row → sumG 1 other ≠ sumG 1 row := fun ne es => by
      have er : row = row.take p' ++ x :: row.drop (p' + 1) := by
        have h1 : p' < row.length := by omega
        have h2 : row[p'] = x := by
          have := List.getElem?_eq_getElem h1
          rw [ex] at this
          exact (Option.some.inj this).symm
        rw [← h2, ← List.drop_eq_getElem_cons h1, List.take_append_drop]
      have eo2 : other = row.take p' ++ y :: row.drop (p' + 1) := by rw [eo, List.append_assoc]; rfl
      have e2 : sumG 1 (row.take p' ++ y :: row.drop (p' + 1)) = sumG 1 (row.take p' ++ x :: row.drop (p' + 1)) := by
        rw [← eo2, ← er]; exact es
      have := sum_differs _ _ y x hym hxb e2
      exact ne (by rw [eo2, this, ← er])
    have hos2 : ∀ o ∈ [T (row ++ [0]), .tup [], T (row.take (row.length - 1)), T (row.drop 1), T (row ++ row), T other, T other], ∃ l, o = T l ∧ ∀ b ∈ l, Byte b := by
      intro o ho
      have ho : o ∈ [T (row ++ [0]), .tup [], T (row.take (row.length - 1)), T (row.drop 1), T (row ++ row)] ++ [T other, T other] := ho
      rcases List.mem_append.mp ho with z | z
      · exact hos o z
      · have : o = T other := by simpa using z
        exact ⟨other, this, hob⟩
    obtain ⟨b', et⟩ := ctail_ok hr v (.tup es) ks row [T (row ++ [0]), .tup [], T (row.take (row.length - 1)), T (row.drop 1), T (row ++ row), T other, T other] (some (.int (p' : Int))) (some (T other)) b6 (by omega) hrb hos2 (by simp)
    refine ⟨b', ?_⟩
    rw [← et]
    by_cases ho : other = row
    · have en2 : ∀ h', neD (T other) (T row) h' = .ok (.bl false) h' := fun h' => by rw [t_ne, decide_eq_true ho]; rfl
      simp [chead, cA8, List.replicate, e1, ec1, ec2, es1, e2, hr1, e3, e4, e5, e6, es2, e7, e8, es3, a0, a1, s1, t_last, en, t_len, e9, g1, e10, ey, t_to, s2, a2, a3, en2]
    · have en2 : ∀ h', neD (T other) (T row) h' = .ok (.bl true) h' := fun h' => by rw [t_ne, decide_eq_false ho]; rfl
      have hs := hsum ho
      simp [chead, cA8, List.replicate, e1, ec1, ec2, es1, e2, hr1, e3, e4, e5, e6, es2, e7, e8, es3, a0, a1, s1, t_last, en, t_len, e9, g1, e10, ey, t_to, s2, a2, a3, en2, hs]
end K65
set_option Elab.async false
set_option linter.all false
set_option maxRecDepth 100000
set_option maxHeartbeats 0
namespace K65
open PySem PySem.Spec PyProof.Rows L2 MP

noncomputable def f_bag : Fn := runFn 3 2 b__law_bag
theorem bag_ok (ns : List Int) (k : Nat) (h : Th) : ∃ b : Bag, f_bag [.frz (ns.map .int), .int k] h = .ok (.ref h.length) (put h.length b (h ++ [.lst []])) := by
  have hp : ∀ b : Bag, put h.length b (h ++ [O.lst []]) = h ++ [.lst [.int b.1, .int b.2.1, .int b.2.2]] := fun b => by
    unfold put bagO
    simp
  have hpow : powD (.int 10) (.int 18) = fun h => .ok (.int 1000000000000000000) h := by
    funext h
    rw [powD_int _ _ _ (by unfold CPow; decide)]
    rfl
  by_cases hk : k < ns.length
  · obtain ⟨c, hc⟩ : ∃ c, c = ns[k] := ⟨_, rfl⟩
    have hg : atI (ns.map MP.D.int) (k : Int) = some (.int c) := by
      rw [atI_at (by omega)]
      simp [hk, hc]
    by_cases hbig : (1000000000000000000 : Int) ≤ c
    · refine ⟨(c, c, k), ?_⟩
      unfold f_bag
      rw [run2, hp]
      simp [b__law_bag, List.replicate, hk, hg, hpow, hbig]
    · refine ⟨(0, c, k), ?_⟩
      unfold f_bag
      rw [run2, hp]
      simp [b__law_bag, List.replicate, hk, hg, hpow, hbig]
  · refine ⟨(0, 0, k), ?_⟩
    unfold f_bag
    rw [run2, hp]
    simp [b__law_bag, List.replicate, hk, hpow]
noncomputable def c_law : Fn := runFn 2 1 (b_law f_case f_bag)
theorem law_loop (ns : List Int) (l0 : List MP.D) : ∀ (ks : List Nat) (h : Th) (x : Option MP.D), ∃ x' h', forGo (.val l0) (nameG 1) (ifS (notT (truT (callE f_case (consA (callE f_bag (consA (varE 0) (consA (varE 1) nilA))) nilA)))) (retS (constE (.bl false))) skipS) (ks.map fun k : Nat => MP.D.int k)
    [some (.frz (ns.map .int)), x] h = .nx [some (.frz (ns.map .int)), x'] h'
  | [], h, x => ⟨x, h, by simp⟩
  | k :: ks, h, x => by
    obtain ⟨b, e1⟩ := bag_ok ns k h
    obtain ⟨b', e2⟩ := case_ok (r := h.length) (h := h ++ [.lst []]) (by simp) b
    obtain ⟨x', h', e3⟩ := law_loop ns l0 ks (put h.length b' (h ++ [.lst []])) (some (.int k))
    refine ⟨x', h', ?_⟩
    rw [List.map_cons, for_name]
    simp [e1, e2, e3]
theorem law_true (ns : List Int) (hn : ns.length ≤ 63) : ∃ d h', c_law [.frz (ns.map .int)] [] = .ok d h' ∧ d = .bl true := by
  obtain ⟨m, hm⟩ : ∃ m : Nat, (m : Int) = (if (4 : Int) < (if (1 : Int) > (ns.length : Int) then 1 else (ns.length : Int)) then 4 else (if (1 : Int) > (ns.length : Int) then 1 else (ns.length : Int))) := by
    refine ⟨(if (4 : Int) < (if (1 : Int) > (ns.length : Int) then 1 else (ns.length : Int)) then 4 else (if (1 : Int) > (ns.length : Int) then 1 else (ns.length : Int))).toNat, ?_⟩
    split <;> split <;> omega
  have hm4 : m ≤ 4 := by
    have : (m : Int) ≤ 4 := by rw [hm]; split <;> omega
    omega
  have hr : ∀ h', rangeD1 [.int (m : Int)] h' = .ok (.val (rangeL 0 m)) h' := fun h' => by
    rw [range1_int _ _ (by omega)]
    simp
  have er : rangeL 0 m = (List.range m).map fun k : Nat => MP.D.int k := by
    unfold rangeL
    refine List.map_congr_left fun k _ => ?_
    simp
  obtain ⟨x', h', e⟩ := law_loop ns (rangeL 0 m) (List.range m) [] none
  rw [← er] at e
  refine ⟨.bl true, h', ?_, rfl⟩
  unfold c_law
  rw [run1]
  have h1 : ∀ h'', min2D [.int (if (1 : Int) > (ns.length : Int) then 1 else (ns.length : Int)), .int 4] h'' = .ok (.int m) h'' := fun h'' => by
    rw [min2_int, ← hm]
  have h2 : ∀ h'', max2D [.int (ns.length : Int), .int 1] h'' = .ok (.int (if (1 : Int) > (ns.length : Int) then 1 else (ns.length : Int))) h'' := fun h'' => by
    rw [max2_int]
  simp [-max2_int, -min2_int, b_law, List.replicate, h2, h1, hr, e]
/-! ### each def does it -/
def depth : Nat := 10
section
variable {P : Program} {w : World} {K : PySem.W.Frag} {mg : Str → Option Value} {base h : Heap}
theorem does_codes (X : K.In h) (G : h.Ns mainGlobals mg) (c : He.SaysD fa fn K) : ∀ n, Does P w K mg base (1 + n) "code_of" ["value"] (f_code_of n)
  | 0 => (stands_code_of X G c).bad
  | n + 1 => (does_code_of (tops X G c) (k := 1 + n) (stands_code_of X G c) ((does_bytes_of (tops X G c) (k := 0) (stands_bytes_of X G c)).mono (by omega)) (does_codes X G c n)).cl
theorem does_lcodes (X : K.In h) (G : h.Ns mainGlobals mg) (c : He.SaysD fa fn K) : ∀ n, Does P w K mg base (1 + n) "_law_code" ["value"] (f_law_code n)
  | 0 => (stands__law_code X G c).bad
  | n + 1 => does__law_code (tops X G c) (k := 1 + n) (stands__law_code X G c) ((does__law_split (tops X G c) (k := 0) (stands__law_split X G c)).mono (by omega)) (does_lcodes X G c n)
theorem does_sames (X : K.In h) (G : h.Ns mainGlobals mg) (c : He.SaysD fa fn K) : ∀ n, Does P w K mg base (1 + n) "_law_is_same" ["told", "due"] (f_same n)
  | 0 => (stands__law_is_same X G c).bad
  | n + 1 => does__law_is_same (tops X G c) (k := 1 + n) (stands__law_is_same X G c) (does_sames X G c n)
theorem does_f_draw (X : K.In h) (G : h.Ns mainGlobals mg) (c : He.SaysD fa fn K) : Does P w K mg base 1 "_law_draw" ["bag", "many"] f_draw := does__law_draw (tops X G c) (k := 0) (stands__law_draw X G c)
theorem does_f_item (X : K.In h) (G : h.Ns mainGlobals mg) (c : He.SaysD fa fn K) : Does P w K mg base 2 "_law_item" ["bag", "kind"] f_item := does__law_item (tops X G c) (k := 1) (stands__law_item X G c) (does_f_draw X G c)
theorem does_values (X : K.In h) (G : h.Ns mainGlobals mg) (c : He.SaysD fa fn K) : ∀ n, Does P w K mg base (3 + n) "_law_value" ["bag", "depth"] (f_value n)
  | 0 => (stands__law_value X G c).bad
  | n + 1 => does__law_value (tops X G c) (k := 3 + n) (stands__law_value X G c) ((does_f_draw X G c).mono (by omega)) ((does_f_item X G c).mono (by omega)) (does_values X G c n)
theorem law_does (X : K.In h) (G : h.Ns mainGlobals mg) (c : He.SaysD fa fn K) : Does P w K mg base depth "law" ["script"] c_law := by
  have T := tops X G c
  have d_int : Does P w K mg base 1 "is_integer" ["value", "low", "high"] f_is_integer := does_is_integer T (k := 0) (stands_is_integer X G c)
  have d_num : Does P w K mg base 2 "is_number" ["value"] f_is_number := does_is_number T (k := 1) (stands_is_number X G c) d_int
  have d_text : Does P w K mg base 1 "is_text" ["value"] f_is_text := does_is_text T (k := 0) (stands_is_text X G c)
  have d_item : Does P w K mg base 3 "is_item" ["kind", "value"] f_is_item := does_is_item T (k := 2) (stands_is_item X G c) d_num (d_text.mono (by omega))
  have d_nof : Does P w K mg base 1 "number_of" ["row"] f_number_of := does_number_of T (k := 0) (stands_number_of X G c)
  have d_sof : Does P w K mg base 1 "sign_of" ["byte"] f_sign_of := does_sign_of T (k := 0) (stands_sign_of X G c)
  have d_ti : Does P w K mg base 4 "take_item" ["kind", "row", "place"] f_take_item := does_take_item T (k := 3) (stands_take_item X G c) (d_nof.mono (by omega)) (d_sof.mono (by omega)) d_item
  have d_tis : Does P w K mg base 5 "take_items" ["kinds", "row", "place"] f_take_items := (does_take_items T (k := 4) (stands_take_items X G c) d_ti).cl
  have d_io : Does P w K mg base 6 "items_of" ["kinds", "row"] f_items_of := does_items_of T (k := 5) (stands_items_of X G c) d_tis
  have d_told : Does P w K mg base 7 "_law_told" ["kinds", "row"] f_law_told := does__law_told T (k := 6) (stands__law_told X G c) d_io
  have d_sb : Does P w K mg base 1 "sum_bytes" ["row"] f_sum_bytes := does_sum_bytes T (k := 0) (stands_sum_bytes X G c)
  have d_ls : Does P w K mg base 1 "_law_sum" ["row"] f_law_sum := does__law_sum T (k := 0) (stands__law_sum X G c)
  have d_lj : Does P w K mg base 1 "_law_join" ["row"] f_law_join := does__law_join T (k := 0) (stands__law_join X G c)
  have d_lsg : Does P w K mg base 1 "_law_sign" ["byte"] f_law_sign := does__law_sign T (k := 0) (stands__law_sign X G c)
  have d_read : Does P w K mg base 2 "_law_read" ["kinds", "row"] f_law_read := (does__law_read T (k := 1) (stands__law_read X G c) d_lj d_lsg).cl
  have d_lcs : Does P w K mg base 8 "_law_codes" ["items"] f_law_codes := does__law_codes T (k := 7) (stands__law_codes X G c) (does_lcodes X G c 6)
  have d_case : Does P w K mg base 9 "_law_case" ["bag"] f_case := does__law_case T (k := 8) (stands__law_case X G c) ((does_values X G c 4).mono (by omega)) ((does_sames X G c 4).mono (by omega)) ((does_lcodes X G c 6).mono (by omega)) ((does_codes X G c 6).mono (by omega))
    ((does_f_draw X G c).mono (by omega)) ((does_f_item X G c).mono (by omega)) d_lcs (d_ls.mono (by omega)) (d_sb.mono (by omega)) (d_io.mono (by omega)) (d_read.mono (by omega)) (d_told.mono (by omega))
  have d_bag : Does P w K mg base 1 "_law_bag" ["script", "k"] f_bag := does__law_bag T (k := 0) (stands__law_bag X G c)
  exact does_law T (k := 9) (stands_law X G c) d_case (d_bag.mono (by omega))
end
end K65
set_option Elab.async false
set_option linter.all false
set_option maxRecDepth 100000
set_option maxHeartbeats 0
namespace K65
open PySem PySem.Spec PyProof.Rows L2 MP
abbrev R : PySem.W.OpenRow := PySem.W.OpenLaw.row PySem.Challenge.rw_unringed_k65_codes
abbrev hk : PySem.W.Hook := He.hookD 4 fa fn
def ob (s : PySem.W.SharedT) : He.AlD := He.obsDG 4 fa fn (HandSHeadRun.getT s)
theorem ob_eq (s : PySem.W.SharedT) : ob s = hk.obs s.abs := He.obsDG_eq (HandSHeadRun.getT_eq s)
def loose0 : List PySem.Str := ["RingError", "BadRows", "MOST_SIGNS", "LEAST_NUMBER", "MOST_NUMBER", "LETTERS_items", "DIGITS", "is_integer", "is_number", "is_text", "is_item", "SUM_TIMES", "SUM_MODULUS", "NONE", "FALSE", "TRUE", "TUPLE", "FIGURES", "LETTERS_codes", "bytes_of"]
def loose1 : List PySem.Str := ["number_of", "code_of", "sign_of", "take_item", "take_items", "items_of", "sum_bytes", "_law_bag", "_law_draw", "_law_item", "_law_table", "_law_kinds", "_law_key", "_law_row", "_law_contents", "_law_change", "_law_changed", "_law_net", "_law_new_house", "_law_split"]
def loose2 : List PySem.Str := ["_law_join", "_law_sum", "_law_code", "_law_codes", "_law_is_same", "_law_value", "_law_read", "_law_sign", "_law_told", "_law_case"]
def loose : List PySem.Str := loose0 ++ loose1 ++ loose2
theorem run (w : World) : HandSHeadRun.RunEq R (PySem.W.view R.prog [54]) hk ob 4000 loose w := by
  intro os
  kernel_rfl
end K65
open PySem PySem.W PySem.Calls PyProof.Rows
theorem PySem.Challenge.cw_unringed_k65_codes_holds : PySem.Challenge.rw_unringed_k65_codes.Holds := by
  w_on; o_law
  refine HandSHeadRun.head_any (r := OpenLaw.row PySem.Challenge.rw_unringed_k65_codes) (q := view (OpenLaw.row PySem.Challenge.rw_unringed_k65_codes).prog [54]) (H := K65.hk) (ob := K65.ob) (M := 4000) (loose := K65.loose) (d := HandSHeadRun.topDef (OpenLaw.row PySem.Challenge.rw_unringed_k65_codes).prog 54) (kwd := []) K65.ob_eq
    (by kernel_rfl) (fun s => by kernel_rfl) K65.run (by kernel_rfl) (by kernel_rfl) (by kernel_rfl) (by rfl) (by first | assumption | decide +kernel) (by decide +kernel) ⟨rfl, rfl, rfl, rfl, rfl, by decide +kernel⟩ ?hw ?hc
  case hw => w_witness2
  case hc =>
    refine MP.walk_mp (l := PySem.Challenge.rw_unringed_k65_codes) (n := 63) (k := K65.depth) (x := "script") rfl (by decide) (by kernel_rfl) ⟨rfl, by decide, by decide⟩ fun w mg h Y G => ?_
    obtain ⟨K, KX, c⟩ := Y
    refine ⟨K, K65.st 54, K65.c_law, KX, ?_, K65.law_true, fun base kb nb => ?_⟩
    · have e : (HandSHeadRun.topDef (OpenLaw.row PySem.Challenge.rw_unringed_k65_codes).prog 54).name = ("law" : PySem.Str) := by kernel_rfl
      rw [e]
      exact K65.stands_law KX G c
    · have e : (HandSHeadRun.topDef (OpenLaw.row PySem.Challenge.rw_unringed_k65_codes).prog 54).name = ("law" : PySem.Str) := by kernel_rfl
      rw [e]
      exact K65.law_does KX G c

