import PyProof.Rows.All
import Wide.All
import OpenK.AllK
import Wide.FinOn
import HandS.ForMost
import HandS.Exc
import HandS.Deep
import HandS.IsInst
import HandS.TupAny
import HandS.TupMul
import HandS.Wide
import HandS.Conv
import PyProof.P3In
import HandS.Style
import HandS.Defaults
import HandS.HeadEnd
import HandS.HeadHook2
import HandS.Head2
import PySem.Challenge.RW_topwheel_k01_values_recognized
set_option Elab.async false
set_option linter.all false
set_option maxRecDepth 100000
set_option maxHeartbeats 4000000
/-! DL: values as data, mutable objects by their place in a store. -/
namespace DL
open PySem PySem.Spec PyProof.Rows L2

/-! ### data -/
inductive D where
  | non | bl (b : Bool) | int (i : Int) | str (s : Str) | ty (s : String)
  | tup (xs : List D) | lst (xs : List D) | dct (kvs : List (Key × D))
  | loc (n : Nat) | scr (ns : List Int) | fn (a : Addr)
  deriving Inhabited

inductive Ob where
  | lst (xs : List D) | dct (kvs : List (Key × D)) | fz (kvs : List (Key × D)) | ins (c : Str) (fs : List (Str × D)) | dead
  deriving Inhabited

abbrev Stt := List Ob
abbrev Env := List (Option D)
structure Exn where
  cls : Str
  fs : List (Str × D)

inductive Res (α : Type) where
  | ok (a : α) (st : Stt) | exc (x : Exn) (st : Stt) | stuck
def Res.bind {α β : Type} (r : Res α) (g : α → Stt → Res β) : Res β := match r with
  | .ok a st => g a st
  | .exc x st => .exc x st
  | .stuck => .stuck
@[simp] theorem bind_ok {α β : Type} (a : α) (st : Stt) (g : α → Stt → Res β) : (Res.ok a st).bind g = g a st := rfl
@[simp] theorem bind_exc {α β : Type} (x : Exn) (st : Stt) (g : α → Stt → Res β) : (Res.exc x st : Res α).bind g = .exc x st := rfl
@[simp] theorem bind_stuck {α β : Type} (g : α → Stt → Res β) : (Res.stuck : Res α).bind g = .stuck := rfl
theorem bind_assoc {α β γ : Type} (r : Res α) (g : α → Stt → Res β) (k : β → Stt → Res γ) : (r.bind g).bind k = r.bind fun a st => (g a st).bind k := by cases r <;> rfl

/-! ### how data lies in the abstract heap -/
/-- where the store's places lie; h: addresses that are hidden (a comprehension's list in the making) -/
structure Th where
  l : List (Option Addr)
  h : List Addr
def Own (θ : Th) (a : Addr) : Prop := some a ∈ θ.l ∨ a ∈ θ.h
def Tr (θ : Th) (H : Hp) (a : Addr) (u : HO) : Prop := Rd H a u ∧ ¬ Own θ a

def KList (K : PySem.W.Frag) (a : Addr) (xs : List V) : Prop :=
  ∃ (o : Obj) (its : Array Value) (n : Nat), K.lookup a = some o ∧ o.cls = .type "list" ∧ o.dict = none ∧ o.data = .seq its n ∧ its.size ≤ sizeLine ∧ Vals xs its.toList

section
variable (K : PySem.W.Frag) (θ : Th) (H : Hp)
mutual
def Rep : D → V → Prop
  | .non, v => v = .non
  | .bl b, v => v = .bl b
  | .int i, v => v = .int i
  | .str s, v => v = .str s
  | .ty s, v => v = .ty s
  | .fn a, v => v = .ref a
  | .tup xs, v => ∃ a vs, v = .ref a ∧ Tr θ H a (.tup vs) ∧ Reps xs vs
  | .lst xs, v => ∃ a vs, v = .ref a ∧ H a = some (.lst vs) ∧ ¬ Own θ a ∧ Reps xs vs
  | .dct kvs, v => ∃ a kws, v = .ref a ∧ Tr θ H a (.dK kws) ∧ RepKs kvs kws
  | .loc n, v => ∃ a, v = .ref a ∧ θ.l[n]? = some (some a)
  | .scr ns, v => ∃ a, v = .ref a ∧ (Tr θ H a (.lst (ns.map V.int)) ∨ KList K a (ns.map V.int))
def Reps : List D → List V → Prop
  | [], vs => vs = []
  | d :: ds, vs => ∃ v r, vs = v :: r ∧ Rep d v ∧ Reps ds r
def RepKs : List (Key × D) → List (Key × V) → Prop
  | [], vs => vs = []
  | (k, d) :: ds, vs => ∃ v r, vs = (k, v) :: r ∧ Rep d v ∧ RepKs ds r
end
end
structure Ext (θ : Th) (H : Hp) (θ' : Th) (H' : Hp) : Prop where
  pre : ∀ (n : Nat) (a : Addr), θ.l[n]? = some (some a) → θ'.l[n]? = some (some a)
  keep : ∀ b o, H b = some o → ¬ Own θ b → H' b = some o ∧ ¬ Own θ' b
  hid : ∀ b, b ∈ θ.h → b ∈ θ'.h ∧ H' b = H b
structure ExtW (θ : Th) (H : Hp) (θ' : Th) (H' : Hp) : Prop where
  pre : ∀ (n : Nat) (a : Addr), θ.l[n]? = some (some a) → θ'.l[n]? = some (some a)
  keep : ∀ b o, H b = some o → ¬ Own θ b → H' b = some o ∧ ¬ Own θ' b
theorem Ext.w {θ θ' : Th} {H H' : Hp} (e : Ext θ H θ' H') : ExtW θ H θ' H' := ⟨e.pre, e.keep⟩
theorem Ext.refl {θ : Th} {H : Hp} : Ext θ H θ H := ⟨fun _ _ h => h, fun _ _ h n => ⟨h, n⟩, fun _ h => ⟨h, rfl⟩⟩
theorem Ext.trans {θ θ1 θ2 : Th} {H H1 H2 : Hp} (a : Ext θ H θ1 H1) (b : Ext θ1 H1 θ2 H2) : Ext θ H θ2 H2 :=
  ⟨fun n x h => b.pre n x (a.pre n x h), fun c o h n => let ⟨h1, n1⟩ := a.keep c o h n; b.keep c o h1 n1, fun c h => let ⟨h1, e1⟩ := a.hid c h; let ⟨h2, e2⟩ := b.hid c h1; ⟨h2, e2.trans e1⟩⟩
theorem Tr.monoW {θ θ' : Th} {H H' : Hp} {a : Addr} {u : HO} (e : ExtW θ H θ' H') (h : Tr θ H a u) : Tr θ' H' a u := by
  obtain ⟨h | ⟨o, h⟩, n⟩ := h
  · obtain ⟨h1, n1⟩ := e.keep _ _ h n
    exact ⟨.inl h1, n1⟩
  · obtain ⟨h1, n1⟩ := e.keep _ _ h n
    exact ⟨.inr ⟨o, h1⟩, n1⟩
section
variable {K : PySem.W.Frag} {θ θ' : Th} {H H' : Hp}
mutual
theorem Rep.monoW (e : ExtW θ H θ' H') : ∀ (d : D) (v : V), Rep K θ H d v → Rep K θ' H' d v
  | .non, _, h => h
  | .bl _, _, h => h
  | .int _, _, h => h
  | .str _, _, h => h
  | .ty _, _, h => h
  | .fn _, _, h => h
  | .tup xs, _, h => by
    obtain ⟨a, vs, hv, ht, hr⟩ := h
    exact ⟨a, vs, hv, ht.monoW e, Reps.monoW e xs vs hr⟩
  | .lst xs, _, h => by
    obtain ⟨a, vs, hv, ht, hn, hr⟩ := h
    obtain ⟨h1, n1⟩ := e.keep _ _ ht hn
    exact ⟨a, vs, hv, h1, n1, Reps.monoW e xs vs hr⟩
  | .dct kvs, _, h => by
    obtain ⟨a, vs, hv, ht, hr⟩ := h
    exact ⟨a, vs, hv, ht.monoW e, RepKs.monoW e kvs vs hr⟩
  | .loc n, _, h => by
    obtain ⟨a, hv, ht⟩ := h
    exact ⟨a, hv, e.pre n a ht⟩
  | .scr ns, _, h => by
    obtain ⟨a, hv, ht⟩ := h
    exact ⟨a, hv, ht.imp (fun t => t.monoW e) id⟩
theorem Reps.monoW (e : ExtW θ H θ' H') : ∀ (ds : List D) (vs : List V), Reps K θ H ds vs → Reps K θ' H' ds vs
  | [], _, h => h
  | d :: ds, _, h => by
    obtain ⟨v, r, hv, h1, h2⟩ := h
    exact ⟨v, r, hv, Rep.monoW e d v h1, Reps.monoW e ds r h2⟩
theorem RepKs.monoW (e : ExtW θ H θ' H') : ∀ (ds : List (Key × D)) (vs : List (Key × V)), RepKs K θ H ds vs → RepKs K θ' H' ds vs
  | [], _, h => h
  | (k, d) :: ds, _, h => by
    obtain ⟨v, r, hv, h1, h2⟩ := h
    exact ⟨v, r, hv, Rep.monoW e d v h1, RepKs.monoW e ds r h2⟩
end
theorem Tr.mono {θ θ' : Th} {H H' : Hp} {a : Addr} {u : HO} (e : Ext θ H θ' H') (h : Tr θ H a u) : Tr θ' H' a u := h.monoW e.w
theorem Rep.mono {K : PySem.W.Frag} {θ θ' : Th} {H H' : Hp} (e : Ext θ H θ' H') (d : D) (v : V) (h : Rep K θ H d v) : Rep K θ' H' d v := Rep.monoW e.w d v h
theorem Reps.mono {K : PySem.W.Frag} {θ θ' : Th} {H H' : Hp} (e : Ext θ H θ' H') (ds : List D) (vs : List V) (h : Reps K θ H ds vs) : Reps K θ' H' ds vs := Reps.monoW e.w ds vs h
theorem RepKs.mono {K : PySem.W.Frag} {θ θ' : Th} {H H' : Hp} (e : Ext θ H θ' H') (ds : List (Key × D)) (vs : List (Key × V)) (h : RepKs K θ H ds vs) : RepKs K θ' H' ds vs := RepKs.monoW e.w ds vs h
theorem Reps.length : ∀ {ds : List D} {vs : List V}, Reps K θ H ds vs → ds.length = vs.length
  | [], _, h => by cases (show _ = [] from h); rfl
  | d :: ds, _, h => by
    obtain ⟨v, r, rfl, _, h2⟩ := h
    simp [Reps.length h2]
theorem Reps.get : ∀ {ds : List D} {vs : List V} {i : Nat} {d : D}, Reps K θ H ds vs → ds[i]? = some d → ∃ v, vs[i]? = some v ∧ Rep K θ H d v
  | [], _, _, _, _, e => by simp at e
  | d :: ds, _, 0, _, h, e => by
    obtain ⟨v, r, rfl, h1, h2⟩ := h
    simp at e; subst e
    exact ⟨v, rfl, h1⟩
  | d :: ds, _, i + 1, _, h, e => by
    obtain ⟨v, r, rfl, h1, h2⟩ := h
    obtain ⟨u, hu, hr⟩ := Reps.get (i := i) h2 (by simpa using e)
    exact ⟨u, by simpa using hu, hr⟩
theorem Reps.get' : ∀ {ds : List D} {vs : List V} {i : Nat} {v : V}, Reps K θ H ds vs → vs[i]? = some v → ∃ d, ds[i]? = some d ∧ Rep K θ H d v
  | [], _, _, _, h, e => by cases (show _ = [] from h); simp at e
  | d :: ds, _, 0, _, h, e => by
    obtain ⟨v, r, rfl, h1, h2⟩ := h
    simp at e; subst e
    exact ⟨d, rfl, h1⟩
  | d :: ds, _, i + 1, _, h, e => by
    obtain ⟨v, r, rfl, h1, h2⟩ := h
    obtain ⟨u, hu, hr⟩ := Reps.get' (i := i) h2 (by simpa using e)
    exact ⟨u, by simpa using hu, hr⟩
theorem Reps.append : ∀ {ds es : List D} {vs us : List V}, Reps K θ H ds vs → Reps K θ H es us → Reps K θ H (ds ++ es) (vs ++ us)
  | [], _, _, _, h, h' => by cases (show _ = [] from h); exact h'
  | d :: ds, _, _, _, h, h' => by
    obtain ⟨v, r, rfl, h1, h2⟩ := h
    exact ⟨v, _, rfl, h1, Reps.append h2 h'⟩
theorem Reps.take : ∀ {ds : List D} {vs : List V} (n : Nat), Reps K θ H ds vs → Reps K θ H (ds.take n) (vs.take n)
  | _, _, 0, _ => by simp [Reps]
  | [], _, n + 1, h => by cases (show _ = [] from h); simp [Reps]
  | d :: ds, _, n + 1, h => by
    obtain ⟨v, r, rfl, h1, h2⟩ := h
    exact ⟨v, _, rfl, h1, Reps.take n h2⟩
theorem Reps.drop : ∀ {ds : List D} {vs : List V} (n : Nat), Reps K θ H ds vs → Reps K θ H (ds.drop n) (vs.drop n)
  | _, _, 0, h => h
  | [], _, n + 1, h => by cases (show _ = [] from h); simp [Reps]
  | d :: ds, _, n + 1, h => by
    obtain ⟨v, r, rfl, h1, h2⟩ := h
    exact Reps.drop n h2
theorem Reps.set : ∀ {ds : List D} {vs : List V} (n : Nat) {d : D} {v : V}, Reps K θ H ds vs → Rep K θ H d v → Reps K θ H (ds.set n d) (vs.set n v)
  | [], _, n, _, _, h, _ => by cases (show _ = [] from h); simp [Reps]
  | d :: ds, _, 0, _, _, h, h' => by
    obtain ⟨v, r, rfl, h1, h2⟩ := h
    exact ⟨_, _, rfl, h', h2⟩
  | d :: ds, _, n + 1, _, _, h, h' => by
    obtain ⟨v, r, rfl, h1, h2⟩ := h
    exact ⟨_, _, rfl, h1, Reps.set n h2 h'⟩
theorem Reps.ints : ∀ {ns : List Int} {vs : List V}, Reps K θ H (ns.map D.int) vs → vs = ns.map V.int
  | [], _, h => h
  | n :: ns, _, h => by
    obtain ⟨v, r, rfl, h1, h2⟩ := h
    rw [Reps.ints h2, show v = _ from h1]; rfl
theorem Reps.bls : ∀ {ns : List Bool} {vs : List V}, Reps K θ H (ns.map D.bl) vs → vs = ns.map V.bl
  | [], _, h => h
  | n :: ns, _, h => by
    obtain ⟨v, r, rfl, h1, h2⟩ := h
    rw [Reps.bls h2, show v = _ from h1]; rfl
theorem RepKs.length : ∀ {ds : List (Key × D)} {vs : List (Key × V)}, RepKs K θ H ds vs → ds.length = vs.length
  | [], _, h => by cases (show _ = [] from h); rfl
  | (k, d) :: ds, _, h => by
    obtain ⟨v, r, rfl, _, h2⟩ := h
    simp [RepKs.length h2]
end

/-! ### the store -/
structure RepSt (K : PySem.W.Frag) (θ : Th) (H : Hp) (st : Stt) : Prop where
  len : θ.l.length = st.length
  hlive : ∀ b, b ∈ θ.h → ∃ o, H b = some o
  hdis : ∀ b, b ∈ θ.h → some b ∉ θ.l
  inj : ∀ (i j : Nat) (a : Addr), θ.l[i]? = some (some a) → θ.l[j]? = some (some a) → i = j
  obj : ∀ (n : Nat), match st[n]? with
    | none => True
    | some .dead => θ.l[n]? = some none
    | some (.lst xs) => ∃ a vs, θ.l[n]? = some (some a) ∧ H a = some (.lst vs) ∧ Reps K θ H xs vs
    | some (.dct kvs) => ∃ a kws, θ.l[n]? = some (some a) ∧ H a = some (.dK kws) ∧ RepKs K θ H kvs kws
    | some (.fz kvs) => ∃ a o kws, θ.l[n]? = some (some a) ∧ H a = some (.frz o (.dK kws)) ∧ RepKs K θ H kvs kws
    | some (.ins _ _) => False
theorem RepSt.live {K : PySem.W.Frag} {θ : Th} {H : Hp} {st : Stt} (R : RepSt K θ H st) {n : Nat} {a : Addr} (h : θ.l[n]? = some (some a)) : ∃ o, H a = some o := by
  have hn : n < st.length := by rw [← R.len]; exact (List.getElem?_eq_some_iff.mp h).1
  have q := R.obj n
  rw [List.getElem?_eq_getElem hn] at q
  cases e : st[n] with
  | dead => rw [e] at q; simp only at q; rw [h] at q; cases q
  | lst xs => rw [e] at q; obtain ⟨a', vs, h1, h2, _⟩ := q; rw [h] at h1; cases h1; exact ⟨_, h2⟩
  | dct xs => rw [e] at q; obtain ⟨a', vs, h1, h2, _⟩ := q; rw [h] at h1; cases h1; exact ⟨_, h2⟩
  | fz xs => rw [e] at q; obtain ⟨a', o, vs, h1, h2, _⟩ := q; rw [h] at h1; cases h1; exact ⟨_, h2⟩
  | ins _ _ => rw [e] at q; exact q.elim
theorem RepSt.free {K : PySem.W.Frag} {θ : Th} {H : Hp} {st : Stt} (R : RepSt K θ H st) {a : Addr} (h : H a = none) : ¬ Own θ a := fun hm => by
  rcases hm with hm | hm
  · obtain ⟨n, hn, e⟩ := List.getElem_of_mem hm
    obtain ⟨o, ho⟩ := R.live (n := n) (a := a) (by rw [List.getElem?_eq_getElem hn, e])
    rw [h] at ho; cases ho
  · obtain ⟨o, ho⟩ := R.hlive a hm
    rw [h] at ho; cases ho
theorem RepSt.lst {K : PySem.W.Frag} {θ : Th} {H : Hp} {st : Stt} (R : RepSt K θ H st) {n : Nat} {xs : List D} (h : st[n]? = some (.lst xs)) : ∃ a vs, θ.l[n]? = some (some a) ∧ H a = some (.lst vs) ∧ Reps K θ H xs vs := by
  have q := R.obj n; rw [h] at q; exact q
theorem RepSt.dct {K : PySem.W.Frag} {θ : Th} {H : Hp} {st : Stt} (R : RepSt K θ H st) {n : Nat} {xs : List (Key × D)} (h : st[n]? = some (.dct xs)) : ∃ a vs, θ.l[n]? = some (some a) ∧ H a = some (.dK vs) ∧ RepKs K θ H xs vs := by
  have q := R.obj n; rw [h] at q; exact q
theorem RepSt.fz {K : PySem.W.Frag} {θ : Th} {H : Hp} {st : Stt} (R : RepSt K θ H st) {n : Nat} {xs : List (Key × D)} (h : st[n]? = some (.fz xs)) : ∃ a o vs, θ.l[n]? = some (some a) ∧ H a = some (.frz o (.dK vs)) ∧ RepKs K θ H xs vs := by
  have q := R.obj n; rw [h] at q; exact q
/-- what stands in the store stands, if the heap is the same at its places -/
theorem RepSt.move {K : PySem.W.Frag} {θ : Th} {H : Hp} {st : Stt} {θ' : Th} {H' : Hp} (R : RepSt K θ H st) (e : Ext θ H θ' H') (hl : θ'.l = θ.l) (hh : ∀ b, b ∈ θ'.h → b ∈ θ.h ∨ ((∃ o, H' b = some o) ∧ some b ∉ θ.l)) (hs : ∀ (n : Nat) (a : Addr), θ.l[n]? = some (some a) → H' a = H a) : RepSt K θ' H' st := by
  refine ⟨by rw [hl, R.len], fun b hb => ?_, fun b hb => ?_, fun i j a h1 h2 => R.inj i j a (by rw [← hl]; exact h1) (by rw [← hl]; exact h2), fun n => ?_⟩
  · rcases hh b hb with h | h
    · obtain ⟨o, ho⟩ := R.hlive b h
      exact ⟨o, by rw [(e.hid b h).2]; exact ho⟩
    · exact h.1
  · rw [hl]
    rcases hh b hb with h | h
    · exact R.hdis b h
    · exact h.2
  · have q := R.obj n
    rw [hl]
    split at q
    · trivial
    · exact q
    · obtain ⟨a, vs, h1, h2, h3⟩ := q
      exact ⟨a, vs, h1, by rw [hs n a h1]; exact h2, h3.mono e⟩
    · obtain ⟨a, vs, h1, h2, h3⟩ := q
      exact ⟨a, vs, h1, by rw [hs n a h1]; exact h2, h3.mono e⟩
    · obtain ⟨a, o, vs, h1, h2, h3⟩ := q
      exact ⟨a, o, vs, h1, by rw [hs n a h1]; exact h2, h3.mono e⟩
    · exact q.elim
/-- a new object at p, not in the store -/
theorem Ext.new {K : PySem.W.Frag} {θ : Th} {H : Hp} {st : Stt} {p : Addr} {o : HO} (R : RepSt K θ H st) (hp : H p = none) : Ext θ H θ (upd H p o) :=
  ⟨fun _ _ h => h, fun b u h n => ⟨by rw [upd_ne (ne_of_none h hp)]; exact h, n⟩, fun b h => ⟨h, by
    obtain ⟨u, hu⟩ := R.hlive b h
    rw [upd_ne (ne_of_none hu hp)]⟩⟩
theorem RepSt.new {K : PySem.W.Frag} {θ : Th} {H : Hp} {st : Stt} {p : Addr} {o : HO} (R : RepSt K θ H st) (hp : H p = none) : RepSt K θ (upd H p o) st :=
  R.move (Ext.new R hp) rfl (fun _ h => .inl h) fun n a h => by
    obtain ⟨u, hu⟩ := R.live h
    rw [upd_ne (ne_of_none hu hp)]
/-- .. hidden -/
abbrev Th.hide (θ : Th) (p : Addr) : Th := ⟨θ.l, p :: θ.h⟩
theorem Ext.hide {K : PySem.W.Frag} {θ : Th} {H : Hp} {st : Stt} {p : Addr} {o : HO} (R : RepSt K θ H st) (hp : H p = none) : Ext θ H (θ.hide p) (upd H p o) :=
  ⟨fun _ _ h => h, fun b u h n => ⟨by rw [upd_ne (ne_of_none h hp)]; exact h, fun z => by
    rcases z with z | z
    · exact n (.inl z)
    · rcases List.mem_cons.mp z with z | z
      · exact ne_of_none h hp z
      · exact n (.inr z)⟩, fun b h => ⟨List.mem_cons_of_mem _ h, by
    obtain ⟨u, hu⟩ := R.hlive b h
    rw [upd_ne (ne_of_none hu hp)]⟩⟩
theorem RepSt.hide {K : PySem.W.Frag} {θ : Th} {H : Hp} {st : Stt} {p : Addr} {o : HO} (R : RepSt K θ H st) (hp : H p = none) : RepSt K (θ.hide p) (upd H p o) st :=
  R.move (Ext.hide R hp) rfl (fun b h => (List.mem_cons.mp h).elim (fun e => .inr ⟨⟨o, by rw [e]; exact upd_same⟩, fun z => R.free hp (.inl (by rw [← e]; exact z))⟩) .inl) fun n a h => by
    obtain ⟨u, hu⟩ := R.live h
    rw [upd_ne (ne_of_none hu hp)]
/-- the hidden object is changed -/
theorem Ext.rehide {K : PySem.W.Frag} {θ : Th} {H : Hp} {st : Stt} {p : Addr} {o : HO} (R : RepSt K θ H st) (hp : p ∈ θ.h) {b : Addr} {u : HO} (h : H b = some u) (n : ¬ Own θ b) : (upd H p o) b = some u := by
  rw [upd_ne (fun e => n (.inr (by rw [e]; exact hp)))]; exact h
/-- .. and in the store -/
abbrev Th.add (θ : Th) (p : Addr) : Th := ⟨θ.l ++ [some p], θ.h⟩
theorem Ext.alloc {K : PySem.W.Frag} {θ : Th} {H : Hp} {st : Stt} {p : Addr} {o : HO} (R : RepSt K θ H st) (hp : H p = none) : Ext θ H (θ.add p) (upd H p o) :=
  ⟨fun n a h => by show (θ.l ++ [some p])[n]? = _; rw [List.getElem?_append_left (List.getElem?_eq_some_iff.mp h).1]; exact h, fun b u h n => by
    have hb : b ≠ p := ne_of_none h hp
    refine ⟨by rw [upd_ne hb]; exact h, fun z => ?_⟩
    rcases z with z | z
    · rcases List.mem_append.mp z with z | z
      · exact n (.inl z)
      · exact hb (by simpa using z)
    · exact n (.inr z), fun b h => ⟨h, by
    obtain ⟨u, hu⟩ := R.hlive b h
    rw [upd_ne (ne_of_none hu hp)]⟩⟩
/-- the object that stands for ob at a -/
def ObRep (K : PySem.W.Frag) (θ : Th) (H : Hp) (a : Addr) : Ob → Prop
  | .lst xs => ∃ vs, H a = some (.lst vs) ∧ Reps K θ H xs vs
  | .dct kvs => ∃ kws, H a = some (.dK kws) ∧ RepKs K θ H kvs kws
  | .fz kvs => ∃ o kws, H a = some (.frz o (.dK kws)) ∧ RepKs K θ H kvs kws
  | _ => False
theorem RepSt.alloc {K : PySem.W.Frag} {θ : Th} {H : Hp} {st : Stt} {p : Addr} {o : HO} {ob : Ob} (R : RepSt K θ H st) (hp : H p = none) (ho : ObRep K (θ.add p) (upd H p o) p ob) : RepSt K (θ.add p) (upd H p o) (st ++ [ob]) := by
  have e := Ext.alloc (o := o) R hp
  have nw : ∀ {i a}, θ.l[i]? = some (some a) → a ≠ p := fun {i a} h => by
    obtain ⟨u, hu⟩ := R.live h
    exact ne_of_none hu hp
  have cs : ∀ {i a}, (θ.l ++ [some p])[i]? = some (some a) → (θ.l[i]? = some (some a)) ∨ (i = θ.l.length ∧ a = p) := fun {i a} h => by
    by_cases hi : i < θ.l.length
    · rw [List.getElem?_append_left hi] at h; exact .inl h
    · rw [List.getElem?_append_right (by omega)] at h
      have : i - θ.l.length = 0 := by
        have := (List.getElem?_eq_some_iff.mp h).1
        simp at this; omega
      rw [this] at h
      simp at h
      exact .inr ⟨by omega, h.symm⟩
  refine ⟨by simp [R.len], fun b hb => ?_, fun b hb z => ?_, fun i j a h1 h2 => ?_, fun n => ?_⟩
  · obtain ⟨u, hu⟩ := R.hlive b hb
    exact ⟨u, by rw [upd_ne (ne_of_none hu hp)]; exact hu⟩
  · rcases List.mem_append.mp z with z | z
    · exact R.hdis b hb z
    · obtain ⟨u, hu⟩ := R.hlive b hb
      exact ne_of_none hu hp (by simpa using z)
  · rcases cs h1 with h1 | ⟨e1, q1⟩ <;> rcases cs h2 with h2 | ⟨e2, q2⟩
    · exact R.inj i j a h1 h2
    · exact absurd q2 (nw h1)
    · exact absurd q1 (nw h2)
    · omega
  · by_cases hn : n < st.length
    · rw [List.getElem?_append_left hn]
      show match st[n]? with | none => True | some .dead => (θ.l ++ [some p])[n]? = some none | some (.lst xs) => ∃ a vs, (θ.l ++ [some p])[n]? = some (some a) ∧ _ | some (.dct xs) => ∃ a vs, (θ.l ++ [some p])[n]? = some (some a) ∧ _ | some (.fz xs) => ∃ a o vs, (θ.l ++ [some p])[n]? = some (some a) ∧ _ | some (.ins _ _) => False
      rw [List.getElem?_append_left (by rw [R.len]; exact hn)]
      have q := R.obj n
      split at q
      · rename_i h; rw [List.getElem?_eq_none_iff] at h; omega
      · simp only [*]
      · obtain ⟨a, vs, h1, h2, h3⟩ := q
        simp only [*]
        exact ⟨a, vs, rfl, by rw [upd_ne (nw h1)]; exact h2, h3.mono e⟩
      · obtain ⟨a, vs, h1, h2, h3⟩ := q
        simp only [*]
        exact ⟨a, vs, rfl, by rw [upd_ne (nw h1)]; exact h2, h3.mono e⟩
      · obtain ⟨a, u, vs, h1, h2, h3⟩ := q
        simp only [*]
        exact ⟨a, u, vs, rfl, by rw [upd_ne (nw h1)]; exact h2, h3.mono e⟩
      · exact q.elim
    · rw [List.getElem?_append_right (by omega)]
      by_cases h0 : n = st.length
      · subst h0
        have hth : (θ.add p).l[st.length]? = some (some p) := by show (θ.l ++ [some p])[st.length]? = _; rw [← R.len]; simp
        simp only [Nat.sub_self, List.getElem?_cons_zero]
        cases ob with
        | lst xs => obtain ⟨vs, h1, h2⟩ := ho; exact ⟨p, vs, hth, h1, h2⟩
        | dct xs => obtain ⟨vs, h1, h2⟩ := ho; exact ⟨p, vs, hth, h1, h2⟩
        | fz xs => obtain ⟨u, vs, h1, h2⟩ := ho; exact ⟨p, u, vs, hth, h1, h2⟩
        | ins _ _ => exact (show False from ho).elim
        | dead => exact (show False from ho).elim
      · rw [List.getElem?_eq_none (by simp; omega)]; trivial
/-- an object of the store is changed -/
theorem Ext.put {K : PySem.W.Frag} {θ : Th} {H : Hp} {st : Stt} {n : Nat} {a : Addr} {o : HO} (R : RepSt K θ H st) (h : θ.l[n]? = some (some a)) : Ext θ H θ (upd H a o) :=
  ⟨fun _ _ h => h, fun b u hb nb => ⟨by rw [upd_ne (fun e => nb (.inl (by rw [e]; exact List.mem_of_getElem? h)))]; exact hb, nb⟩, fun b hb => ⟨hb, by rw [upd_ne (fun e => R.hdis b hb (by rw [e]; exact List.mem_of_getElem? h))]⟩⟩
theorem RepSt.put {K : PySem.W.Frag} {θ : Th} {H : Hp} {st : Stt} {n : Nat} {a : Addr} {o : HO} {ob : Ob} (R : RepSt K θ H st) (h : θ.l[n]? = some (some a)) (ho : ObRep K θ (upd H a o) a ob) : RepSt K θ (upd H a o) (st.set n ob) := by
  have e := Ext.put (o := o) R h
  have hn : n < st.length := by rw [← R.len]; exact (List.getElem?_eq_some_iff.mp h).1
  refine ⟨by simp [R.len], fun b hb => ?_, R.hdis, R.inj, fun m => ?_⟩
  · obtain ⟨u, hu⟩ := R.hlive b hb
    exact ⟨u, by rw [(e.hid b hb).2]; exact hu⟩
  by_cases hm : m = n
  · subst hm
    rw [List.getElem?_set_self hn]
    cases ob with
    | lst xs => obtain ⟨vs, h1, h2⟩ := ho; exact ⟨a, vs, h, h1, h2⟩
    | dct xs => obtain ⟨vs, h1, h2⟩ := ho; exact ⟨a, vs, h, h1, h2⟩
    | fz xs => obtain ⟨u, vs, h1, h2⟩ := ho; exact ⟨a, u, vs, h, h1, h2⟩
    | ins _ _ => exact (show False from ho).elim
    | dead => exact (show False from ho).elim
  · rw [List.getElem?_set_ne (Ne.symm hm)]
    have ne : ∀ {b}, θ.l[m]? = some (some b) → b ≠ a := fun {b} hb q => hm (R.inj m n a (by rw [← q]; exact hb) h)
    have q := R.obj m
    split at q
    · simp only [*]
    · simp only [*]
    · obtain ⟨b, vs, h1, h2, h3⟩ := q
      simp only [*]
      exact ⟨b, vs, rfl, by rw [upd_ne (ne h1)]; exact h2, h3.mono e⟩
    · obtain ⟨b, vs, h1, h2, h3⟩ := q
      simp only [*]
      exact ⟨b, vs, rfl, by rw [upd_ne (ne h1)]; exact h2, h3.mono e⟩
    · obtain ⟨b, u, vs, h1, h2, h3⟩ := q
      simp only [*]
      exact ⟨b, u, vs, rfl, by rw [upd_ne (ne h1)]; exact h2, h3.mono e⟩
    · exact q.elim
/-! ### the names -/
structure RepE (K : PySem.W.Frag) (θ : Th) (H : Hp) (env : Env) (σ : L2.St) : Prop where
  len : env.length = σ.length
  val : ∀ (i : Nat) (d : D), env[i]? = some (some d) → ∃ v, σ[i]? = some (some v) ∧ Rep K θ H d v
theorem RepE.mono {K : PySem.W.Frag} {θ θ' : Th} {H H' : Hp} {env : Env} {σ : L2.St} (R : RepE K θ H env σ) (e : Ext θ H θ' H') : RepE K θ' H' env σ :=
  ⟨R.len, fun i d h => let ⟨v, h1, h2⟩ := R.val i d h; ⟨v, h1, h2.mono e⟩⟩
theorem RepE.set {K : PySem.W.Frag} {θ : Th} {H : Hp} {env : Env} {σ : L2.St} {i : Nat} {d : D} {v : V} (R : RepE K θ H env σ) (r : Rep K θ H d v) : RepE K θ H (env.set i (some d)) (σ.set i (some v)) := by
  refine ⟨by simp [R.len], fun j e h => ?_⟩
  by_cases hj : j = i
  · subst hj
    by_cases hl : j < env.length
    · rw [List.getElem?_set_self hl] at h
      cases h
      exact ⟨v, List.getElem?_set_self (by rw [← R.len]; exact hl), r⟩
    · rw [List.getElem?_eq_none (by simp; omega)] at h; cases h
  · rw [List.getElem?_set_ne (Ne.symm hj)] at h ⊢
    exact R.val j e h
end DL
set_option maxHeartbeats 4000000
namespace DL
open PySem PySem.Spec PyProof.Rows L2

/-! ### readings of denotations -/
def RepFs (K : PySem.W.Frag) (θ : Th) (H : Hp) : List (Str × D) → List (Str × V) → Prop
  | [], vs => vs = []
  | (k, d) :: ds, vs => ∃ v r, vs = (k, v) :: r ∧ Rep K θ H d v ∧ RepFs K θ H ds r
theorem RepFs.mono {K : PySem.W.Frag} {θ θ' : Th} {H H' : Hp} (e : Ext θ H θ' H') : ∀ {ds : List (Str × D)} {vs : List (Str × V)}, RepFs K θ H ds vs → RepFs K θ' H' ds vs
  | [], _, h => h
  | (k, d) :: ds, _, h => by
    obtain ⟨v, r, hv, h1, h2⟩ := h
    exact ⟨v, r, hv, h1.mono e, RepFs.mono e h2⟩
def RepX (K : PySem.W.Frag) (mg : Str → Option Value) (θ : Th) (H : Hp) (x : Exn) (c : Value) (dd : Option Addr) : Prop :=
  mg x.cls = some c ∧ (x.fs = [] ∨ ∃ d vs, dd = some d ∧ H d = some (.xd vs) ∧ RepFs K θ H x.fs vs)
section
variable {α β γ δ : Type}
abbrev Rl (α β : Type) := Th → Hp → α → β → Prop
def post (X : Cx) (W : WX) (rel : Rl α β) (θ : Th) (H : Hp) (Q : β → Hp → Prop) : Res α → Prop
  | .ok a st => ∀ θ' H' b, Ext θ H θ' H' → RepSt X.K θ' H' st → rel θ' H' a b → Q b H'
  | .exc x st => ∀ θ' H' c dd σ', Ext θ H θ' H' → RepSt X.K θ' H' st → RepX X.K X.mg θ' H' x c dd → W c dd σ' H'
  | .stuck => False
theorem post.mono {X : Cx} {W : WX} {rel : Rl α β} {θ θ1 : Th} {H H1 : Hp} {Q : β → Hp → Prop} {r : Res α} (e : Ext θ H θ1 H1) (h : post X W rel θ H Q r) : post X W rel θ1 H1 Q r := by
  cases r with
  | ok a st => exact fun θ' H' b e' => h θ' H' b (e.trans e')
  | exc x st => exact fun θ' H' c dd σ' e' => h θ' H' c dd σ' (e.trans e')
  | stuck => exact h
theorem post.bind {X : Cx} {W : WX} {rel : Rl α β} {rel' : Rl γ δ} {θ : Th} {H : Hp} {Q : δ → Hp → Prop} {R : β → Hp → Prop} {r : Res α} {g : α → Stt → Res γ} (h : post X W rel' θ H Q (r.bind g))
    (k : ∀ θ1 H1 st1 a b, Ext θ H θ1 H1 → RepSt X.K θ1 H1 st1 → rel θ1 H1 a b → post X W rel' θ1 H1 Q (g a st1) → R b H1) : post X W rel θ H R r := by
  cases r with
  | ok a st => exact fun θ' H' b e hs hr => k θ' H' st a b e hs hr (post.mono e h)
  | exc x st => exact h
  | stuck => exact h
theorem post.imp {X : Cx} {W : WX} {rel : Rl α β} {θ : Th} {H : Hp} {Q R : β → Hp → Prop} {r : Res α} (h : post X W rel θ H Q r) (k : ∀ b H1, Q b H1 → R b H1) : post X W rel θ H R r := by
  cases r with
  | ok a st => exact fun θ' H' b e hs hr => k _ _ (h θ' H' b e hs hr)
  | exc x st => exact h
  | stuck => exact h
def trg (X : Cx) (W : WX) (rel : Rl α β) (f : Env → Stt → Res α) : L2.St → Hp → (β → Hp → Prop) → Prop := fun σ H Q =>
  ∃ θ env st, RepE X.K θ H env σ ∧ RepSt X.K θ H st ∧ post X W rel θ H Q (f env st)
end
abbrev DE := Env → Stt → Res D
abbrev DA := Env → Stt → Res (List D)
abbrev DT := Env → Stt → Res Bool
abbrev trd (X : Cx) (W : WX) (f : DE) : TE := trg X W (Rep X.K) f
abbrev tra (X : Cx) (W : WX) (f : DA) : TA := trg X W (Reps X.K) f
abbrev trt (X : Cx) (W : WX) (f : DT) : TT := trg X W (fun _ _ a b => a = b) f

/-! ### rules weakened and put together -/
theorem _root_.L2.PE.imp {X : Cx} {e : Expr} {t t' : TE} (h : PE X e t) (k : ∀ σ H Q, t' σ H Q → t σ H Q) : PE X e t' := ⟨fun pins s σ H Q I q => h.run pins s σ H Q I (k σ H Q q)⟩
theorem _root_.L2.PT.imp {X : Cx} {e : Expr} {t t' : TT} (h : PT X e t) (k : ∀ σ H Q, t' σ H Q → t σ H Q) : PT X e t' := ⟨fun pins s σ H Q I q => h.run pins s σ H Q I (k σ H Q q)⟩
theorem _root_.L2.PW.imp {X : Cx} {e : Expr} {t t' : TT} (h : PW X e t) (k : ∀ σ H Q, t' σ H Q → t σ H Q) : PW X e t' := ⟨fun wh pins s σ H Q I q => h.run wh pins s σ H Q I (k σ H Q q)⟩
theorem _root_.L2.PA.imp {X : Cx} {e : List Expr} {t t' : TA} (h : PA X e t) (k : ∀ σ H Q, t' σ H Q → t σ H Q) : PA X e t' := ⟨fun p pins s σ H Q I q => h.run p pins s σ H Q I (k σ H Q q)⟩
theorem _root_.L2.PE.or {X : Cx} {e : Expr} {t t' : TE} (h : PE X e t) (h' : PE X e t') : PE X e (fun σ H Q => t σ H Q ∨ t' σ H Q) := ⟨fun pins s σ H Q I q => q.elim (h.run pins s σ H Q I) (h'.run pins s σ H Q I)⟩
structure PD (X : Cx) (W : WX) (e : Expr) (f : DE) : Prop where
  pe : PE X e (trd X W f)
structure PDT (X : Cx) (W : WX) (e : Expr) (f : DT) : Prop where
  pt : PT X e (trt X W f)
structure PDW (X : Cx) (W : WX) (e : Expr) (f : DT) : Prop where
  pw : PW X e (trt X W f)
structure PDA (X : Cx) (W : WX) (e : List Expr) (f : DA) : Prop where
  pa : PA X e (tra X W f)

/-! ### names and constants -/
def eV (i : Nat) : DE := fun env st => match env[i]? with
  | some (some d) => .ok d st
  | _ => .stuck
def eC (d : D) : DE := fun _ st => .ok d st
section
variable {X : Cx} {W : WX}
theorem pd_v (i : Nat) {x : Str} {pos : Pos} (hN : X.N[i]? = some x := by rfl) (hv : Vis X.env.scope x := by first | exact Or.inl rfl | exact Or.inr (Or.inl rfl) | exact Or.inr (Or.inr rfl)) (hd : (x == ("__debug__" : Str)) = false := by decide)
    (hcd : (x == ("__classdict__" : Str)) = false := by decide) : PD X W (.Name x pos) (eV i) := by
  refine ⟨(pe_var hN hv hd hcd).imp ?_⟩
  rintro σ H Q ⟨θ, env, st, hE, hS, hp⟩
  unfold eV at hp
  split at hp
  · rename_i d he
    obtain ⟨v, h1, h2⟩ := hE.val i d he
    exact ⟨v, h1, hp θ H v .refl hS h2⟩
  · exact hp.elim
theorem const_ok {d : D} {v : V} (hr : ∀ θ H, Rep X.K θ H d v) (σ : L2.St) (H : Hp) (Q : VK) (h : trd X W (eC d) σ H Q) : tC v σ H Q := by
  obtain ⟨θ, env, st, hE, hS, hp⟩ := h
  exact hp θ H v .refl hS (hr θ H)
theorem pd_int {i : Int} {j pos} : PD X W (.Constant (.int i) j pos) (eC (.int i)) := ⟨pe_int.imp (const_ok fun _ _ => rfl)⟩
theorem pd_bl {b : Bool} {j pos} : PD X W (.Constant (.bool b) j pos) (eC (.bl b)) := ⟨pe_bl.imp (const_ok fun _ _ => rfl)⟩
theorem pd_non {j pos} : PD X W (.Constant .none j pos) (eC .non) := ⟨pe_non.imp (const_ok fun _ _ => rfl)⟩
theorem pd_str {x : Str} {j pos} : PD X W (.Constant (.str x) j pos) (eC (.str x)) := ⟨pe_str.imp (const_ok fun _ _ => rfl)⟩
theorem pd_gint {x : Str} {i : Int} {t : Tok} {pos : Pos} (hg : Gl X x) (hm : X.mg x = some (.int i t)) (hd : (x == ("__debug__" : Str)) = false := by decide) : PD X W (.Name x pos) (eC (.int i)) := ⟨(pe_glob hg hm (v := .int i) ⟨t, rfl⟩ hd).imp (const_ok fun _ _ => rfl)⟩
theorem pd_ty {x : Str} {n : String} {pos : Pos} (hg : Gl X x) (hm : X.mg x = none) (hv : bootBuiltins x = some (.type n)) (hn : x ≠ "__name__" := by decide) (hd : (x == ("__debug__" : Str)) = false := by decide) : PD X W (.Name x pos) (eC (.ty n)) :=
  ⟨(pe_bltn hg hm hv (v := .ty n) rfl hn hd).imp (const_ok fun _ _ => rfl)⟩

/-! ### argument lists, displays -/
def aNil : DA := fun _ st => .ok [] st
def aCons (f : DE) (g : DA) : DA := fun env st => (f env st).bind fun d st => (g env st).bind fun ds st => .ok (d :: ds) st
theorem pda_nil : PDA X W [] aNil := ⟨pa_nil.imp (by
  rintro σ H Q ⟨θ, env, st, hE, hS, hp⟩
  exact hp θ H [] .refl hS rfl)⟩
theorem pda_cons {e : Expr} {es : List Expr} {f : DE} {g : DA} (ha : PD X W e f) (hr : PDA X W es g) (hs : starEach (e :: es) X.env = (false, eval e X.env) :: starEach es X.env := by rfl) : PDA X W (e :: es) (aCons f g) := by
  refine ⟨(pa_cons ha.pe hr.pa hs).imp ?_⟩
  rintro σ H Q ⟨θ, env, st, hE, hS, hp⟩
  refine ⟨θ, env, st, hE, hS, post.bind hp fun θ1 H1 st1 d v e1 hS1 r1 hp1 => ?_⟩
  refine ⟨θ1, env, st1, hE.mono e1, hS1, post.bind hp1 fun θ2 H2 st2 ds vs e2 hS2 r2 hp2 => ?_⟩
  exact hp2 θ2 H2 (v :: vs) .refl hS2 ⟨v, vs, rfl, r1.mono e2, r2⟩
/-- a new object that is a value -/
theorem new_ok {rel : Rl D V} {θ : Th} {H : Hp} {st : Stt} {d : D} {o : HO} {Q : VK} (hp : post X W (Rep X.K) θ H Q (.ok d st)) (hS : RepSt X.K θ H st) (p : Addr) (hn : H p = none)
    (hr : Rep X.K θ (upd H p o) d (.ref p)) : Q (.ref p) (upd H p o) := hp θ _ _ (Ext.new hS hn) (hS.new hn) hr
def tupD (ds : List D) (st : Stt) : Res D := if ds.length ≤ sizeLine then .ok (.tup ds) st else .stuck
def lstD (ds : List D) (st : Stt) : Res D := if ds.length ≤ sizeLine then .ok (.lst ds) st else .stuck
def lstM (ds : List D) (st : Stt) : Res D := if ds.length ≤ sizeLine then .ok (.loc st.length) (st ++ [.lst ds]) else .stuck
theorem rep_tup {K : PySem.W.Frag} {θ : Th} {H : Hp} {st : Stt} {p : Addr} {ds : List D} {vs : List V} (hS : RepSt K θ H st) (hn : H p = none) (r : Reps K θ H ds vs) : Rep K θ (upd H p (.tup vs)) (.tup ds) (.ref p) :=
  ⟨p, vs, rfl, ⟨.inl upd_same, hS.free hn⟩, r.mono (Ext.new hS hn)⟩
theorem rep_lst {K : PySem.W.Frag} {θ : Th} {H : Hp} {st : Stt} {p : Addr} {ds : List D} {vs : List V} (hS : RepSt K θ H st) (hn : H p = none) (r : Reps K θ H ds vs) : Rep K θ (upd H p (.lst vs)) (.lst ds) (.ref p) :=
  ⟨p, vs, rfl, upd_same, hS.free hn, r.mono (Ext.new hS hn)⟩
theorem post_tup {σ : L2.St} {θ : Th} {H : Hp} {st : Stt} {ds : List D} {vs : List V} {Q : VK} (hp : post X W (Rep X.K) θ H Q (tupD ds st)) (hS : RepSt X.K θ H st) (r : Reps X.K θ H ds vs) :
    vs.length ≤ sizeLine ∧ ∀ p, H p = none → Q (.ref p) (upd H p (.tup vs)) := by
  unfold tupD at hp
  split at hp
  · rename_i hl
    exact ⟨by rw [← r.length]; exact hl, fun p hn => hp θ _ _ (Ext.new hS hn) (hS.new hn) (rep_tup hS hn r)⟩
  · exact hp.elim
theorem post_lst {θ : Th} {H : Hp} {st : Stt} {ds : List D} {vs : List V} {Q : VK} (hp : post X W (Rep X.K) θ H Q (lstD ds st)) (hS : RepSt X.K θ H st) (r : Reps X.K θ H ds vs) :
    vs.length ≤ sizeLine ∧ ∀ p, H p = none → Q (.ref p) (upd H p (.lst vs)) := by
  unfold lstD at hp
  split at hp
  · rename_i hl
    exact ⟨by rw [← r.length]; exact hl, fun p hn => hp θ _ _ (Ext.new hS hn) (hS.new hn) (rep_lst hS hn r)⟩
  · exact hp.elim
theorem post_alloc {θ : Th} {H : Hp} {st : Stt} {ob : Ob} {o : HO} {Q : VK} (hp : post X W (Rep X.K) θ H Q (.ok (.loc st.length) (st ++ [ob]))) (hS : RepSt X.K θ H st) (p : Addr) (hn : H p = none)
    (ho : ObRep X.K (θ.add p) (upd H p o) p ob) : Q (.ref p) (upd H p o) :=
  hp (θ.add p) _ _ (Ext.alloc hS hn) (hS.alloc hn ho) ⟨p, rfl, by show (θ.l ++ [some p])[st.length]? = _; rw [← hS.len]; simp⟩
theorem post_lstM {θ : Th} {H : Hp} {st : Stt} {ds : List D} {vs : List V} {Q : VK} (hp : post X W (Rep X.K) θ H Q (lstM ds st)) (hS : RepSt X.K θ H st) (r : Reps X.K θ H ds vs) :
    vs.length ≤ sizeLine ∧ ∀ p, H p = none → Q (.ref p) (upd H p (.lst vs)) := by
  unfold lstM at hp
  split at hp
  · rename_i hl
    exact ⟨by rw [← r.length]; exact hl, fun p hn => post_alloc hp hS p hn ⟨vs, upd_same, r.mono (Ext.alloc hS hn)⟩⟩
  · exact hp.elim
def eTup (f : DA) : DE := fun env st => (f env st).bind tupD
def eLst (f : DA) : DE := fun env st => (f env st).bind lstD
def eLstM (f : DA) : DE := fun env st => (f env st).bind lstM
theorem pd_tup {es : List Expr} {f : DA} {x1} {pos : Pos} (h : PDA X W es f) : PD X W (.Tuple es x1 pos) (eTup f) := by
  refine ⟨(pe_tup h.pa).imp ?_⟩
  rintro σ H Q ⟨θ, env, st, hE, hS, hp⟩
  exact ⟨θ, env, st, hE, hS, post.bind hp fun θ1 H1 st1 d v e1 hS1 r1 hp1 => post_tup (σ := σ) hp1 hS1 r1⟩
theorem pd_lst {es : List Expr} {f : DA} {pos : Pos} (h : PDA X W es f) : PD X W (.List es pos) (eLst f) := by
  refine ⟨(pe_lst h.pa).imp ?_⟩
  rintro σ H Q ⟨θ, env, st, hE, hS, hp⟩
  exact ⟨θ, env, st, hE, hS, post.bind hp fun θ1 H1 st1 d v e1 hS1 r1 hp1 => post_lst hp1 hS1 r1⟩
theorem pd_lstM {es : List Expr} {f : DA} {pos : Pos} (h : PDA X W es f) : PD X W (.List es pos) (eLstM f) := by
  refine ⟨(pe_lst h.pa).imp ?_⟩
  rintro σ H Q ⟨θ, env, st, hE, hS, hp⟩
  exact ⟨θ, env, st, hE, hS, post.bind hp fun θ1 H1 st1 d v e1 hS1 r1 hp1 => post_lstM hp1 hS1 r1⟩
end

/-! ### what stands behind a place -/
inductive Vw where
  | lst (xs : List D) | dct (kvs : List (Key × D)) | tup (xs : List D) | scr (ns : List Int) | no
def view (st : Stt) : D → Vw
  | .lst xs => .lst xs
  | .dct kvs => .dct kvs
  | .tup xs => .tup xs
  | .scr ns => .scr ns
  | .loc n => match st[n]? with
    | some (.lst xs) => .lst xs
    | some (.dct kvs) => .dct kvs
    | some (.fz kvs) => .dct kvs
    | _ => .no
  | _ => .no
section
variable {K : PySem.W.Frag} {θ : Th} {H : Hp} {st : Stt} {d : D} {v : V}
theorem view_loc {n : Nat} {x : Vw} (e : view st (.loc n) = x) (hx : x ≠ .no) : (∃ xs, st[n]? = some (.lst xs) ∧ x = .lst xs) ∨ (∃ xs, st[n]? = some (.dct xs) ∧ x = .dct xs) ∨ ∃ xs, st[n]? = some (.fz xs) ∧ x = .dct xs := by
  have e : (match st[n]? with | some (.lst xs) => Vw.lst xs | some (.dct kvs) => .dct kvs | some (.fz kvs) => .dct kvs | _ => .no) = x := e
  cases q : st[n]? with
  | none => rw [q] at e; exact absurd e.symm hx
  | some o =>
    rw [q] at e
    cases o with
    | lst xs => exact .inl ⟨xs, rfl, e.symm⟩
    | dct xs => exact .inr (.inl ⟨xs, rfl, e.symm⟩)
    | fz xs => exact .inr (.inr ⟨xs, rfl, e.symm⟩)
    | ins _ _ => exact absurd e.symm hx
    | dead => exact absurd e.symm hx
theorem view_lst {xs : List D} (hS : RepSt K θ H st) (r : Rep K θ H d v) (e : view st d = .lst xs) : ∃ a vs, v = .ref a ∧ H a = some (.lst vs) ∧ Reps K θ H xs vs := by
  cases d with
  | lst ys =>
    have e : ys = xs := by injection e
    subst e
    obtain ⟨a, vs, hv, h1, _, h2⟩ := r
    exact ⟨a, vs, hv, h1, h2⟩
  | loc n =>
    rcases view_loc e (by intro z; cases z) with ⟨ys, q, e⟩ | ⟨ys, q, e⟩ | ⟨ys, q, e⟩
    · injection e with e; subst e
      obtain ⟨a, vs, h0, h1, h2⟩ := hS.lst q
      obtain ⟨a', hv, h3⟩ := r
      rw [h0] at h3; cases h3
      exact ⟨a, vs, hv, h1, h2⟩
    · cases e
    · cases e
  | _ => cases e
theorem view_dct {xs : List (Key × D)} (hS : RepSt K θ H st) (r : Rep K θ H d v) (e : view st d = .dct xs) : ∃ a vs, v = .ref a ∧ Rd H a (.dK vs) ∧ RepKs K θ H xs vs := by
  cases d with
  | dct ys =>
    have e : ys = xs := by injection e
    subst e
    obtain ⟨a, vs, hv, h1, h2⟩ := r
    exact ⟨a, vs, hv, h1.1, h2⟩
  | loc n =>
    rcases view_loc e (by intro z; cases z) with ⟨ys, q, e⟩ | ⟨ys, q, e⟩ | ⟨ys, q, e⟩
    · cases e
    · injection e with e; subst e
      obtain ⟨a, vs, h0, h1, h2⟩ := hS.dct q
      obtain ⟨a', hv, h3⟩ := r
      rw [h0] at h3; cases h3
      exact ⟨a, vs, hv, .inl h1, h2⟩
    · injection e with e; subst e
      obtain ⟨a, o, vs, h0, h1, h2⟩ := hS.fz q
      obtain ⟨a', hv, h3⟩ := r
      rw [h0] at h3; cases h3
      exact ⟨a, vs, hv, .inr ⟨o, h1⟩, h2⟩
  | _ => cases e
theorem view_tup {xs : List D} (r : Rep K θ H d v) (e : view st d = .tup xs) : ∃ a vs, v = .ref a ∧ Tr θ H a (.tup vs) ∧ Reps K θ H xs vs := by
  cases d with
  | tup ys =>
    have e : ys = xs := by injection e
    subst e
    exact r
  | loc n => rcases view_loc e (by intro z; cases z) with ⟨ys, q, e⟩ | ⟨ys, q, e⟩ | ⟨ys, q, e⟩ <;> cases e
  | _ => cases e
theorem view_scr {ns : List Int} (r : Rep K θ H d v) (e : view st d = .scr ns) : ∃ a, v = .ref a ∧ SqL K H a (ns.map V.int) := by
  cases d with
  | scr ys =>
    have e : ys = ns := by injection e
    subst e
    obtain ⟨a, hv, h⟩ := r
    exact ⟨a, hv, h.imp (fun t => t.1) id⟩
  | loc n => rcases view_loc e (by intro z; cases z) with ⟨ys, q, e⟩ | ⟨ys, q, e⟩ | ⟨ys, q, e⟩ <;> cases e
  | _ => cases e
end

/-! ### equality -/
mutual
def toPy : D → Option PyData
  | .non => some .none
  | .bl b => some (.bool b)
  | .int i => some (.int i)
  | .str s => some (.str s)
  | .tup xs => (toPys xs).map .tuple
  | .lst xs => (toPys xs).map .list
  | _ => none
def toPys : List D → Option (List PyData)
  | [] => some []
  | x :: xs => match toPy x, toPys xs with
    | some d, some ds => some (d :: ds)
    | _, _ => none
end
def toPyV (st : Stt) (d : D) : Option PyData := match d with
  | .loc _ => match view st d with
    | .lst xs => (toPys xs).map .list
    | _ => none
  | _ => toPy d
section
variable {K : PySem.W.Frag} {θ : Th} {H : Hp}
mutual
theorem dp_of : ∀ (d : D) (v : V) (p : PyData), Rep K θ H d v → toPy d = some p → Dp K H v p
  | .non, v, p, r, e => by cases r; cases e; exact .non
  | .bl b, v, p, r, e => by cases r; cases e; exact .bl b
  | .int i, v, p, r, e => by cases r; cases e; exact .int i
  | .str s, v, p, r, e => by cases r; cases e; exact .str s
  | .tup xs, v, p, r, e => by
    obtain ⟨a, vs, rfl, ht, hr⟩ := r
    simp only [toPy, Option.map_eq_some_iff] at e
    obtain ⟨ds, e, rfl⟩ := e
    exact .tup (.inl ht.1) (dps_of xs vs ds hr e)
  | .lst xs, v, p, r, e => by
    obtain ⟨a, vs, rfl, ht, _, hr⟩ := r
    simp only [toPy, Option.map_eq_some_iff] at e
    obtain ⟨ds, e, rfl⟩ := e
    exact .lst (.inl (.inl ht)) (dps_of xs vs ds hr e)
  | .ty s, v, p, r, e => by simp [toPy] at e
  | .dct s, v, p, r, e => by simp [toPy] at e
  | .loc s, v, p, r, e => by simp [toPy] at e
  | .scr s, v, p, r, e => by simp [toPy] at e
  | .fn s, v, p, r, e => by simp [toPy] at e
theorem dps_of : ∀ (xs : List D) (vs : List V) (ps : List PyData), Reps K θ H xs vs → toPys xs = some ps → DpAll K H vs ps
  | [], vs, ps, r, e => by cases (show vs = [] from r); simp only [toPys, Option.some.injEq] at e; subst e; exact .nil
  | x :: xs, vs, ps, r, e => by
    obtain ⟨v, q, rfl, h1, h2⟩ := r
    simp only [toPys] at e
    split at e
    · rename_i d ds e1 e2
      cases e
      exact .cons (dp_of x v d h1 e1) (dps_of xs q ds h2 e2)
    · cases e
end
theorem dpv_of {st : Stt} {d : D} {v : V} {p : PyData} (hS : RepSt K θ H st) (r : Rep K θ H d v) (e : toPyV st d = some p) : Dp K H v p := by
  cases d <;> simp only [toPyV] at e <;> try (exact dp_of _ _ _ r e)
  rename_i n
  split at e
  · rename_i xs q
    simp only [Option.map_eq_some_iff] at e
    obtain ⟨ds, e, rfl⟩ := e
    obtain ⟨a, vs, rfl, h1, h2⟩ := view_lst hS r q
    exact .lst (.inl (.inl h1)) (dps_of xs vs ds h2 e)
  · cases e
end
def eqD (neg : Bool) (x y : D) (st : Stt) : Res D := match toPyV st x, toPyV st y with
  | some d, some e => if SeqAt.shaped d = true ∧ SeqAt.shaped e = true then .ok (.bl (if neg then !PyData.eqv d e else PyData.eqv d e)) st else .stuck
  | _, _ => .stuck

/-! ### operators by values -/
abbrev Op2 := D → D → Stt → Res D
def Snd2 (X : Cx) (W : WX) (op : Op2) (r : R2) : Prop := ∀ θ H st d1 d2 x y Q, RepSt X.K θ H st → Rep X.K θ H d1 x → Rep X.K θ H d2 y → post X W (Rep X.K) θ H Q (op d1 d2 st) → r x y H Q
def e2 (op : Op2) (f g : DE) : DE := fun env st => (f env st).bind fun x st => (g env st).bind fun y st => op x y st
section
variable {X : Cx} {W : WX} {a b c : Expr} {f g h : DE} {pos : Pos}
theorem bin_ok {op : Op2} {r : R2} (so : Snd2 X W op r) (σ : L2.St) (H : Hp) (Q : VK) (hq : trd X W (e2 op f g) σ H Q) : tOp r (trd X W f) (trd X W g) σ H Q := by
  obtain ⟨θ, env, st, hE, hS, hp⟩ := hq
  refine ⟨θ, env, st, hE, hS, post.bind hp fun θ1 H1 st1 d v e1 hS1 r1 hp1 => ?_⟩
  refine ⟨θ1, env, st1, hE.mono e1, hS1, post.bind hp1 fun θ2 H2 st2 d2 v2 e2 hS2 r2 hp2 => ?_⟩
  exact so θ2 H2 st2 d d2 v v2 Q hS2 (r1.mono e2) r2 hp2
theorem pd_op {o : Operator} {op : Op2} {r : R2} (ho : OpR X (binaryOp o) r) (so : Snd2 X W op r) (ha : PD X W a f) (hb : PD X W b g) : PD X W (.BinOp a o b pos) (e2 op f g) := ⟨(pe_op ho ha.pe hb.pe).imp (bin_ok so)⟩
theorem pd_cmpR {o : CmpOp} {op : Op2} {r : R2} (ho : OpR X (compareOp o) r) (so : Snd2 X W op r) (ha : PD X W a f) (hb : PD X W b g) (hm : behindInMarks o b = false) : PD X W (.Compare a [o] [b] pos) (e2 op f g) := ⟨(pe_cmpR ho ha.pe hb.pe hm).imp (bin_ok so)⟩
/-- its answer a truth -/
def isBl (d : D) (st : Stt) : Res Bool := match d with
  | .bl b => .ok b st
  | _ => .stuck
def tV (f : DE) : DT := fun env st => (f env st).bind isBl
theorem test_ok {t : TE} (ht : ∀ σ H Q, trd X W f σ H Q → t σ H Q) (σ : L2.St) (H : Hp) (Q : Bool → Hp → Prop) (hq : trt X W (tV f) σ H Q) : tTest t σ H Q := by
  obtain ⟨θ, env, st, hE, hS, hp⟩ := hq
  refine ht σ H _ ⟨θ, env, st, hE, hS, post.bind hp fun θ1 H1 st1 d v e1 hS1 r1 hp1 => ?_⟩
  cases d <;> try (exact (show False from hp1).elim)
  exact ⟨_, r1, hp1 θ1 H1 _ .refl hS1 rfl⟩
theorem pdt_cmpR {o : CmpOp} {op : Op2} {r : R2} (ho : OpR X (compareOp o) r) (so : Snd2 X W op r) (ha : PD X W a f) (hb : PD X W b g) (hm : behindInMarks o b = false) : PDT X W (.Compare a [o] [b] pos) (tV (e2 op f g)) := ⟨(pt_cmpR ho ha.pe hb.pe hm).imp (test_ok (bin_ok so))⟩
theorem pdt_val {e : Expr} (he : PD X W e f) (hm : ∀ whole, isTrue e X.env whole = (do let v ← whole; standAt e.pos; holding [v] (truthy v)) := by intro _; rfl) : PDT X W e (tV f) := ⟨(pt_val he.pe hm).imp (test_ok fun _ _ _ h => h)⟩

/-! ### == and != -/
def rEq2 (K : PySem.W.Frag) (neg : Bool) : R2 := fun x y H Q => ∃ d e, Dp K H x d ∧ Dp K H y e ∧ SeqAt.shaped d = true ∧ SeqAt.shaped e = true ∧ Q (.bl (if neg then !PyData.eqv d e else PyData.eqv d e)) H
theorem snd_eq (neg : Bool) : Snd2 X W (eqD neg) (rEq2 X.K neg) := by
  intro θ H st d1 d2 x y Q hS r1 r2 hp
  unfold eqD at hp
  split at hp
  · rename_i p q e1 e2
    split at hp
    · rename_i hsh
      exact ⟨p, q, dpv_of hS r1 e1, dpv_of hS r2 e2, hsh.1, hsh.2, hp θ H _ .refl hS rfl⟩
    · exact hp.elim
  · exact hp.elim
theorem pd_eq (hu : X.A.units + 65 < cLine) (ha : PD X W a f) (hb : PD X W b g) : PD X W (.Compare a [.Eq] [b] pos) (e2 (eqD false) f g) := pd_cmpR (op_eqD (by omega)) (snd_eq false) ha hb (nomark _)
theorem pd_ne (hu : X.A.units + 65 < cLine) (ha : PD X W a f) (hb : PD X W b g) : PD X W (.Compare a [.NotEq] [b] pos) (e2 (eqD true) f g) := pd_cmpR (op_neD (by omega)) (snd_eq true) ha hb (nomark _)
theorem pdt_eq (hu : X.A.units + 65 < cLine) (ha : PD X W a f) (hb : PD X W b g) : PDT X W (.Compare a [.Eq] [b] pos) (tV (e2 (eqD false) f g)) := pdt_cmpR (op_eqD (by omega)) (snd_eq false) ha hb (nomark _)
theorem pdt_ne (hu : X.A.units + 65 < cLine) (ha : PD X W a f) (hb : PD X W b g) : PDT X W (.Compare a [.NotEq] [b] pos) (tV (e2 (eqD true) f g)) := pdt_cmpR (op_neD (by omega)) (snd_eq true) ha hb (nomark _)

/-! ### order of ints -/
def cmpI (p : Int → Int → Bool) : Op2 := fun x y st => match x, y with
  | .int i, .int j => .ok (.bl (p i j)) st
  | _, _ => .stuck
def ltD : Op2 := cmpI fun i j => decide (i < j)
def leD : Op2 := cmpI fun i j => decide (i ≤ j)
def gtD : Op2 := cmpI fun i j => decide (j < i)
def geD : Op2 := cmpI fun i j => decide (j ≤ i)
theorem snd_cmpI (p : Int → Int → Bool) : Snd2 X W (cmpI p) (rI0 fun i j => .bl (p i j)) := by
  intro θ H st d1 d2 x y Q hS r1 r2 hp
  unfold cmpI at hp
  split at hp
  · cases r1; cases r2
    exact ⟨_, _, rfl, rfl, hp θ H _ .refl hS rfl⟩
  · exact hp.elim
theorem pd_lt (ha : PD X W a f) (hb : PD X W b g) : PD X W (.Compare a [.Lt] [b] pos) (e2 ltD f g) := pd_cmpR op_lt (snd_cmpI _) ha hb (nomark _)
theorem pd_le (ha : PD X W a f) (hb : PD X W b g) : PD X W (.Compare a [.LtE] [b] pos) (e2 leD f g) := pd_cmpR op_le (snd_cmpI _) ha hb (nomark _)
theorem pd_gt (ha : PD X W a f) (hb : PD X W b g) : PD X W (.Compare a [.Gt] [b] pos) (e2 gtD f g) := pd_cmpR op_gt (snd_cmpI _) ha hb (nomark _)
theorem pd_ge (ha : PD X W a f) (hb : PD X W b g) : PD X W (.Compare a [.GtE] [b] pos) (e2 geD f g) := pd_cmpR op_ge (snd_cmpI _) ha hb (nomark _)
theorem pdt_lt (ha : PD X W a f) (hb : PD X W b g) : PDT X W (.Compare a [.Lt] [b] pos) (tV (e2 ltD f g)) := pdt_cmpR op_lt (snd_cmpI _) ha hb (nomark _)
theorem pdt_le (ha : PD X W a f) (hb : PD X W b g) : PDT X W (.Compare a [.LtE] [b] pos) (tV (e2 leD f g)) := pdt_cmpR op_le (snd_cmpI _) ha hb (nomark _)
theorem pdt_gt (ha : PD X W a f) (hb : PD X W b g) : PDT X W (.Compare a [.Gt] [b] pos) (tV (e2 gtD f g)) := pdt_cmpR op_gt (snd_cmpI _) ha hb (nomark _)
theorem pdt_ge (ha : PD X W a f) (hb : PD X W b g) : PDT X W (.Compare a [.GtE] [b] pos) (tV (e2 geD f g)) := pdt_cmpR op_ge (snd_cmpI _) ha hb (nomark _)
/-- a <= b <= c -/
def eChain (f g h : DE) : DE := fun env st => (f env st).bind fun x st => (g env st).bind fun y st => (leD x y st).bind fun z st => (isBl z st).bind fun k st => if k = true then (h env st).bind fun w st => leD y w st else .ok (.bl false) st
theorem chain_ok (σ : L2.St) (H : Hp) (Q : VK) (hq : trd X W (eChain f g h) σ H Q) : tChain (rI0 fun i j => .bl (decide (i ≤ j))) (rI0 fun i j => .bl (decide (i ≤ j))) (trd X W f) (trd X W g) (trd X W h) σ H Q := by
  obtain ⟨θ, env, st, hE, hS, hp⟩ := hq
  refine ⟨θ, env, st, hE, hS, post.bind hp fun θ1 H1 st1 d v e1 hS1 r1 hp1 => ?_⟩
  refine ⟨θ1, env, st1, hE.mono e1, hS1, post.bind hp1 fun θ2 H2 st2 d2 v2 e2 hS2 r2 hp2 => ?_⟩
  refine snd_cmpI (X := X) (W := W) (fun i j => decide (i ≤ j)) θ2 H2 st2 d d2 v v2 _ hS2 (r1.mono e2) r2 (post.bind hp2 fun θ3 H3 st3 d3 v3 e3 hS3 r3 hp3 => ?_)
  cases d3 <;> try (exact (show False from hp3).elim)
  rename_i k
  have hp3 : post X W (Rep X.K) θ3 H3 Q (if k = true then (h env st3).bind fun w st => leD d2 w st else .ok (.bl false) st3) := hp3
  refine ⟨k, r3, ?_⟩
  cases k with
  | false => exact hp3 θ3 H3 _ .refl hS3 rfl
  | true =>
    refine ⟨θ3, env, st3, ((hE.mono e1).mono e2).mono e3, hS3, post.bind hp3 fun θ4 H4 st4 d4 v4 e4 hS4 r4 hp4 => ?_⟩
    exact snd_cmpI (X := X) (W := W) (fun i j => decide (i ≤ j)) θ4 H4 st4 d2 d4 v2 v4 _ hS4 ((r2.mono e3).mono e4) r4 hp4
theorem pd_chain (ha : PD X W a f) (hb : PD X W b g) (hc : PD X W c h) (hm : lastMarks [CmpOp.LtE, CmpOp.LtE] [b, c] = false := by with_unfolding_all rfl) : PD X W (.Compare a [.LtE, .LtE] [b, c] pos) (eChain f g h) := ⟨(pe_chain op_le op_le ha.pe hb.pe hc.pe hm).imp chain_ok⟩
theorem pdt_chain (ha : PD X W a f) (hb : PD X W b g) (hc : PD X W c h) (hm : lastMarks [CmpOp.LtE, CmpOp.LtE] [b, c] = false := by with_unfolding_all rfl) : PDT X W (.Compare a [.LtE, .LtE] [b, c] pos) (tV (eChain f g h)) := ⟨(pt_chain op_le op_le ha.pe hb.pe hc.pe hm).imp (test_ok chain_ok)⟩

/-! ### is None -/
def isNon : D → Bool
  | .non => true
  | _ => false
def eIsN (neg : Bool) (f : DE) : DE := fun env st => (f env st).bind fun x st => .ok (.bl (if neg then !isNon x else isNon x)) st
theorem isNon_rep {K : PySem.W.Frag} {θ : Th} {H : Hp} {d : D} {v : V} (r : Rep K θ H d v) : decide (v = .non) = isNon d := by
  cases d with
  | non => cases r; rfl
  | bl _ => cases r; rfl
  | int _ => cases r; rfl
  | str _ => cases r; rfl
  | ty _ => cases r; rfl
  | fn _ => cases r; rfl
  | tup _ => obtain ⟨_, _, rfl, _⟩ := r; rfl
  | lst _ => obtain ⟨_, _, rfl, _⟩ := r; rfl
  | dct _ => obtain ⟨_, _, rfl, _⟩ := r; rfl
  | loc _ => obtain ⟨_, rfl, _⟩ := r; rfl
  | scr _ => obtain ⟨_, rfl, _⟩ := r; rfl
theorem isN_ok (σ : L2.St) (H : Hp) (Q : VK) (hq : trd X W (eIsN false f) σ H Q) : tIsN (trd X W f) σ H Q := by
  obtain ⟨θ, env, st, hE, hS, hp⟩ := hq
  refine ⟨θ, env, st, hE, hS, post.bind hp fun θ1 H1 st1 d v e1 hS1 r1 hp1 => ?_⟩
  rw [isNon_rep r1]
  exact hp1 θ1 H1 _ .refl hS1 rfl
theorem notN_ok (σ : L2.St) (H : Hp) (Q : VK) (hq : trd X W (eIsN true f) σ H Q) : tNotN (trd X W f) σ H Q := by
  obtain ⟨θ, env, st, hE, hS, hp⟩ := hq
  refine ⟨θ, env, st, hE, hS, post.bind hp fun θ1 H1 st1 d v e1 hS1 r1 hp1 => ?_⟩
  rw [isNon_rep r1]
  exact hp1 θ1 H1 _ .refl hS1 rfl
theorem pd_isN {j p} (ha : PD X W a f) : PD X W (.Compare a [.Is] [.Constant .none j p] pos) (eIsN false f) := ⟨(pe_cmp (pc_isN ha.pe)).imp isN_ok⟩
theorem pd_notN {j p} (ha : PD X W a f) : PD X W (.Compare a [.IsNot] [.Constant .none j p] pos) (eIsN true f) := ⟨(pe_cmp (pc_notN ha.pe)).imp notN_ok⟩
theorem pdt_isN {j p} (ha : PD X W a f) : PDT X W (.Compare a [.Is] [.Constant .none j p] pos) (tV (eIsN false f)) := ⟨(pt_cmp (pc_isN ha.pe)).imp (test_ok isN_ok)⟩
theorem pdt_notN {j p} (ha : PD X W a f) : PDT X W (.Compare a [.IsNot] [.Constant .none j p] pos) (tV (eIsN true f)) := ⟨(pt_cmp (pc_notN ha.pe)).imp (test_ok notN_ok)⟩

/-! ### and, or, not, a if c else b -/
variable {tf tg : DT} {rest : List Expr}
def tyAnd (f g : DT) : DT := fun env st => (f env st).bind fun k st => if k = true then g env st else .ok false st
def tyOr (f g : DT) : DT := fun env st => (f env st).bind fun k st => if k = true then .ok true st else g env st
def tyNot (f : DT) : DT := fun env st => (f env st).bind fun k st => .ok (!k) st
theorem pdw_and1 (ha : PDT X W a tf) : PDW X W (.BoolOp .And [a] pos) tf := ⟨pw_and1 ha.pt⟩
theorem pdw_or1 (ha : PDT X W a tf) : PDW X W (.BoolOp .Or [a] pos) tf := ⟨pw_or1 ha.pt⟩
theorem pdw_and (ha : PDT X W a tf) (hb : PDW X W (.BoolOp .And (b :: rest) pos) tg) : PDW X W (.BoolOp .And (a :: b :: rest) pos) (tyAnd tf tg) := by
  refine ⟨(pw_and ha.pt hb.pw).imp ?_⟩
  rintro σ H Q ⟨θ, env, st, hE, hS, hp⟩
  refine ⟨θ, env, st, hE, hS, post.bind hp fun θ1 H1 st1 d v e1 hS1 r1 hp1 => ?_⟩
  subst r1
  cases d with
  | true => exact ⟨θ1, env, st1, hE.mono e1, hS1, hp1⟩
  | false => exact hp1 θ1 H1 _ .refl hS1 rfl
theorem pdw_or (ha : PDT X W a tf) (hb : PDW X W (.BoolOp .Or (b :: rest) pos) tg) : PDW X W (.BoolOp .Or (a :: b :: rest) pos) (tyOr tf tg) := by
  refine ⟨(pw_or ha.pt hb.pw).imp ?_⟩
  rintro σ H Q ⟨θ, env, st, hE, hS, hp⟩
  refine ⟨θ, env, st, hE, hS, post.bind hp fun θ1 H1 st1 d v e1 hS1 r1 hp1 => ?_⟩
  subst r1
  cases d with
  | false => exact ⟨θ1, env, st1, hE.mono e1, hS1, hp1⟩
  | true => exact hp1 θ1 H1 _ .refl hS1 rfl
theorem PDW.t {e : Expr} (h : PDW X W e tf) : PDT X W e tf := ⟨h.pw.pt⟩
theorem pdt_not (ha : PDT X W a tf) : PDT X W (.UnaryOp .Not a pos) (tyNot tf) := by
  refine ⟨(pt_not ha.pt).imp ?_⟩
  rintro σ H Q ⟨θ, env, st, hE, hS, hp⟩
  refine ⟨θ, env, st, hE, hS, post.bind hp fun θ1 H1 st1 d v e1 hS1 r1 hp1 => ?_⟩
  subst r1
  exact hp1 θ1 H1 _ .refl hS1 rfl
def eAnd (f g : DE) : DE := fun env st => (f env st).bind fun x st => (isBl x st).bind fun k st => if k = true then g env st else .ok (.bl false) st
def eOr (f g : DE) : DE := fun env st => (f env st).bind fun x st => (isBl x st).bind fun k st => if k = true then .ok (.bl true) st else g env st
def eNot (f : DE) : DE := fun env st => (f env st).bind fun x st => (isBl x st).bind fun k st => .ok (.bl (!k)) st
theorem pd_one {op} (ha : PD X W a f) : PD X W (.BoolOp op [a] pos) f := ⟨pe_one ha.pe⟩
theorem pd_and (ha : PD X W a f) (hb : PD X W (.BoolOp .And (b :: rest) pos) g) : PD X W (.BoolOp .And (a :: b :: rest) pos) (eAnd f g) := by
  refine ⟨(pe_and ha.pe hb.pe).imp ?_⟩
  rintro σ H Q ⟨θ, env, st, hE, hS, hp⟩
  refine ⟨θ, env, st, hE, hS, post.bind hp fun θ1 H1 st1 d v e1 hS1 r1 hp1 => ?_⟩
  cases d <;> try (exact (show False from hp1).elim)
  rename_i k
  refine ⟨k, r1, ?_⟩
  cases k with
  | true => exact ⟨θ1, env, st1, hE.mono e1, hS1, hp1⟩
  | false => exact hp1 θ1 H1 _ .refl hS1 rfl
theorem pd_or (ha : PD X W a f) (hb : PD X W (.BoolOp .Or (b :: rest) pos) g) : PD X W (.BoolOp .Or (a :: b :: rest) pos) (eOr f g) := by
  refine ⟨(pe_or ha.pe hb.pe).imp ?_⟩
  rintro σ H Q ⟨θ, env, st, hE, hS, hp⟩
  refine ⟨θ, env, st, hE, hS, post.bind hp fun θ1 H1 st1 d v e1 hS1 r1 hp1 => ?_⟩
  cases d <;> try (exact (show False from hp1).elim)
  rename_i k
  refine ⟨k, r1, ?_⟩
  cases k with
  | false => exact ⟨θ1, env, st1, hE.mono e1, hS1, hp1⟩
  | true => exact hp1 θ1 H1 _ .refl hS1 rfl
theorem pd_not (ha : PD X W a f) : PD X W (.UnaryOp .Not a pos) (eNot f) := by
  refine ⟨(pe_not ha.pe).imp ?_⟩
  rintro σ H Q ⟨θ, env, st, hE, hS, hp⟩
  refine ⟨θ, env, st, hE, hS, post.bind hp fun θ1 H1 st1 d v e1 hS1 r1 hp1 => ?_⟩
  cases d <;> try (exact (show False from hp1).elim)
  rename_i k
  exact ⟨k, r1, hp1 θ1 H1 _ .refl hS1 rfl⟩
def eIf (t : DT) (f g : DE) : DE := fun env st => (t env st).bind fun k st => if k = true then f env st else g env st
theorem pd_if (hc : PDT X W c tf) (ha : PD X W a f) (hb : PD X W b g) : PD X W (.IfExp c a b pos) (eIf tf f g) := by
  refine ⟨(pe_ifExp hc.pt ha.pe hb.pe).imp ?_⟩
  rintro σ H Q ⟨θ, env, st, hE, hS, hp⟩
  refine ⟨θ, env, st, hE, hS, post.bind hp fun θ1 H1 st1 d v e1 hS1 r1 hp1 => ?_⟩
  subst r1
  cases d with
  | true => exact ⟨θ1, env, st1, hE.mono e1, hS1, hp1⟩
  | false => exact ⟨θ1, env, st1, hE.mono e1, hS1, hp1⟩
end
end DL
set_option maxHeartbeats 4000000
namespace DL
open PySem PySem.Spec PyProof.Rows L2

/-! ### arithmetic -/
def MulOk (i j : Int) : Prop := (-(2 ^ 64) < i ∧ i < 2 ^ 64) ∨ (-(2 ^ 64) < j ∧ j < 2 ^ 64) ∨ i.natAbs.log2 + j.natAbs.log2 < 1000000
instance (i j : Int) : Decidable (MulOk i j) := by unfold MulOk; infer_instance
theorem MulOk.ok {i j : Int} (h : MulOk i j) : IntMulOk i j := by
  rcases h with h | h | h
  · exact CMul.ok (.inl h)
  · exact CMul.ok (.inr h)
  · exact CMulW.ok h
def DivOk (j : Int) : Prop := 0 < j ∧ j.natAbs.log2 < 9000
instance (j : Int) : Decidable (DivOk j) := by unfold DivOk; infer_instance
def PowOk (i j : Int) : Prop := 0 ≤ j ∧ j ≤ 1000000 ∧ i.natAbs < 2 ^ 64
instance (i j : Int) : Decidable (PowOk i j) := by unfold PowOk; infer_instance
def addD : Op2 := fun x y st => match x, y with
  | .int i, .int j => .ok (.int (i + j)) st
  | .str i, .str j => if i.length + j.length ≤ sizeLine then .ok (.str (i ++ j)) st else .stuck
  | .bl a, .int j => .ok (.int ((if a = true then (1 : Int) else 0) + j)) st
  | x, y => match view st x, view st y with
    | .tup xs, .tup ys => if xs.length + ys.length ≤ sizeLine then .ok (.tup (xs ++ ys)) st else .stuck
    | .lst xs, .lst ys => if xs.length + ys.length ≤ sizeLine then .ok (.lst (xs ++ ys)) st else .stuck
    | _, _ => .stuck
def subD : Op2 := fun x y st => match x, y with
  | .int i, .int j => .ok (.int (i - j)) st
  | _, _ => .stuck
def mulD : Op2 := fun x y st => match x, y with
  | .int i, .int j => if MulOk i j then .ok (.int (i * j)) st else .stuck
  | x, .int k => match view st x with
    | .tup xs => if xs ≠ [] ∧ 2 ≤ k ∧ k ≤ 1000 ∧ xs.length ≤ 1000 then .ok (.tup (List.replicate k.toNat xs).flatten) st else .stuck
    | .lst xs => if -(2 ^ 63) ≤ k ∧ k < 2 ^ 63 ∧ xs.length * k.toNat ≤ sizeLine then .ok (.lst (List.replicate k.toNat xs).flatten) st else .stuck
    | _ => .stuck
  | _, _ => .stuck
def divD : Op2 := fun x y st => match x, y with
  | .int i, .int j => if DivOk j then .ok (.int (i / j)) st else .stuck
  | _, _ => .stuck
def modD : Op2 := fun x y st => match x, y with
  | .int i, .int j => if 0 < j then .ok (.int (i % j)) st else .stuck
  | _, _ => .stuck
def powD : Op2 := fun x y st => match x, y with
  | .int i, .int j => if PowOk i j then .ok (.int (i ^ j.toNat)) st else .stuck
  | _, _ => .stuck
theorem reps_rep {K : PySem.W.Frag} {θ : Th} {H : Hp} {xs : List D} {vs : List V} (r : Reps K θ H xs vs) : ∀ n : Nat, Reps K θ H (List.replicate n xs).flatten (List.replicate n vs).flatten
  | 0 => by simp [Reps]
  | n + 1 => by
    rw [List.replicate_succ, List.replicate_succ, List.flatten_cons, List.flatten_cons]
    exact r.append (reps_rep r n)
section
variable {X : Cx} {W : WX} {a b c : Expr} {f g h : DE} {pos : Pos}
def rAddS : R2 := fun x y H Q => ∃ i j, x = .str i ∧ y = .str j ∧ i.length + j.length ≤ sizeLine ∧ Q (.str (i ++ j)) H
def rAddB : R2 := fun x y H Q => ∃ (a : Bool) (j : Int), x = .bl a ∧ y = .int j ∧ Q (.int ((if a = true then (1 : Int) else 0) + j)) H
theorem op_add_bi : OpR X (binaryOp .Add) rAddB := by
  intro pins s σ H x y v u Q I rx ry h
  obtain ⟨i, k, rfl, rfl, q⟩ := h
  cases rx
  obtain ⟨t, rfl⟩ := ry
  exact PySem.IntBool.add_bool_int ⟨.int _, H, I.tok _, ⟨_, rfl⟩, q⟩
abbrev rAdd4 (K : PySem.W.Frag) : R2 := fun x y H Q => rI0 (fun i j => .int (i + j)) x y H Q ∨ (rAddS x y H Q ∨ (rAddB x y H Q ∨ (rCatA K x y H Q ∨ rCat x y H Q)))
theorem op_add4 : OpR X (binaryOp .Add) (rAdd4 X.K) := OpR.or op_add (OpR.or op_add_str (OpR.or op_add_bi (OpR.or op_catA op_cat)))
theorem snd_add : Snd2 X W addD (rAdd4 X.K) := by
  intro θ H st d1 d2 x y Q hS r1 r2 hp
  unfold addD at hp
  split at hp
  · cases r1; cases r2
    exact .inl ⟨_, _, rfl, rfl, hp θ H _ .refl hS rfl⟩
  · split at hp
    · rename_i hl
      cases r1; cases r2
      exact .inr (.inl ⟨_, _, rfl, rfl, hl, hp θ H _ .refl hS rfl⟩)
    · exact hp.elim
  · cases r1; cases r2
    exact .inr (.inr (.inl ⟨_, _, rfl, rfl, hp θ H _ .refl hS rfl⟩))
  · split at hp
    · rename_i xs ys q1 q2
      split at hp
      · rename_i hl
        obtain ⟨a, vs, rfl, t1, s1⟩ := view_tup r1 q1
        obtain ⟨b, us, rfl, t2, s2⟩ := view_tup r2 q2
        have l1 := s1.length
        have l2 := s2.length
        refine .inr (.inr (.inr (.inl ⟨a, b, vs, us, rfl, rfl, .inl t1.1, .inl t2.1, by omega, fun e => ?_, fun _ e => ?_, fun _ _ p hn => hp θ _ _ (Ext.new hS hn) (hS.new hn) (rep_tup hS hn (s1.append s2))⟩)))
        · subst e
          have : xs = [] := List.length_eq_zero_iff.mp (by simpa using l1)
          subst this
          exact hp θ H _ .refl hS ⟨b, us, rfl, t2, s2⟩
        · subst e
          have : ys = [] := List.length_eq_zero_iff.mp (by simpa using l2)
          subst this
          rw [List.append_nil] at hp
          exact hp θ H _ .refl hS ⟨a, vs, rfl, t1, s1⟩
      · exact hp.elim
    · rename_i xs ys q1 q2
      split at hp
      · rename_i hl
        obtain ⟨a, vs, rfl, t1, s1⟩ := view_lst hS r1 q1
        obtain ⟨b, us, rfl, t2, s2⟩ := view_lst hS r2 q2
        have l1 := s1.length
        have l2 := s2.length
        exact .inr (.inr (.inr (.inr ⟨a, b, vs, us, rfl, rfl, t1, t2, by omega, fun p hn => hp θ _ _ (Ext.new hS hn) (hS.new hn) (rep_lst hS hn (s1.append s2))⟩)))
      · exact hp.elim
    · exact hp.elim
theorem pd_add (ha : PD X W a f) (hb : PD X W b g) : PD X W (.BinOp a .Add b pos) (e2 addD f g) := pd_op op_add4 snd_add ha hb
theorem pd_sub (ha : PD X W a f) (hb : PD X W b g) : PD X W (.BinOp a .Sub b pos) (e2 subD f g) := pd_op op_sub (r := rI0 fun i j => .int (i - j)) (by
  intro θ H st d1 d2 x y Q hS r1 r2 hp
  unfold subD at hp
  split at hp
  · cases r1; cases r2
    exact ⟨_, _, rfl, rfl, hp θ H _ .refl hS rfl⟩
  · exact hp.elim) ha hb
theorem op_mulA : OpR X (binaryOp .Mult) (rI (fun i j => MulOk i j) fun i j => .int (i * j)) := opI fun _ _ _ _ _ _ _ hc q => mul_int q hc.ok
abbrev rMul3 (K : PySem.W.Frag) : R2 := fun x y H Q => rI (fun i j => MulOk i j) (fun i j => .int (i * j)) x y H Q ∨ (rRepT K x y H Q ∨ rRep x y H Q)
theorem snd_mul : Snd2 X W mulD (rMul3 X.K) := by
  intro θ H st d1 d2 x y Q hS r1 r2 hp
  unfold mulD at hp
  split at hp
  · split at hp
    · rename_i hl
      cases r1; cases r2
      exact .inl ⟨_, _, rfl, rfl, hl, hp θ H _ .refl hS rfl⟩
    · exact hp.elim
  · split at hp
    · rename_i xs q1
      split at hp
      · rename_i hl
        obtain ⟨h0, h1, h2, h3⟩ := hl
        obtain ⟨a, vs, rfl, t1, s1⟩ := view_tup r1 q1
        cases r2
        have l1 := s1.length
        exact .inr (.inl ⟨a, _, vs, rfl, rfl, .inl t1.1, fun e => h0 (List.length_eq_zero_iff.mp (by rw [l1, e]; rfl)), h1, h2, by omega, fun p hn => hp θ _ _ (Ext.new hS hn) (hS.new hn) (rep_tup hS hn (reps_rep s1 _))⟩)
      · exact hp.elim
    · rename_i xs q1
      split at hp
      · rename_i hl
        obtain ⟨h1, h2, h3⟩ := hl
        obtain ⟨a, vs, rfl, t1, s1⟩ := view_lst hS r1 q1
        cases r2
        have l1 := s1.length
        exact .inr (.inr ⟨a, _, vs, rfl, rfl, t1, h1, h2, by rw [← l1]; exact h3, fun p hn => hp θ _ _ (Ext.new hS hn) (hS.new hn) (rep_lst hS hn (reps_rep s1 _))⟩)
      · exact hp.elim
    · exact hp.elim
  · exact hp.elim
theorem pd_mul (ha : PD X W a f) (hb : PD X W b g) : PD X W (.BinOp a .Mult b pos) (e2 mulD f g) := pd_op (OpR.or op_mulA (OpR.or op_repT op_rep)) snd_mul ha hb
theorem pd_div (ha : PD X W a f) (hb : PD X W b g) : PD X W (.BinOp a .FloorDiv b pos) (e2 divD f g) := pd_op op_fdivW (r := rI CDivW fun i j => .int (i / j)) (by
  intro θ H st d1 d2 x y Q hS r1 r2 hp
  unfold divD at hp
  split at hp
  · split at hp
    · rename_i hl
      cases r1; cases r2
      exact ⟨_, _, rfl, rfl, hl, hp θ H _ .refl hS rfl⟩
    · exact hp.elim
  · exact hp.elim) ha hb
theorem pd_mod (ha : PD X W a f) (hb : PD X W b g) : PD X W (.BinOp a .Mod b pos) (e2 modD f g) := pd_op op_mod (r := rI (fun _ j => 0 < j) fun i j => .int (i % j)) (by
  intro θ H st d1 d2 x y Q hS r1 r2 hp
  unfold modD at hp
  split at hp
  · split at hp
    · rename_i hl
      cases r1; cases r2
      exact ⟨_, _, rfl, rfl, hl, hp θ H _ .refl hS rfl⟩
    · exact hp.elim
  · exact hp.elim) ha hb
theorem pd_pow (ha : PD X W a f) (hb : PD X W b g) : PD X W (.BinOp a .Pow b pos) (e2 powD f g) := pd_op op_pow (r := rI CPow fun i j => .int (i ^ j.toNat)) (by
  intro θ H st d1 d2 x y Q hS r1 r2 hp
  unfold powD at hp
  split at hp
  · split at hp
    · rename_i hl
      cases r1; cases r2
      exact ⟨_, _, rfl, rfl, hl, hp θ H _ .refl hS rfl⟩
    · exact hp.elim
  · exact hp.elim) ha hb
def negD (x : D) (st : Stt) : Res D := match x with
  | .int i => .ok (.int (-i)) st
  | _ => .stuck
def e1 (op : D → Stt → Res D) (f : DE) : DE := fun env st => (f env st).bind op
theorem pd_neg (ha : PD X W a f) : PD X W (.UnaryOp .USub a pos) (e1 negD f) := by
  refine ⟨(pe_un un_neg ha.pe).imp ?_⟩
  rintro σ H Q ⟨θ, env, st, hE, hS, hp⟩
  refine ⟨θ, env, st, hE, hS, post.bind hp fun θ1 H1 st1 d v e1 hS1 r1 hp1 => ?_⟩
  cases d <;> try (exact (show False from hp1).elim)
  cases r1
  exact ⟨_, rfl, hp1 θ1 H1 _ .refl hS1 rfl⟩

/-! ### in, not in -/
def keyOf : D → Option Key
  | .int i => some (.inl i)
  | .str s => some (.inr s)
  | _ => none
theorem keyOf_rep {K : PySem.W.Frag} {θ : Th} {H : Hp} {d : D} {v : V} {k : Key} (r : Rep K θ H d v) (e : keyOf d = some k) : v = kV k := by
  cases d <;> cases e
  · cases r; rfl
  · cases r; rfl
def kget (kvs : List (Key × D)) (k : Key) : Option D := (kvs.find? fun kv => decide (kv.1 = k)).map (·.2)
def kput (kvs : List (Key × D)) (k : Key) (v : D) : List (Key × D) := if (kvs.any fun kv => decide (kv.1 = k)) then kvs.map fun kv => if kv.1 = k then (kv.1, v) else kv else kvs ++ [(k, v)]
def kdrop (kvs : List (Key × D)) (k : Key) : List (Key × D) := kvs.filter fun kv => decide (kv.1 ≠ k)
theorem kget_rep {K : PySem.W.Frag} {θ : Th} {H : Hp} (k : Key) : ∀ {kvs : List (Key × D)} {kws : List (Key × V)}, RepKs K θ H kvs kws → match kget kvs k, valV kws k with
    | none, none => True
    | some d, some v => Rep K θ H d v
    | _, _ => False
  | [], _, r => by cases (show _ = [] from r); trivial
  | (j, d) :: kvs, _, r => by
    obtain ⟨v, q, rfl, h1, h2⟩ := r
    by_cases e : j = k
    · have e1 : kget ((j, d) :: kvs) k = some d := by simp [kget, List.find?_cons, e]
      have e2 : valV ((j, v) :: q) k = some v := valV_pos e
      rw [e1, e2]; exact h1
    · have e1 : kget ((j, d) :: kvs) k = kget kvs k := by simp [kget, List.find?_cons, e]
      have e2 : valV ((j, v) :: q) k = valV q k := valV_neg e
      rw [e1, e2]; exact kget_rep k h2
theorem kput_rep {K : PySem.W.Frag} {θ : Th} {H : Hp} (k : Key) {d : D} {v : V} {kvs : List (Key × D)} {kws : List (Key × V)} (r : RepKs K θ H kvs kws) (rd : Rep K θ H d v) : RepKs K θ H (kput kvs k d) (putK kws k v) := by
  have any_eq : ∀ {kvs : List (Key × D)} {kws : List (Key × V)}, RepKs K θ H kvs kws → (kvs.any fun kv => decide (kv.1 = k)) = (kws.any fun kv => decide (kv.1 = k)) := by
    intro kvs
    induction kvs with
    | nil => intro kws r; cases (show _ = [] from r); rfl
    | cons p kvs ih => intro kws r; obtain ⟨j, e⟩ := p; obtain ⟨v, q, rfl, h1, h2⟩ := r; simp only [List.any_cons]; rw [ih h2]
  have map_ok : ∀ {kvs : List (Key × D)} {kws : List (Key × V)}, RepKs K θ H kvs kws → RepKs K θ H (kvs.map fun kv => if kv.1 = k then (kv.1, d) else kv) (kws.map fun kv => if kv.1 = k then (kv.1, v) else kv) := by
    intro kvs
    induction kvs with
    | nil => intro kws r; cases (show _ = [] from r); rfl
    | cons p kvs ih =>
      intro kws r
      obtain ⟨j, e⟩ := p
      obtain ⟨u, q, rfl, h1, h2⟩ := r
      simp only [List.map_cons]
      by_cases hj : j = k
      · rw [if_pos hj, if_pos hj]; exact ⟨_, _, rfl, rd, ih h2⟩
      · rw [if_neg hj, if_neg hj]; exact ⟨_, _, rfl, h1, ih h2⟩
  have snoc_ok : ∀ {kvs : List (Key × D)} {kws : List (Key × V)}, RepKs K θ H kvs kws → RepKs K θ H (kvs ++ [(k, d)]) (kws ++ [(k, v)]) := by
    intro kvs
    induction kvs with
    | nil => intro kws r; cases (show _ = [] from r); exact ⟨_, _, rfl, rd, rfl⟩
    | cons p kvs ih => intro kws r; obtain ⟨j, e⟩ := p; obtain ⟨u, q, rfl, h1, h2⟩ := r; exact ⟨_, _, rfl, h1, ih h2⟩
  unfold kput putK
  rw [any_eq r]
  split
  · exact map_ok r
  · exact snoc_ok r
theorem kdrop_rep {K : PySem.W.Frag} {θ : Th} {H : Hp} (k : Key) : ∀ {kvs : List (Key × D)} {kws : List (Key × V)}, RepKs K θ H kvs kws → RepKs K θ H (kdrop kvs k) (dropK kws k)
  | [], _, r => by cases (show _ = [] from r); rfl
  | (j, d) :: kvs, _, r => by
    obtain ⟨v, q, rfl, h1, h2⟩ := r
    have ih := kdrop_rep k h2
    unfold kdrop dropK at *
    by_cases e : j = k
    · simpa [List.filter_cons, e] using ih
    · simp only [List.filter_cons, ne_eq, e, not_false_eq_true, decide_true, if_true]
      exact ⟨_, _, rfl, h1, ih⟩
def rInDT (K : PySem.W.Frag) (neg : Bool) : R2 := fun x y H Q => ∃ d ds, Dp K H x d ∧ Dp K H y (.tuple ds) ∧ SeqAt.shaped d = true ∧ SeqAt.shaped (.tuple ds) = true ∧ Q (.bl (if neg then !ds.any (fun z => PyData.eqv z d) else ds.any fun z => PyData.eqv z d)) H
theorem room_in {A : Around} {d : PyData} {ds : List PyData} (h : SeqAt.shaped d = true) (hu : A.units + 65 < cLine) : A.units + 1 + min (PyData.depthAll ds) d.depth < cLine := by
  have h1 := SeqAt.depth_of_shaped h
  have h2 : min (PyData.depthAll ds) d.depth ≤ d.depth := Nat.min_le_right _ _
  omega
theorem op_inDT (hu : X.A.units + 65 < cLine) : OpR X (compareOp .In) (rInDT X.K false) := by
  intro pins s σ H x y v u Q I rx ry h
  obtain ⟨d, ds, hd, he, sd, se, q⟩ := h
  obtain ⟨as, r1⟩ := Dp.reads I d x v hd rx
  obtain ⟨bs, r2⟩ := Dp.reads I (.tuple ds) y u he ry
  exact SeqAt.in_tuple_reads r2 r1 (SeqAt.canLay_of_shaped se) (SeqAt.canLay_of_shaped sd) (room_in sd hu) ⟨.bl _, H, I, rfl, q⟩
theorem op_notInDT (hu : X.A.units + 65 < cLine) : OpR X (compareOp .NotIn) (rInDT X.K true) := by
  intro pins s σ H x y v u Q I rx ry h
  obtain ⟨d, ds, hd, he, sd, se, q⟩ := h
  obtain ⟨as, r1⟩ := Dp.reads I d x v hd rx
  obtain ⟨bs, r2⟩ := Dp.reads I (.tuple ds) y u he ry
  exact SeqAt.notIn_tuple_reads r2 r1 (SeqAt.canLay_of_shaped se) (SeqAt.canLay_of_shaped sd) (room_in sd hu) ⟨.bl _, H, I, rfl, q⟩
/-- a dict, by values -/
def rInK (K : PySem.W.Frag) (neg : Bool) : R2 := fun x y H Q => ∃ a o, y = .ref a ∧ DGet H a x o ∧ Q (.bl (if neg then !o.isSome else o.isSome)) H
theorem op_inK (hu : X.A.units + 65 < cLine) : OpR X (compareOp .In) (rInK X.K false) := by
  intro pins s σ H x y v u Q I rx ry h
  obtain ⟨a, o, rfl, g, q⟩ := h
  cases ry
  exact d_in (by omega) I g rx fun s' I' => ⟨.bl _, H, I', rfl, q⟩
theorem op_notInK (hu : X.A.units + 65 < cLine) : OpR X (compareOp .NotIn) (rInK X.K true) := by
  intro pins s σ H x y v u Q I rx ry h
  obtain ⟨a, o, rfl, g, q⟩ := h
  cases ry
  exact d_notIn (by omega) I g rx fun s' I' => ⟨.bl _, H, I', rfl, q⟩
def occStr (i j : Str) : Bool := !(Builtin.Str.occurrences j i 0 j.length 1).isEmpty
def inD (neg : Bool) : Op2 := fun x y st => match x, y with
  | .str i, .str j => .ok (.bl (if neg then !occStr i j else occStr i j)) st
  | x, y => match view st y with
    | .tup ys => match toPyV st x, toPys ys with
      | some d, some ds => if SeqAt.shaped d = true ∧ SeqAt.shaped (.tuple ds) = true then .ok (.bl (if neg then !ds.any (fun z => PyData.eqv z d) else ds.any fun z => PyData.eqv z d)) st else .stuck
      | _, _ => .stuck
    | .lst ys => match toPyV st x, toPys ys with
      | some d, some ds => if SeqAt.shaped d = true ∧ SeqAt.shaped (.list ds) = true then .ok (.bl (if neg then !ds.any (fun z => PyData.eqv z d) else ds.any fun z => PyData.eqv z d)) st else .stuck
      | _, _ => .stuck
    | .dct kvs => match keyOf x with
      | some k => .ok (.bl (if neg then !(kget kvs k).isSome else (kget kvs k).isSome)) st
      | none => .stuck
    | _ => .stuck
def rInL (K : PySem.W.Frag) (neg : Bool) : R2 := fun x y H Q => ∃ d ds, Dp K H x d ∧ Dp K H y (.list ds) ∧ SeqAt.shaped d = true ∧ SeqAt.shaped (.list ds) = true ∧ Q (.bl (if neg then !ds.any (fun z => PyData.eqv z d) else ds.any fun z => PyData.eqv z d)) H
def rInS (neg : Bool) : R2 := fun x y H Q => ∃ i j, x = .str i ∧ y = .str j ∧ Q (.bl (if neg then !occStr i j else occStr i j)) H
abbrev rIn4 (K : PySem.W.Frag) (neg : Bool) : R2 := fun x y H Q => rInS neg x y H Q ∨ (rInDT K neg x y H Q ∨ (rInL K neg x y H Q ∨ rInK K neg x y H Q))
theorem op_in4 (hu : X.A.units + 65 < cLine) : OpR X (compareOp .In) (rIn4 X.K false) := OpR.or (show OpR X _ (rInS false) from op_in_str) (OpR.or (op_inDT hu) (OpR.or (show OpR X _ (rInL X.K false) from op_inD hu) (op_inK hu)))
theorem op_notIn4 (hu : X.A.units + 65 < cLine) : OpR X (compareOp .NotIn) (rIn4 X.K true) := OpR.or (show OpR X _ (rInS true) from op_notin_str) (OpR.or (op_notInDT hu) (OpR.or (show OpR X _ (rInL X.K true) from op_notInD hu) (op_notInK hu)))
theorem snd_in (neg : Bool) : Snd2 X W (inD neg) (rIn4 X.K neg) := by
  intro θ H st d1 d2 x y Q hS r1 r2 hp
  unfold inD at hp
  split at hp
  · cases r1; cases r2
    exact .inl ⟨_, _, rfl, rfl, hp θ H _ .refl hS rfl⟩
  · split at hp
    · rename_i ys q
      split at hp
      · rename_i p ps e1 e2
        split at hp
        · rename_i hsh
          obtain ⟨a, vs, rfl, t1, s1⟩ := view_tup r2 q
          exact .inr (.inl ⟨p, ps, dpv_of hS r1 e1, .tup (.inl t1.1) (dps_of _ _ _ s1 e2), hsh.1, hsh.2, hp θ H _ .refl hS rfl⟩)
        · exact hp.elim
      · exact hp.elim
    · rename_i ys q
      split at hp
      · rename_i p ps e1 e2
        split at hp
        · rename_i hsh
          obtain ⟨a, vs, rfl, t1, s1⟩ := view_lst hS r2 q
          exact .inr (.inr (.inl ⟨p, ps, dpv_of hS r1 e1, .lst (.inl (.inl t1)) (dps_of _ _ _ s1 e2), hsh.1, hsh.2, hp θ H _ .refl hS rfl⟩))
        · exact hp.elim
      · exact hp.elim
    · rename_i kvs q
      split at hp
      · rename_i k e1
        obtain ⟨a, vs, rfl, t1, s1⟩ := view_dct hS r2 q
        have e2 := keyOf_rep r1 e1
        subst e2
        have e3 := kget_rep k s1
        refine .inr (.inr (.inr ⟨a, valV vs k, rfl, .inl ⟨vs, k, t1, rfl, rfl⟩, ?_⟩))
        have e4 : (valV vs k).isSome = (kget kvs k).isSome := by
          split at e3
          · simp [*]
          · simp [*]
          · exact e3.elim
        rw [e4]
        exact hp θ H _ .refl hS rfl
      · exact hp.elim
    · exact hp.elim
theorem pd_in (hu : X.A.units + 65 < cLine) (ha : PD X W a f) (hb : PD X W b g) (hm : behindInMarks .In b = false := by with_unfolding_all rfl) : PD X W (.Compare a [.In] [b] pos) (e2 (inD false) f g) := pd_cmpR (op_in4 hu) (snd_in false) ha hb hm
theorem pd_notIn (hu : X.A.units + 65 < cLine) (ha : PD X W a f) (hb : PD X W b g) (hm : behindInMarks .NotIn b = false := by with_unfolding_all rfl) : PD X W (.Compare a [.NotIn] [b] pos) (e2 (inD true) f g) := pd_cmpR (op_notIn4 hu) (snd_in true) ha hb hm
theorem pdt_in (hu : X.A.units + 65 < cLine) (ha : PD X W a f) (hb : PD X W b g) (hm : behindInMarks .In b = false := by with_unfolding_all rfl) : PDT X W (.Compare a [.In] [b] pos) (tV (e2 (inD false) f g)) := pdt_cmpR (op_in4 hu) (snd_in false) ha hb hm
theorem pdt_notIn (hu : X.A.units + 65 < cLine) (ha : PD X W a f) (hb : PD X W b g) (hm : behindInMarks .NotIn b = false := by with_unfolding_all rfl) : PDT X W (.Compare a [.NotIn] [b] pos) (tV (e2 (inD true) f g)) := pdt_cmpR (op_notIn4 hu) (snd_in true) ha hb hm
end
end DL
set_option maxHeartbeats 4000000
namespace DL
open PySem PySem.Spec PyProof.Rows L2

/-! ### subscripts -/
theorem atI_rep {K : PySem.W.Frag} {θ : Th} {H : Hp} {xs : List D} {vs : List V} {i : Int} {d : D} (r : Reps K θ H xs vs) (e : atI xs i = some d) : ∃ v, atI vs i = some v ∧ Rep K θ H d v := by
  unfold atI at *
  rw [← r.length]
  cases q : ixN xs.length i with
  | none => rw [q] at e; cases e
  | some j =>
    rw [q] at e
    obtain ⟨v, h1, h2⟩ := r.get (show xs[j]? = some d from e)
    exact ⟨v, h1, h2⟩
def ixD : Op2 := fun x y st => match x, y with
  | .str z, .int i => if z.length ≤ sizeLine then (match atI z.cps.toList i with
    | some c => .ok (.str ⟨#[c]⟩) st
    | none => .stuck) else .stuck
  | x, y => match view st x, y with
    | .tup xs, .int i => (match atI xs i with
      | some d => .ok d st
      | none => .stuck)
    | .lst xs, .int i => (match atI xs i with
      | some d => .ok d st
      | none => .stuck)
    | .scr ns, .int i => (match atI ns i with
      | some d => .ok (.int d) st
      | none => .stuck)
    | .dct kvs, y => (match keyOf y with
      | some k => (match kget kvs k with
        | some d => .ok d st
        | none => .stuck)
      | none => .stuck)
    | _, _ => .stuck
def rIxK : R2 := fun x y H Q => ∃ a v, x = .ref a ∧ DGet H a y (some v) ∧ Q v H
section
variable {X : Cx} {W : WX} {a b c : Expr} {f g h : DE} {pos : Pos}
theorem ix_dict (hu : X.A.units + 65 < cLine) : IxR X rIxK := by
  intro value slice pins s σ H x y v u Q I rx ry h hs
  obtain ⟨a, w, rfl, g, q⟩ := h
  cases rx
  exact tail_any (dict_typeIs I g) PySem.F.slot_dict_getitem.lookup (d_getItem (by omega) I g ry fun w' s3 I3 rw' => ⟨w, H, I3, rw', q⟩) hs
abbrev rIx4 (K : PySem.W.Frag) : R2 := fun x y H Q => rIx K x y H Q ∨ rIxK x y H Q
theorem snd_ix : Snd2 X W ixD (rIx4 X.K) := by
  intro θ H st d1 d2 x y Q hS r1 r2 hp
  unfold ixD at hp
  split at hp
  · rename_i z i
    cases r1; cases r2
    split at hp
    · rename_i hz
      split at hp
      · rename_i c hc
        exact .inl (.inr (.inr ⟨z, i, c, rfl, rfl, hz, hc, hp θ H _ .refl hS rfl⟩))
      · exact hp.elim
    · exact hp.elim
  · split at hp
    · rename_i xs i q _
      split at hp
      · rename_i d hd
        obtain ⟨p, vs, rfl, t1, s1⟩ := view_tup r1 q
        cases r2
        obtain ⟨v, h1, h2⟩ := atI_rep s1 hd
        exact .inl (.inr (.inl ⟨p, vs, i, v, rfl, rfl, .inl t1.1, h1, hp θ H _ .refl hS h2⟩))
      · exact hp.elim
    · rename_i xs i q _
      split at hp
      · rename_i d hd
        obtain ⟨p, vs, rfl, t1, s1⟩ := view_lst hS r1 q
        cases r2
        obtain ⟨v, h1, h2⟩ := atI_rep s1 hd
        exact .inl (.inl ⟨p, vs, i, v, rfl, rfl, .inl (.inl t1), h1, hp θ H _ .refl hS h2⟩)
      · exact hp.elim
    · rename_i ns i q _
      split at hp
      · rename_i d hd
        obtain ⟨p, rfl, s1⟩ := view_scr r1 q
        cases r2
        refine .inl (.inl ⟨p, _, i, .int d, rfl, rfl, s1, ?_, hp θ H _ .refl hS rfl⟩)
        unfold atI at hd ⊢
        rw [List.length_map]
        cases q : ixN ns.length i with
        | none => rw [q] at hd; cases hd
        | some j =>
          rw [q] at hd
          show (ns.map V.int)[j]? = _
          rw [List.getElem?_map, show ns[j]? = some d from hd]; rfl
      · exact hp.elim
    · rename_i kvs q _
      split at hp
      · rename_i k hk
        split at hp
        · rename_i d hd
          obtain ⟨p, vs, rfl, t1, s1⟩ := view_dct hS r1 q
          have e2 := keyOf_rep r2 hk
          subst e2
          have e3 := kget_rep k s1
          rw [hd] at e3
          split at e3
          · rename_i e _; cases e
          · rename_i d' v e e4
            cases e
            exact .inr ⟨p, v, rfl, .inl ⟨vs, k, t1, rfl, e4.symm⟩, hp θ H _ .refl hS e3⟩
          · exact e3.elim
        · exact hp.elim
      · exact hp.elim
    · exact hp.elim
theorem pd_ix (hu : X.A.units + 65 < cLine) (ha : PD X W a f) (hb : PD X W b g) (hs : PlainIx b := by exact fun _ _ => rfl) : PD X W (.Subscript a b pos) (e2 ixD f g) := ⟨(pe_ix (IxR.or ix_seq (ix_dict hu)) ha.pe hb.pe hs).imp (bin_ok snd_ix)⟩

/-! ### slices -/
abbrev DO := Env → Stt → Res (Option Int)
abbrev tro (X : Cx) (W : WX) (f : DO) : TO := trg X W (fun _ _ a b => a = b) f
structure PDO (X : Cx) (W : WX) (e : Option Expr) (f : DO) : Prop where
  po : PO X e (tro X W f)
def oNone : DO := fun _ st => .ok none st
def oSome (f : DE) : DO := fun env st => (f env st).bind fun d st => match d with
  | .int i => .ok (some i) st
  | _ => .stuck
theorem PO.imp {X : Cx} {e : Option Expr} {t t' : TO} (h : PO X e t) (k : ∀ σ H Q, t' σ H Q → t σ H Q) : PO X e t' := by
  obtain ⟨h⟩ := h
  exact ⟨fun pins s σ H Q I q => h pins s σ H Q I (k σ H Q q)⟩
theorem pdo_none : PDO X W none oNone := ⟨PO.imp po_none (by
  rintro σ H Q ⟨θ, env, st, hE, hS, hp⟩
  exact hp θ H none .refl hS rfl)⟩
theorem pdo_some (ha : PD X W a f) : PDO X W (some a) (oSome f) := ⟨PO.imp (po_some ha.pe) (by
  rintro σ H Q ⟨θ, env, st, hE, hS, hp⟩
  refine ⟨θ, env, st, hE, hS, post.bind hp fun θ1 H1 st1 d v e1 hS1 r1 hp1 => ?_⟩
  cases d <;> try (exact (show False from hp1).elim)
  exact ⟨_, r1, hp1 θ1 H1 _ .refl hS1 rfl⟩)⟩
def cut {α : Type} (xs : List α) (lo hi : Option Int) : List α := (xs.drop (HT.sIx xs.length 0 lo)).take (HT.sIx xs.length xs.length hi - HT.sIx xs.length 0 lo)
def sliceD (x : D) (lo hi : Option Int) (st : Stt) : Res D := match x with
  | .str z => if z.length ≤ sizeLine then .ok (.str (cutS z lo hi)) st else .stuck
  | x => match view st x with
    | .tup xs => .ok (.tup (cut xs lo hi)) st
    | .lst xs => .ok (.lst (cut xs lo hi)) st
    | _ => .stuck
theorem cut_rep {K : PySem.W.Frag} {θ : Th} {H : Hp} {xs : List D} {vs : List V} (r : Reps K θ H xs vs) (lo hi : Option Int) : Reps K θ H (cut xs lo hi) (cutV vs lo hi) := by
  unfold cut cutV
  rw [← r.length]
  exact (r.drop _).take _
abbrev rSl3 (K : PySem.W.Frag) : V → Option Int → Option Int → Hp → VK → Prop := fun x lo hi H Q => rSlS x lo hi H Q ∨ (rSlA K x lo hi H Q ∨ rSlL K x lo hi H Q)
theorem snd_sl {θ : Th} {H : Hp} {st : Stt} {d : D} {x : V} {lo hi : Option Int} {Q : VK} (hS : RepSt X.K θ H st) (r1 : Rep X.K θ H d x) (hp : post X W (Rep X.K) θ H Q (sliceD d lo hi st)) : rSl3 X.K x lo hi H Q := by
  unfold sliceD at hp
  split at hp
  · split at hp
    · rename_i hz
      cases r1
      exact .inl ⟨_, rfl, hz, hp θ H _ .refl hS rfl⟩
    · exact hp.elim
  · split at hp
    · rename_i xs q
      obtain ⟨a, vs, rfl, t1, s1⟩ := view_tup r1 q
      refine .inr (.inl ⟨a, vs, rfl, .inl t1.1, fun e => ?_, fun _ p hn => hp θ _ _ (Ext.new hS hn) (hS.new hn) (rep_tup hS hn (cut_rep s1 lo hi))⟩)
      have e2 : cutV vs lo hi = vs := by
        unfold cutV
        rw [e.1, e.2]; simp
      have := cut_rep s1 lo hi
      rw [e2] at this
      exact hp θ H _ .refl hS ⟨a, vs, rfl, t1, this⟩
    · rename_i xs q
      obtain ⟨a, vs, rfl, t1, s1⟩ := view_lst hS r1 q
      exact .inr (.inr ⟨a, vs, rfl, .inl (.inl t1), fun p hn => hp θ _ _ (Ext.new hS hn) (hS.new hn) (rep_lst hS hn (cut_rep s1 lo hi))⟩)
    · exact hp.elim
def eSlice (f : DE) (l u : DO) : DE := fun env st => (f env st).bind fun x st => (l env st).bind fun lo st => (u env st).bind fun hi st => sliceD x lo hi st
theorem pd_slice {lo hi : Option Expr} {l u : DO} {p2 : Pos} (ha : PD X W a f) (hl : PDO X W lo l) (hh : PDO X W hi u) : PD X W (.Subscript a (.Slice lo hi none p2) pos) (eSlice f l u) := by
  refine ⟨(pe_slice (SlR.or sl_str (SlR.or sl_tupA sl_list)) ha.pe hl.po hh.po).imp ?_⟩
  rintro σ H Q ⟨θ, env, st, hE, hS, hp⟩
  refine ⟨θ, env, st, hE, hS, post.bind hp fun θ1 H1 st1 d v e1 hS1 r1 hp1 => ?_⟩
  refine ⟨θ1, env, st1, hE.mono e1, hS1, post.bind hp1 fun θ2 H2 st2 d2 v2 e2 hS2 r2 hp2 => ?_⟩
  refine ⟨θ2, env, st2, (hE.mono e1).mono e2, hS2, post.bind hp2 fun θ3 H3 st3 d3 v3 e3 hS3 r3 hp3 => ?_⟩
  subst r2 r3
  exact snd_sl hS3 ((r1.mono e2).mono e3) hp3

/-! ### built-in functions -/
abbrev Cal := List D → Stt → Res D
def SndC (X : Cx) (W : WX) (c : Cal) (r : List V → Hp → VK → Prop) : Prop := ∀ θ H st ds vs Q, RepSt X.K θ H st → Reps X.K θ H ds vs → post X W (Rep X.K) θ H Q (c ds st) → r vs H Q
def eC2 (c : Cal) (f : DA) : DE := fun env st => (f env st).bind c
variable {e : Expr} {es : List Expr} {fa : DA} {x : Str} {p : Pos} {cl : Cal} {id T : String} {r : List V → Hp → VK → Prop}
theorem cb_ok (so : SndC X W cl r) (σ : L2.St) (H : Hp) (Q : VK) (hq : trd X W (eC2 cl fa) σ H Q) : tCB r (tra X W fa) σ H Q := by
  obtain ⟨θ, env, st, hE, hS, hp⟩ := hq
  refine ⟨θ, env, st, hE, hS, post.bind hp fun θ1 H1 st1 d v e1 hS1 r1 hp1 => ?_⟩
  exact so θ1 H1 st1 d v Q hS1 r1 hp1
theorem pd_callB (hc : CallR X (.builtin id) r) (so : SndC X W cl r) (hg : Gl X x) (hm : X.mg x = none) (hv : bootBuiltins x = some (.builtin id)) (ha : PDA X W (e :: es) fa) (hn : x ≠ "__name__" := by decide) (hdb : (x == ("__debug__" : Str)) = false := by decide)
    (he : starEach (e :: es) X.env = (false, eval e X.env) :: starEach es X.env := by rfl) (hpl : (backTo pos (starEach es X.env)).any (·.1) = false := by rfl) : PD X W (.Call (.Name x p) (e :: es) [] pos) (eC2 cl fa) :=
  ⟨(pe_callB hc hg hm hv ha.pa hn hdb he hpl).imp (cb_ok so)⟩
theorem pd_callT (hc : CallR X (.type T) r) (so : SndC X W cl r) (hg : Gl X x) (hm : X.mg x = none) (hv : bootBuiltins x = some (.type T)) (ha : PDA X W (e :: es) fa) (hn : x ≠ "__name__" := by decide) (hdb : (x == ("__debug__" : Str)) = false := by decide)
    (he : starEach (e :: es) X.env = (false, eval e X.env) :: starEach es X.env := by rfl) (hpl : (backTo pos (starEach es X.env)).any (·.1) = false := by rfl) : PD X W (.Call (.Name x p) (e :: es) [] pos) (eC2 cl fa) :=
  ⟨(pe_callTy hc hg hm hv ha.pa hn hdb he hpl).imp (cb_ok so)⟩
end
/-! len -/
def lenC : Cal := fun ds st => match ds with
  | [.str z] => if z.length ≤ sizeLine then .ok (.int z.length) st else .stuck
  | [d] => match view st d with
    | .tup xs => .ok (.int xs.length) st
    | .lst xs => .ok (.int xs.length) st
    | .scr xs => .ok (.int xs.length) st
    | .dct xs => .ok (.int xs.length) st
    | _ => .stuck
  | _ => .stuck
theorem reps1 {K : PySem.W.Frag} {θ : Th} {H : Hp} {d : D} {vs : List V} (r : Reps K θ H [d] vs) : ∃ v, vs = [v] ∧ Rep K θ H d v := by
  obtain ⟨v, q, rfl, h1, h2⟩ := r
  cases (show q = [] from h2)
  exact ⟨v, rfl, h1⟩
theorem reps2 {K : PySem.W.Frag} {θ : Th} {H : Hp} {d e : D} {vs : List V} (r : Reps K θ H [d, e] vs) : ∃ v u, vs = [v, u] ∧ Rep K θ H d v ∧ Rep K θ H e u := by
  obtain ⟨v, q, rfl, h1, h2⟩ := r
  obtain ⟨u, rfl, h3⟩ := reps1 h2
  exact ⟨v, u, rfl, h1, h3⟩
section
variable {X : Cx} {W : WX}
def rLenK : List V → Hp → VK → Prop := fun xs H Q => ∃ a kvs, xs = [V.ref a] ∧ Rd H a (.dK kvs) ∧ Q (.int kvs.length) H
theorem call_lenK : CallR X (.builtin "len") rLenK := by
  intro pins s σ H xs us Q I r h
  obtain ⟨a, kvs, rfl, ha, q⟩ := h
  obtain ⟨u, rfl, ru⟩ := vals1 r
  cases ru
  exact d_len I ha fun t s' I' => ⟨.int kvs.length, H, I', ⟨t, rfl⟩, q⟩
def rLen1 (K : PySem.W.Frag) : List V → Hp → VK → Prop := fun xs H Q => ∃ x n, xs = [x] ∧ LenV K x H n ∧ Q (.int n) H
theorem call_lenA : CallR X (.builtin "len") (fun xs H Q => rLen1 X.K xs H Q ∨ rLenK xs H Q) := CallR.or call_len call_lenK
theorem snd_len : SndC X W lenC (fun xs H Q => rLen1 X.K xs H Q ∨ rLenK xs H Q) := by
  intro θ H st ds vs Q hS r hp
  unfold lenC at hp
  split at hp
  · split at hp
    · rename_i hz
      obtain ⟨v, rfl, r1⟩ := reps1 r
      cases r1
      exact .inl ⟨_, _, rfl, ⟨hz, rfl⟩, hp θ H _ .refl hS rfl⟩
    · exact hp.elim
  · obtain ⟨v, rfl, r1⟩ := reps1 r
    split at hp
    · rename_i xs q
      obtain ⟨a, vs, rfl, t1, s1⟩ := view_tup r1 q
      exact .inl ⟨_, _, rfl, .inr ⟨vs, .inl t1.1, rfl⟩, by rw [← s1.length]; exact hp θ H _ .refl hS rfl⟩
    · rename_i xs q
      obtain ⟨a, vs, rfl, t1, s1⟩ := view_lst hS r1 q
      exact .inl ⟨_, _, rfl, .inl ⟨vs, .inl (.inl t1), rfl⟩, by rw [← s1.length]; exact hp θ H _ .refl hS rfl⟩
    · rename_i xs q
      obtain ⟨a, rfl, s1⟩ := view_scr r1 q
      exact .inl ⟨_, _, rfl, .inl ⟨_, s1, rfl⟩, by rw [List.length_map]; exact hp θ H _ .refl hS rfl⟩
    · rename_i xs q
      obtain ⟨a, vs, rfl, t1, s1⟩ := view_dct hS r1 q
      exact .inr ⟨a, vs, rfl, t1, by rw [← s1.length]; exact hp θ H _ .refl hS rfl⟩
    · exact hp.elim
  · exact hp.elim
/-! abs, min, max of ints; of a list of ints -/
def intsOf : List D → Option (List Int)
  | [] => some []
  | .int i :: r => (intsOf r).map (i :: ·)
  | _ => none
theorem intsOf_eq : ∀ {ds : List D} {ns : List Int}, intsOf ds = some ns → ds = ns.map D.int
  | [], ns, h => by cases h; rfl
  | d :: r, ns, h => by
    cases d with
    | int i =>
      have h : (intsOf r).map (i :: ·) = some ns := h
      simp only [Option.map_eq_some_iff] at h
      obtain ⟨ms, h1, rfl⟩ := h
      rw [intsOf_eq h1]; rfl
    | _ => cases h
theorem intsOf_map : ∀ ns : List Int, intsOf (ns.map D.int) = some ns
  | [] => rfl
  | n :: ns => by simp [intsOf, intsOf_map ns]
def blsOf : List D → Option (List Bool)
  | [] => some []
  | .bl i :: r => (blsOf r).map (i :: ·)
  | _ => none
theorem blsOf_eq : ∀ {ds : List D} {ns : List Bool}, blsOf ds = some ns → ds = ns.map D.bl
  | [], ns, h => by cases h; rfl
  | d :: r, ns, h => by
    cases d with
    | bl i =>
      have h : (blsOf r).map (i :: ·) = some ns := h
      simp only [Option.map_eq_some_iff] at h
      obtain ⟨ms, h1, rfl⟩ := h
      rw [blsOf_eq h1]; rfl
    | _ => cases h
theorem blsOf_map : ∀ ns : List Bool, blsOf (ns.map D.bl) = some ns
  | [] => rfl
  | n :: ns => by simp [blsOf, blsOf_map ns]
def absC : Cal := fun ds st => match ds with
  | [.int i] => .ok (.int (if i < 0 then -i else i)) st
  | _ => .stuck
theorem snd_abs : SndC X W absC (fun xs H Q => ∃ i, xs = [.int i] ∧ Q (.int (if i < 0 then -i else i)) H) := by
  intro θ H st ds vs Q hS r hp
  unfold absC at hp
  split at hp
  · obtain ⟨v, rfl, r1⟩ := reps1 r
    cases r1
    exact ⟨_, rfl, hp θ H _ .refl hS rfl⟩
  · exact hp.elim
def maxL : List Int → Int
  | [] => 0
  | [x] => x
  | x :: y :: r => let m := maxL (y :: r); if m > x then m else x
def minL : List Int → Int
  | [] => 0
  | [x] => x
  | x :: y :: r => let m := minL (y :: r); if m < x then m else x
theorem maxL_le : ∀ {l : List Int} {x : Int}, x ∈ l → x ≤ maxL l
  | [y], x, h => by simp at h; subst h; exact Int.le_refl _
  | y :: z :: r, x, h => by
    simp only [maxL]
    rcases List.mem_cons.mp h with rfl | h
    · split <;> omega
    · have := maxL_le h
      split <;> omega
theorem maxL_mem : ∀ {l : List Int}, l ≠ [] → maxL l ∈ l
  | [y], _ => by simp [maxL]
  | y :: z :: r, _ => by
    simp only [maxL]
    split
    · exact List.mem_cons_of_mem _ (maxL_mem (by simp))
    · exact List.mem_cons_self
theorem minL_le : ∀ {l : List Int} {x : Int}, x ∈ l → minL l ≤ x
  | [y], x, h => by simp at h; subst h; exact Int.le_refl _
  | y :: z :: r, x, h => by
    simp only [minL]
    rcases List.mem_cons.mp h with rfl | h
    · split <;> omega
    · have := minL_le h
      split <;> omega
theorem minL_mem : ∀ {l : List Int}, l ≠ [] → minL l ∈ l
  | [y], _ => by simp [minL]
  | y :: z :: r, _ => by
    simp only [minL]
    split
    · exact List.mem_cons_of_mem _ (minL_mem (by simp))
    · exact List.mem_cons_self
def maxC : Cal := fun ds st => match ds with
  | [.int i, .int j] => .ok (.int (if j > i then j else i)) st
  | [d] => match view st d with
    | .lst xs => match intsOf xs with
      | some (n :: ns) => .ok (.int (maxL (n :: ns))) st
      | _ => .stuck
    | _ => .stuck
  | _ => .stuck
def minC : Cal := fun ds st => match ds with
  | [.int i, .int j] => .ok (.int (if j < i then j else i)) st
  | [d] => match view st d with
    | .lst xs => match intsOf xs with
      | some (n :: ns) => .ok (.int (minL (n :: ns))) st
      | _ => .stuck
    | _ => .stuck
  | _ => .stuck
def rMax2 : List V → Hp → VK → Prop := fun xs H Q => ∃ i j, xs = [.int i, .int j] ∧ Q (.int (if j > i then j else i)) H
def rMin2 : List V → Hp → VK → Prop := fun xs H Q => ∃ i j, xs = [.int i, .int j] ∧ Q (.int (if j < i then j else i)) H
theorem call_maxA (hc : X.calm = true) : CallR X (.builtin "max") (fun xs H Q => rMax2 xs H Q ∨ rMax X.K xs H Q) := CallR.or (call_max2 hc) (cr_max hc)
theorem call_minA (hc : X.calm = true) : CallR X (.builtin "min") (fun xs H Q => rMin2 xs H Q ∨ rMin X.K xs H Q) := CallR.or (call_min2 hc) (cr_min hc)
theorem snd_max : SndC X W maxC (fun xs H Q => rMax2 xs H Q ∨ rMax X.K xs H Q) := by
  intro θ H st ds vs Q hS r hp
  unfold maxC at hp
  split at hp
  · obtain ⟨v, u, rfl, r1, r2⟩ := reps2 r
    cases r1; cases r2
    exact .inl ⟨_, _, rfl, hp θ H _ .refl hS rfl⟩
  · obtain ⟨v, rfl, r1⟩ := reps1 r
    split at hp
    · rename_i xs q
      split at hp
      · rename_i n ns e
        obtain ⟨a, vs, rfl, t1, s1⟩ := view_lst hS r1 q
        rw [intsOf_eq e] at s1
        have s2 := s1.ints
        subst s2
        refine .inr ⟨a, n :: ns, rfl, .inl (.inl t1), by simp, fun m hm hy => ?_⟩
        have : m = maxL (n :: ns) := Int.le_antisymm (maxL_le hm) (hy _ (maxL_mem (by simp)))
        subst this
        exact hp θ H _ .refl hS rfl
      · exact hp.elim
    · exact hp.elim
  · exact hp.elim
theorem snd_min : SndC X W minC (fun xs H Q => rMin2 xs H Q ∨ rMin X.K xs H Q) := by
  intro θ H st ds vs Q hS r hp
  unfold minC at hp
  split at hp
  · obtain ⟨v, u, rfl, r1, r2⟩ := reps2 r
    cases r1; cases r2
    exact .inl ⟨_, _, rfl, hp θ H _ .refl hS rfl⟩
  · obtain ⟨v, rfl, r1⟩ := reps1 r
    split at hp
    · rename_i xs q
      split at hp
      · rename_i n ns e
        obtain ⟨a, vs, rfl, t1, s1⟩ := view_lst hS r1 q
        rw [intsOf_eq e] at s1
        have s2 := s1.ints
        subst s2
        refine .inr ⟨a, n :: ns, rfl, .inl (.inl t1), by simp, fun m hm hy => ?_⟩
        have : m = minL (n :: ns) := Int.le_antisymm (hy _ (minL_mem (by simp))) (minL_le hm)
        subst this
        exact hp θ H _ .refl hS rfl
      · exact hp.elim
    · exact hp.elim
  · exact hp.elim
/-! int, bool, str of an int -/
def intC : Cal := fun ds st => match ds with
  | [.int i] => .ok (.int i) st
  | [.bl k] => .ok (.int (if k then 1 else 0)) st
  | _ => .stuck
theorem snd_int : SndC X W intC (fun xs H Q => (∃ i, xs = [.int i] ∧ Q (.int i) H) ∨ ∃ k, xs = [.bl k] ∧ Q (.int (if k then 1 else 0)) H) := by
  intro θ H st ds vs Q hS r hp
  unfold intC at hp
  split at hp
  · obtain ⟨v, rfl, r1⟩ := reps1 r
    cases r1
    exact .inl ⟨_, rfl, hp θ H _ .refl hS rfl⟩
  · obtain ⟨v, rfl, r1⟩ := reps1 r
    cases r1
    exact .inr ⟨_, rfl, hp θ H _ .refl hS rfl⟩
  · exact hp.elim
def boolC : Cal := fun ds st => match ds with
  | [.int i] => .ok (.bl (i != 0)) st
  | [.bl k] => .ok (.bl k) st
  | _ => .stuck
theorem snd_bool : SndC X W boolC (fun xs H Q => (∃ i, xs = [.int i] ∧ Q (.bl (i != 0)) H) ∨ ∃ k, xs = [.bl k] ∧ Q (.bl k) H) := by
  intro θ H st ds vs Q hS r hp
  unfold boolC at hp
  split at hp
  · obtain ⟨v, rfl, r1⟩ := reps1 r
    cases r1
    exact .inl ⟨_, rfl, hp θ H _ .refl hS rfl⟩
  · obtain ⟨v, rfl, r1⟩ := reps1 r
    cases r1
    exact .inr ⟨_, rfl, hp θ H _ .refl hS rfl⟩
  · exact hp.elim
def strC : Cal := fun ds st => match ds with
  | [.int i] => if i.natAbs.log2 < 1920 then .ok (.str (toString i)) st else .stuck
  | _ => .stuck
theorem snd_str : SndC X W strC (fun xs H Q => ∃ i, xs = [.int i] ∧ i.natAbs.log2 < 1920 ∧ Q (.str (toString i)) H) := by
  intro θ H st ds vs Q hS r hp
  unfold strC at hp
  split at hp
  · split at hp
    · rename_i h
      obtain ⟨v, rfl, r1⟩ := reps1 r
      cases r1
      exact ⟨_, rfl, h, hp θ H _ .refl hS rfl⟩
    · exact hp.elim
  · exact hp.elim
/-! tuple, list, dict -/
def tupleC : Cal := fun ds st => match ds with
  | [d] => match view st d with
    | .tup xs => .ok (.tup xs) st
    | .lst xs => .ok (.tup xs) st
    | _ => .stuck
  | _ => .stuck
def rTuple (K : PySem.W.Frag) : List V → Hp → VK → Prop := fun xs H Q => ∃ p ys, xs = [.ref p] ∧ ((SqL K H p ys ∧ ∀ l, H l = none → Q (.ref l) (upd H l (.tup ys))) ∨ (SqT K H p ys ∧ Q (.ref p) H))
theorem snd_tuple : SndC X W tupleC (rTuple X.K) := by
  intro θ H st ds vs Q hS r hp
  unfold tupleC at hp
  split at hp
  · obtain ⟨v, rfl, r1⟩ := reps1 r
    split at hp
    · rename_i xs q
      obtain ⟨a, vs, rfl, t1, s1⟩ := view_tup r1 q
      exact ⟨a, vs, rfl, .inr ⟨.inl t1.1, hp θ H _ .refl hS ⟨a, vs, rfl, t1, s1⟩⟩⟩
    · rename_i xs q
      obtain ⟨a, vs, rfl, t1, s1⟩ := view_lst hS r1 q
      exact ⟨a, vs, rfl, .inl ⟨.inl (.inl t1), fun p hn => hp θ _ _ (Ext.new hS hn) (hS.new hn) (rep_tup hS hn s1)⟩⟩
    · exact hp.elim
  · exact hp.elim
def listC : Cal := fun ds st => match ds with
  | [d] => match view st d with
    | .tup xs => .ok (.lst xs) st
    | .lst xs => .ok (.lst xs) st
    | _ => .stuck
  | _ => .stuck
def listM : Cal := fun ds st => match ds with
  | [d] => match view st d with
    | .tup xs => .ok (.loc st.length) (st ++ [.lst xs])
    | .lst xs => .ok (.loc st.length) (st ++ [.lst xs])
    | _ => .stuck
  | _ => .stuck
def rList (K : PySem.W.Frag) : List V → Hp → VK → Prop := fun xs H Q => ∃ p ys, xs = [.ref p] ∧ (SqL K H p ys ∨ SqT K H p ys) ∧ ∀ l, H l = none → Q (.ref l) (upd H l (.lst ys))
theorem snd_list : SndC X W listC (rList X.K) := by
  intro θ H st ds vs Q hS r hp
  unfold listC at hp
  split at hp
  · obtain ⟨v, rfl, r1⟩ := reps1 r
    split at hp
    · rename_i xs q
      obtain ⟨a, vs, rfl, t1, s1⟩ := view_tup r1 q
      exact ⟨a, vs, rfl, .inr (.inl t1.1), fun p hn => hp θ _ _ (Ext.new hS hn) (hS.new hn) (rep_lst hS hn s1)⟩
    · rename_i xs q
      obtain ⟨a, vs, rfl, t1, s1⟩ := view_lst hS r1 q
      exact ⟨a, vs, rfl, .inl (.inl (.inl t1)), fun p hn => hp θ _ _ (Ext.new hS hn) (hS.new hn) (rep_lst hS hn s1)⟩
    · exact hp.elim
  · exact hp.elim
theorem snd_listM : SndC X W listM (rList X.K) := by
  intro θ H st ds vs Q hS r hp
  unfold listM at hp
  split at hp
  · obtain ⟨v, rfl, r1⟩ := reps1 r
    split at hp
    · rename_i xs q
      obtain ⟨a, vs, rfl, t1, s1⟩ := view_tup r1 q
      exact ⟨a, vs, rfl, .inr (.inl t1.1), fun p hn => post_alloc hp hS p hn ⟨vs, upd_same, s1.mono (Ext.alloc hS hn)⟩⟩
    · rename_i xs q
      obtain ⟨a, vs, rfl, t1, s1⟩ := view_lst hS r1 q
      exact ⟨a, vs, rfl, .inl (.inl (.inl t1)), fun p hn => post_alloc hp hS p hn ⟨vs, upd_same, s1.mono (Ext.alloc hS hn)⟩⟩
    · exact hp.elim
  · exact hp.elim
def dictC : Cal := fun ds st => match ds with
  | [d] => match view st d with
    | .dct xs => .ok (.dct xs) st
    | _ => .stuck
  | _ => .stuck
def dictM : Cal := fun ds st => match ds with
  | [d] => match view st d with
    | .dct xs => .ok (.loc st.length) (st ++ [.dct xs])
    | _ => .stuck
  | _ => .stuck
def rDict : List V → Hp → VK → Prop := fun xs H Q => ∃ a kvs, xs = [.ref a] ∧ Rd H a (.dK kvs) ∧ ∀ p, H p = none → Q (.ref p) (upd H p (.dK kvs))
theorem call_dictA : CallR X (.type "dict") rDict := by
  intro pins s σ H xs us Q I r h
  obtain ⟨a, kvs, rfl, ha, q⟩ := h
  obtain ⟨u, rfl, ru⟩ := vals1 r
  cases ru
  exact d_copyOf I ha fun p s' hn I' => ⟨.ref p, _, I', rfl, q p hn⟩
theorem rep_dct {K : PySem.W.Frag} {θ : Th} {H : Hp} {st : Stt} {p : Addr} {ds : List (Key × D)} {vs : List (Key × V)} (hS : RepSt K θ H st) (hn : H p = none) (r : RepKs K θ H ds vs) : Rep K θ (upd H p (.dK vs)) (.dct ds) (.ref p) :=
  ⟨p, vs, rfl, ⟨.inl upd_same, hS.free hn⟩, r.mono (Ext.new hS hn)⟩
theorem snd_dict : SndC X W dictC rDict := by
  intro θ H st ds vs Q hS r hp
  unfold dictC at hp
  split at hp
  · obtain ⟨v, rfl, r1⟩ := reps1 r
    split at hp
    · rename_i xs q
      obtain ⟨a, vs, rfl, t1, s1⟩ := view_dct hS r1 q
      exact ⟨a, vs, rfl, t1, fun p hn => hp θ _ _ (Ext.new hS hn) (hS.new hn) (rep_dct hS hn s1)⟩
    · exact hp.elim
  · exact hp.elim
theorem snd_dictM : SndC X W dictM rDict := by
  intro θ H st ds vs Q hS r hp
  unfold dictM at hp
  split at hp
  · obtain ⟨v, rfl, r1⟩ := reps1 r
    split at hp
    · rename_i xs q
      obtain ⟨a, vs, rfl, t1, s1⟩ := view_dct hS r1 q
      exact ⟨a, vs, rfl, t1, fun p hn => post_alloc hp hS p hn ⟨vs, upd_same, s1.mono (Ext.alloc hS hn)⟩⟩
    · exact hp.elim
  · exact hp.elim
/-! sum, any, all -/
def sumC : Cal := fun ds st => match ds with
  | [d] => match view st d with
    | .lst xs => match intsOf xs with
      | some ns => .ok (.int ns.sum) st
      | _ => .stuck
    | _ => .stuck
  | _ => .stuck
theorem snd_sum : SndC X W sumC (rSum X.K) := by
  intro θ H st ds vs Q hS r hp
  unfold sumC at hp
  split at hp
  · obtain ⟨v, rfl, r1⟩ := reps1 r
    split at hp
    · rename_i xs q
      split at hp
      · rename_i ns e
        obtain ⟨a, vs, rfl, t1, s1⟩ := view_lst hS r1 q
        rw [intsOf_eq e] at s1
        have s2 := s1.ints
        subst s2
        exact ⟨a, ns, rfl, .inl (.inl t1), hp θ H _ .refl hS rfl⟩
      · exact hp.elim
    · exact hp.elim
  · exact hp.elim
def allC : Cal := fun ds st => match ds with
  | [d] => match view st d with
    | .lst xs => match blsOf xs with
      | some ns => .ok (.bl (ns.all id)) st
      | _ => .stuck
    | _ => .stuck
  | _ => .stuck
def anyC : Cal := fun ds st => match ds with
  | [d] => match view st d with
    | .lst xs => match blsOf xs with
      | some ns => .ok (.bl (ns.any id)) st
      | _ => .stuck
    | _ => .stuck
  | _ => .stuck
theorem snd_all : SndC X W allC (rAll X.K) := by
  intro θ H st ds vs Q hS r hp
  unfold allC at hp
  split at hp
  · obtain ⟨v, rfl, r1⟩ := reps1 r
    split at hp
    · rename_i xs q
      split at hp
      · rename_i ns e
        obtain ⟨a, vs, rfl, t1, s1⟩ := view_lst hS r1 q
        rw [blsOf_eq e] at s1
        have s2 := s1.bls
        subst s2
        exact ⟨a, ns, rfl, .inl (.inl t1), hp θ H _ .refl hS rfl⟩
      · exact hp.elim
    · exact hp.elim
  · exact hp.elim
theorem snd_any : SndC X W anyC (rAny X.K) := by
  intro θ H st ds vs Q hS r hp
  unfold anyC at hp
  split at hp
  · obtain ⟨v, rfl, r1⟩ := reps1 r
    split at hp
    · rename_i xs q
      split at hp
      · rename_i ns e
        obtain ⟨a, vs, rfl, t1, s1⟩ := view_lst hS r1 q
        rw [blsOf_eq e] at s1
        have s2 := s1.bls
        subst s2
        exact ⟨a, ns, rfl, .inl (.inl t1), hp θ H _ .refl hS rfl⟩
      · exact hp.elim
    · exact hp.elim
  · exact hp.elim
/-! isinstance of a built-in class -/
def tyOf (st : Stt) : D → Option String
  | .non => some "NoneType"
  | .bl _ => some "bool"
  | .int _ => some "int"
  | .str _ => some "str"
  | .tup _ => some "tuple"
  | .lst _ => some "list"
  | .dct _ => some "dict"
  | .loc n => match st[n]? with
    | some (.lst _) => some "list"
    | some (.dct _) => some "dict"
    | some (.fz _) => some "dict"
    | _ => none
  | _ => none
def isiTab : List (String × String × Bool) :=
  ["NoneType", "bool", "int", "str", "tuple", "list", "dict"].flatMap fun a => ["bool", "int", "str", "tuple", "list", "dict"].map fun b => (a, b, a == b || (a == "bool" && b == "int"))
theorem isiTab_ok : ∀ p ∈ isiTab, kitB p.1 p.2.1 = some p.2.2 := by decide +kernel
def isiC : Cal := fun ds st => match ds with
  | [d, .ty b] => match tyOf st d with
    | some a => match isiTab.find? fun p => p.1 == a && p.2.1 == b with
      | some p => .ok (.bl p.2.2) st
      | none => .stuck
    | none => .stuck
  | _ => .stuck
theorem tyX_of {K : PySem.W.Frag} {θ : Th} {H : Hp} {st : Stt} {d : D} {v : V} {a : String} (hS : RepSt K θ H st) (r : Rep K θ H d v) (e : tyOf st d = some a) : TyX K H v (.type a) := by
  cases d with
  | non => cases e; cases r; exact .base .non
  | bl b => cases e; cases r; exact .base (.bl b)
  | int b => cases e; cases r; exact .base (.int b)
  | str b => cases e; cases r; exact .base (.str b)
  | tup xs =>
    cases e
    obtain ⟨p, vs, rfl, t1, _⟩ := r
    rcases t1.1 with h | ⟨o, h⟩
    · exact .base (.tup h)
    · exact .fTuple h
  | lst xs =>
    cases e
    obtain ⟨p, vs, rfl, t1, _⟩ := r
    exact .base (.lst t1)
  | dct xs =>
    cases e
    obtain ⟨p, vs, rfl, t1, _⟩ := r
    rcases t1.1 with h | ⟨o, h⟩
    · exact .base (.dK h)
    · exact .fDict h
  | loc n =>
    obtain ⟨p, rfl, hn⟩ := r
    have e : (match st[n]? with | some (.lst _) => some "list" | some (.dct _) => some "dict" | some (.fz _) => some "dict" | _ => none) = some a := e
    split at e
    · rename_i xs q
      cases e
      obtain ⟨p', vs, h0, h1, _⟩ := hS.lst q
      rw [h0] at hn; cases hn
      exact .base (.lst h1)
    · rename_i xs q
      cases e
      obtain ⟨p', vs, h0, h1, _⟩ := hS.dct q
      rw [h0] at hn; cases hn
      exact .base (.dK h1)
    · rename_i xs q
      cases e
      obtain ⟨p', o, vs, h0, h1, _⟩ := hS.fz q
      rw [h0] at hn; cases hn
      exact .fDict h1
    · cases e
  | _ => cases e
theorem snd_isi : SndC X W isiC (rIsi X.K) := by
  intro θ H st ds vs Q hS r hp
  unfold isiC at hp
  split at hp
  · obtain ⟨v, u, rfl, r1, r2⟩ := reps2 r
    cases r2
    split at hp
    · rename_i a ha
      split at hp
      · rename_i p hpf
        have hm := List.mem_of_find?_eq_some hpf
        have hq := List.find?_some hpf
        simp only [Bool.and_eq_true, beq_iff_eq] at hq
        have k := isiTab_ok p hm
        rw [hq.1, hq.2] at k
        exact ⟨v, .ty _, .type a, .type _, p.2.2, rfl, .ty _, tyX_of hS r1 ha, kit_ty k, hp θ H _ .refl hS rfl⟩
      · exact hp.elim
    · exact hp.elim
  · exact hp.elim
end
end DL
set_option maxHeartbeats 4000000
namespace DL
open PySem PySem.Spec PyProof.Rows L2

/-! ### statements -/
inductive SR where
  | nx (env : Env) (st : Stt) | rt (d : D) (st : Stt) | bk (env : Env) (st : Stt) | ct (env : Env) (st : Stt) | exc (x : Exn) (st : Stt) | stuck
abbrev DS := Env → Stt → SR
def Res.then {α : Type} (r : Res α) (k : α → Stt → SR) : SR := match r with
  | .ok a st => k a st
  | .exc x st => .exc x st
  | .stuck => .stuck
@[simp] theorem then_ok {α : Type} (a : α) (st : Stt) (k : α → Stt → SR) : (Res.ok a st).then k = k a st := rfl
@[simp] theorem then_exc {α : Type} (x : Exn) (st : Stt) (k : α → Stt → SR) : (Res.exc x st : Res α).then k = .exc x st := rfl
@[simp] theorem then_stuck {α : Type} (k : α → Stt → SR) : (Res.stuck : Res α).then k = .stuck := rfl
def postS (X : Cx) (W : WX) (θ : Th) (H : Hp) (Dn : Ends) : SR → Prop
  | .nx env st => ∀ θ' H' σ', Ext θ H θ' H' → RepSt X.K θ' H' st → RepE X.K θ' H' env σ' → Dn.nx σ' H'
  | .rt d st => ∀ θ' H' v, Ext θ H θ' H' → RepSt X.K θ' H' st → Rep X.K θ' H' d v → Dn.rt v H'
  | .bk env st => ∀ θ' H' σ', Ext θ H θ' H' → RepSt X.K θ' H' st → RepE X.K θ' H' env σ' → Dn.bk σ' H'
  | .ct env st => ∀ θ' H' σ', Ext θ H θ' H' → RepSt X.K θ' H' st → RepE X.K θ' H' env σ' → Dn.ct σ' H'
  | .exc x st => ∀ θ' H' c dd σ', Ext θ H θ' H' → RepSt X.K θ' H' st → RepX X.K X.mg θ' H' x c dd → W c dd σ' H'
  | .stuck => False
theorem postS.mono {X : Cx} {W : WX} {θ θ1 : Th} {H H1 : Hp} {Dn : Ends} {r : SR} (e : Ext θ H θ1 H1) (h : postS X W θ H Dn r) : postS X W θ1 H1 Dn r := by
  cases r with
  | nx env st => exact fun θ' H' b e' => h θ' H' b (e.trans e')
  | rt env st => exact fun θ' H' b e' => h θ' H' b (e.trans e')
  | bk env st => exact fun θ' H' b e' => h θ' H' b (e.trans e')
  | ct env st => exact fun θ' H' b e' => h θ' H' b (e.trans e')
  | exc x st => exact fun θ' H' c dd σ' e' => h θ' H' c dd σ' (e.trans e')
  | stuck => exact h
def trs (X : Cx) (W : WX) (f : DS) : TS := fun Dn σ H => ∃ θ env st, RepE X.K θ H env σ ∧ RepSt X.K θ H st ∧ postS X W θ H Dn (f env st)
/-- an expression's value, then a statement's rest -/
theorem post.then {α β : Type} {X : Cx} {W : WX} {rel : Rl α β} {θ : Th} {H : Hp} {Dn : Ends} {R : β → Hp → Prop} {r : Res α} {k : α → Stt → SR} (h : postS X W θ H Dn (r.then k))
    (q : ∀ θ1 H1 st1 a b, Ext θ H θ1 H1 → RepSt X.K θ1 H1 st1 → rel θ1 H1 a b → postS X W θ1 H1 Dn (k a st1) → R b H1) : post X W rel θ H R r := by
  cases r with
  | ok a st => exact fun θ' H' b e hs hr => q θ' H' st a b e hs hr (postS.mono e h)
  | exc x st => exact h
  | stuck => exact h
theorem _root_.L2.PS.imp {X : Cx} {s : Stmt} {t t' : TS} (h : PS X s t) (k : ∀ Dn σ H, t' Dn σ H → t Dn σ H) : PS X s t' := ⟨fun pins s σ H Dn I q => h.run pins s σ H Dn I (k Dn σ H q)⟩
theorem _root_.L2.PSs.imp {X : Cx} {s : List Stmt} {t t' : TS} (h : PSs X s t) (k : ∀ Dn σ H, t' Dn σ H → t Dn σ H) : PSs X s t' := ⟨fun pins s σ H Dn I q => h.run pins s σ H Dn I (k Dn σ H q)⟩
structure PDS (X : Cx) (W : WX) (s : Stmt) (f : DS) : Prop where
  ps : PS X s (trs X W f)
structure PDB (X : Cx) (W : WX) (s : List Stmt) (f : DS) : Prop where
  pss : PSs X s (trs X W f)
def sNil : DS := fun env st => .nx env st
def sSeq (f g : DS) : DS := fun env st => match f env st with
  | .nx env st => g env st
  | r => r
def sRet (f : DE) : DS := fun env st => (f env st).then fun d st => .rt d st
def sRetN : DS := fun _ st => .rt .non st
def sExpr (f : DE) : DS := fun env st => (f env st).then fun _ st => .nx env st
def sIf (t : DT) (f g : DS) : DS := fun env st => (t env st).then fun k st => if k = true then f env st else g env st
def sNever : DS := fun _ _ => .stuck
section
variable {X : Cx} {W : WX} {s : Stmt} {ss tt : List Stmt} {f g : DS} {e c : Expr} {fe : DE} {ft : DT} {pos : Pos}
theorem pdb_nil : PDB X W [] sNil := ⟨pss_nil.imp (by
  rintro Dn σ H ⟨θ, env, st, hE, hS, hp⟩
  exact hp θ H σ .refl hS hE)⟩
theorem pdb_one (h : PDS X W s f) : PDB X W [s] f := ⟨pss_one h.ps⟩
theorem pdb_cons (h : PDS X W s f) (h2 : PDB X W ss g) : PDB X W (s :: ss) (sSeq f g) := by
  refine ⟨(pss_cons h.ps h2.pss).imp ?_⟩
  rintro Dn σ H ⟨θ, env, st, hE, hS, hp⟩
  refine ⟨θ, env, st, hE, hS, ?_⟩
  have hp : postS X W θ H Dn (match f env st with | .nx env st => g env st | r => r) := hp
  cases q : f env st with
  | nx env1 st1 =>
    rw [q] at hp
    exact fun θ' H' σ' e hs he => ⟨θ', env1, st1, he, hs, postS.mono e hp⟩
  | rt d st1 => rw [q] at hp; exact hp
  | bk d st1 => rw [q] at hp; exact hp
  | ct d st1 => rw [q] at hp; exact hp
  | exc d st1 => rw [q] at hp; exact hp
  | stuck => rw [q] at hp; exact hp
theorem pds_ret (h : PD X W e fe) : PDS X W (.Return (some e) pos) (sRet fe) := by
  refine ⟨(ps_ret h.pe).imp ?_⟩
  rintro Dn σ H ⟨θ, env, st, hE, hS, hp⟩
  exact ⟨θ, env, st, hE, hS, post.then hp fun θ1 H1 st1 d v e1 hS1 r1 hp1 => hp1 θ1 H1 v .refl hS1 r1⟩
theorem pds_retN : PDS X W (.Return none pos) sRetN := by
  refine ⟨ps_retN.imp ?_⟩
  rintro Dn σ H ⟨θ, env, st, hE, hS, hp⟩
  exact hp θ H .non .refl hS rfl
theorem pds_expr (h : PD X W e fe) (hs : swapsWith e none pos.line X.env = pure false := by rfl) : PDS X W (.Expr e pos) (sExpr fe) := by
  refine ⟨(ps_expr h.pe hs).imp ?_⟩
  rintro Dn σ H ⟨θ, env, st, hE, hS, hp⟩
  exact ⟨θ, env, st, hE, hS, post.then hp fun θ1 H1 st1 d v e1 hS1 r1 hp1 => hp1 θ1 H1 σ .refl hS1 (hE.mono e1)⟩
theorem pds_if (hc : PDT X W c ft) (ha : PDB X W ss f) (hb : PDB X W tt g) : PDS X W (.If c ss tt pos) (sIf ft f g) := by
  refine ⟨(ps_if hc.pt ha.pss hb.pss).imp ?_⟩
  rintro Dn σ H ⟨θ, env, st, hE, hS, hp⟩
  refine ⟨θ, env, st, hE, hS, post.then hp fun θ1 H1 st1 d v e1 hS1 r1 hp1 => ?_⟩
  subst r1
  cases d with
  | true => exact ⟨θ1, env, st1, hE.mono e1, hS1, hp1⟩
  | false => exact ⟨θ1, env, st1, hE.mono e1, hS1, hp1⟩
theorem pds_pass : PDS X W (.Pass pos) sNil := ⟨ps_pass.imp (by
  rintro Dn σ H ⟨θ, env, st, hE, hS, hp⟩
  exact hp θ H σ .refl hS hE)⟩
theorem pds_never : PDS X W s sNever := ⟨ps_never.imp (by
  rintro Dn σ H ⟨θ, env, st, hE, hS, hp⟩
  exact (show False from hp).elim)⟩
theorem pdb_never : PDB X W ss sNever := ⟨pss_never.imp (by
  rintro Dn σ H ⟨θ, env, st, hE, hS, hp⟩
  exact (show False from hp).elim)⟩
def sBreak : DS := fun env st => .bk env st
def sCont : DS := fun env st => .ct env st
theorem pds_break : PDS X W (.Break pos) sBreak := ⟨ps_break.imp (by
  rintro Dn σ H ⟨θ, env, st, hE, hS, hp⟩
  exact hp θ H σ .refl hS hE)⟩
theorem pds_continue : PDS X W (.Continue pos) sCont := ⟨ps_continue.imp (by
  rintro Dn σ H ⟨θ, env, st, hE, hS, hp⟩
  exact hp θ H σ .refl hS hE)⟩
end

/-! ### targets -/
inductive Tg where
  | nm (i : Nat) | tp (ts : List Tg)
mutual
def Tg.slots : Tg → List Nat
  | .nm i => [i]
  | .tp ts => Tg.slotsL ts
def Tg.slotsL : List Tg → List Nat
  | [] => []
  | t :: ts => Tg.slots t ++ Tg.slotsL ts
end
mutual
def Tg.set : Tg → D → Env → Option Env
  | .nm i, d, env => some (env.set i (some d))
  | .tp ts, d, env => match d with
    | .tup xs => if xs.length = ts.length then Tg.setL ts xs env else none
    | _ => none
def Tg.setL : List Tg → List D → Env → Option Env
  | [], [], env => some env
  | t :: ts, x :: xs, env => match Tg.set t x env with
    | some env => Tg.setL ts xs env
    | none => none
  | _, _, _ => none
end
/-- what a target does to the slots -/
def Only1 (σ σ' : L2.St) (ls : List Nat) : Prop := σ'.length = σ.length ∧ ∀ j : Nat, j ∉ ls → σ'[j]? = σ[j]?
def trt1 (K : PySem.W.Frag) (t : Tg) : TG := fun v σ H Q => ∃ θ env d, RepE K θ H env σ ∧ Rep K θ H d v ∧ ∃ env1, t.set d env = some env1 ∧ ∀ σ1, RepE K θ H env1 σ1 → Only1 σ σ1 t.slots → Q σ1 H
def trtL (K : PySem.W.Frag) (ts : List Tg) : TGs := fun vs σ H Q => ∃ θ env ds, RepE K θ H env σ ∧ Reps K θ H ds vs ∧ ∃ env1, Tg.setL ts ds env = some env1 ∧ ∀ σ1, RepE K θ H env1 σ1 → Only1 σ σ1 (Tg.slotsL ts) → Q σ1 H
structure PDG (X : Cx) (e : Expr) (t : Tg) : Prop where
  pg : PG X e (trt1 X.K t)
structure PDGs (X : Cx) (e : List Expr) (t : List Tg) : Prop where
  pg : PGs X e (trtL X.K t)
theorem _root_.L2.PG.imp {X : Cx} {e : Expr} {t t' : TG} (h : PG X e t) (k : ∀ v σ H Q, t' v σ H Q → t v σ H Q) : PG X e t' := ⟨fun pins s σ H v u Q I r q => h.run pins s σ H v u Q I r (k v σ H Q q)⟩
theorem _root_.L2.PGs.imp {X : Cx} {e : List Expr} {t t' : TGs} (h : PGs X e t) (k : ∀ v σ H Q, t' v σ H Q → t v σ H Q) : PGs X e t' := ⟨fun pins s σ H v u Q I r q => h.run pins s σ H v u Q I r (k v σ H Q q)⟩
section
variable {X : Cx} {W : WX} {pos : Pos} {e : Expr} {es : List Expr}
theorem pdg_n (i : Nat) {x : Str} (hN : X.N.Nodup) (hi : X.N[i]? = some x := by rfl) (hx : Loc X.env.scope x := by first | exact Or.inl rfl | exact Or.inr rfl) (hf : X.fn x = true ∨ X.env.scope.names.lookup x = some .local := by first | exact .inl rfl | exact .inr rfl | assumption) : PDG X (.Name x pos) (.nm i) := by
  refine ⟨(pg_name hN hi hx hf).imp ?_⟩
  rintro v σ H Q ⟨θ, env, d, hE, hr, env1, h1, k⟩
  cases h1
  refine k _ (hE.set hr) ⟨by simp, fun j hj => ?_⟩
  rw [List.getElem?_set_ne]
  intro h; subst h; exact hj (by simp [Tg.slots])
theorem pdgs_nil : PDGs X [] [] := by
  refine ⟨pgs_nil.imp ?_⟩
  rintro vs σ H Q ⟨θ, env, ds, hE, hr, env1, h1, k⟩
  cases ds with
  | nil =>
    have h1 : some env = some env1 := h1
    cases h1
    cases (show vs = [] from hr)
    exact ⟨rfl, k σ hE ⟨rfl, fun _ _ => rfl⟩⟩
  | cons d ds => cases (show (none : Option Env) = some env1 from h1)
theorem pdgs_cons {t : Tg} {ts : List Tg} (h1 : PDG X e t) (h2 : PDGs X es ts) (hs : (assignEach (e :: es) X.env).map (·.2) = assign e X.env :: (assignEach es X.env).map (·.2) := by rfl) : PDGs X (e :: es) (t :: ts) := by
  refine ⟨(pgs_cons h1.pg h2.pg hs).imp ?_⟩
  rintro vs σ H Q ⟨θ, env, ds, hE, hr, env1, h1, k⟩
  cases ds with
  | nil => cases (show (none : Option Env) = some env1 from h1)
  | cons d ds =>
    obtain ⟨v, r, rfl, r1, r2⟩ := hr
    have h1 : (match t.set d env with | some env => Tg.setL ts ds env | none => none) = some env1 := h1
    cases q : t.set d env with
    | none => rw [q] at h1; cases h1
    | some env2 =>
      rw [q] at h1
      refine ⟨v, r, rfl, θ, env, d, hE, r1, env2, q, fun σ1 hE1 o1 => ?_⟩
      refine ⟨θ, env2, ds, hE1, r2, env1, h1, fun σ2 hE2 o2 => k σ2 hE2 ⟨o2.1.trans o1.1, fun j hj => ?_⟩⟩
      have hj : j ∉ t.slots ++ Tg.slotsL ts := hj
      simp only [List.mem_append, not_or] at hj
      exact (o2.2 j hj.2).trans (o1.2 j hj.1)
theorem pdg_t {k : Nat} {ts : List Tg} (hc : X.calm = true) (h : PDGs X es ts) (hn : (assignEach es X.env).length = ts.length := by rfl) (hst : (assignEach es X.env).findIdx? (·.1) = none := by rfl) : PDG X (.Tuple es k pos) (.tp ts) := by
  refine ⟨(pg_tup hc h.pg hn hst).imp ?_⟩
  rintro v σ H Q ⟨θ, env, d, hE, hr, env1, h1, k⟩
  cases d with
  | tup xs =>
    have h1 : (if xs.length = ts.length then Tg.setL ts xs env else none) = some env1 := h1
    split at h1
    · rename_i hl
      obtain ⟨a, vs, rfl, t1, s1⟩ := hr
      exact ⟨a, vs, rfl, .inl t1.1, by rw [← s1.length]; exact hl, θ, env, xs, hE, s1, env1, h1, k⟩
    · cases h1
  | _ => cases (show (none : Option Env) = some env1 from h1)
/-- target = e -/
def sAsg (t : Tg) (f : DE) : DS := fun env st => (f env st).then fun d st => match t.set d env with
  | some env => .nx env st
  | none => .stuck
variable {f g : DE}
theorem pds_set {i : Nat} {x : Str} {pos' : Pos} (hN : X.N.Nodup) (he : PD X W e f) (hi : X.N[i]? = some x := by rfl) (hx : Loc X.env.scope x := by first | exact Or.inl rfl | exact Or.inr rfl) (hs : swapsWith e (some (.Name x pos')) pos.line X.env = pure false := by rfl) (hf : X.fn x = true ∨ X.env.scope.names.lookup x = some .local := by first | exact .inl rfl | exact .inr rfl | assumption) :
    PDS X W (.Assign [.Name x pos'] e pos) (sAsg (.nm i) f) := by
  refine ⟨(ps_set hN hi hx he.pe hs hf).imp ?_⟩
  rintro Dn σ H ⟨θ, env, st, hE, hS, hp⟩
  refine ⟨θ, env, st, hE, hS, post.then hp fun θ1 H1 st1 d v e1 hS1 r1 hp1 => ?_⟩
  exact hp1 θ1 H1 _ .refl hS1 ((hE.mono e1).set r1)
theorem pds_asg {tg : Expr} {t : Tg} (he : PD X W e f) (hg : PDG X tg t) (hs : swapsWithSole [tg] e pos.line X.env = pure false := by rfl) (hw : swappedStores [tg] e X.env = pure none := by rfl)
    (h1 : (assignEach [tg] X.env).map (·.2) = [assign tg X.env] := by rfl) : PDS X W (.Assign [tg] e pos) (sAsg t f) := by
  refine ⟨(ps_asg he.pe hg.pg hs hw h1).imp ?_⟩
  rintro Dn σ H ⟨θ, env, st, hE, hS, hp⟩
  refine ⟨θ, env, st, hE, hS, post.then hp fun θ1 H1 st1 d v e1 hS1 r1 hp1 => ?_⟩
  cases q : t.set d env with
  | none => simp only [q] at hp1; exact hp1.elim
  | some env1 =>
    simp only [q] at hp1
    exact ⟨θ1, env, d, hE.mono e1, r1, env1, q, fun σ1 hE1 _ => hp1 θ1 H1 σ1 .refl hS1 hE1⟩
/-- a, b = x, y -/
def sPar (is : List Nat) (f : DA) : DS := fun env st => (f env st).then fun ds st => if ds.length = is.length then .nx ((is.zip ds).foldl (fun env p => env.set p.1 (some p.2)) env) st else .stuck
theorem pds_par2 {i j : Nat} {x y : Str} {a b : Expr} {fa : DA} {px py pt : Pos} {kt k2 pt2} (hc : X.calm = true) (hN : X.N.Nodup) (ha : PDA X W [a, b] fa) (hi : X.N[i]? = some x := by rfl) (hj : X.N[j]? = some y := by rfl) (hij : i ≠ j := by decide)
    (hx : X.env.scope.names.lookup x = some .local := by rfl) (hy : X.env.scope.names.lookup y = some .local := by rfl)
    (hw : swappedStores [.Tuple [.Name x px, .Name y py] kt pt] (.Tuple [a, b] k2 pt2) X.env = pure (some [x, y]) := by rfl)
    (hs : swapsWithSole [.Tuple [.Name x px, .Name y py] kt pt] (.Tuple [a, b] k2 pt2) pos.line X.env = pure false := by rfl) :
    PDS X W (.Assign [.Tuple [.Name x px, .Name y py] kt pt] (.Tuple [a, b] k2 pt2) pos) (sPar [i, j] fa) := by
  refine ⟨(ps_par hc hN hi hj hij hx hy ha.pa hw hs).imp ?_⟩
  rintro Dn σ H ⟨θ, env, st, hE, hS, hp⟩
  refine ⟨θ, env, st, hE, hS, post.then hp fun θ1 H1 st1 ds vs e1 hS1 r1 hp1 => ?_⟩
  split at hp1
  · rename_i hl
    match ds, hl with
    | [d, d'], _ =>
      obtain ⟨v, u, rfl, q1, q2⟩ := reps2 r1
      exact ⟨v, u, rfl, hp1 θ1 H1 _ .refl hS1 (((hE.mono e1).set q1).set q2)⟩
  · exact hp1.elim
theorem pds_par3 {i j l : Nat} {x y z : Str} {a b c : Expr} {fa : DA} {px py pz pt : Pos} {kt k2 pt2} (hc : X.calm = true) (hN : X.N.Nodup) (ha : PDA X W [a, b, c] fa) (hi : X.N[i]? = some x := by rfl) (hj : X.N[j]? = some y := by rfl) (hl : X.N[l]? = some z := by rfl) (hij : i ≠ j := by decide) (hil : i ≠ l := by decide) (hjl : j ≠ l := by decide)
    (hx : X.env.scope.names.lookup x = some .local := by rfl) (hy : X.env.scope.names.lookup y = some .local := by rfl) (hz : X.env.scope.names.lookup z = some .local := by rfl)
    (hw : swappedStores [.Tuple [.Name x px, .Name y py, .Name z pz] kt pt] (.Tuple [a, b, c] k2 pt2) X.env = pure (some [x, y, z]) := by rfl)
    (hs : swapsWithSole [.Tuple [.Name x px, .Name y py, .Name z pz] kt pt] (.Tuple [a, b, c] k2 pt2) pos.line X.env = pure false := by rfl) :
    PDS X W (.Assign [.Tuple [.Name x px, .Name y py, .Name z pz] kt pt] (.Tuple [a, b, c] k2 pt2) pos) (sPar [i, j, l] fa) := by
  refine ⟨(ps_par3 hc hN hi hj hl hij hil hjl hx hy hz ha.pa hw hs).imp ?_⟩
  rintro Dn σ H ⟨θ, env, st, hE, hS, hp⟩
  refine ⟨θ, env, st, hE, hS, post.then hp fun θ1 H1 st1 ds vs e1 hS1 r1 hp1 => ?_⟩
  split at hp1
  · rename_i hl
    match ds, hl with
    | [d, d', d''], _ =>
      obtain ⟨v, r, rfl, q1, q2⟩ := r1
      obtain ⟨u, w, rfl, q2, q3⟩ := reps2 q2
      exact ⟨v, u, w, rfl, hp1 θ1 H1 _ .refl hS1 ((((hE.mono e1).set q1).set q2).set q3)⟩
  · exact hp1.elim
/-! ### stores into a list, a dict -/
def setD (o i v : D) (st : Stt) : Option Stt := match o with
  | .loc n => match st[n]? with
    | some (.lst xs) => (match i with
      | .int k => (match ixN xs.length k with
        | some j => some (st.set n (.lst (xs.set j v)))
        | none => none)
      | _ => none)
    | some (.dct kvs) => (match keyOf i with
      | some k => if kvs.length < sizeLine then some (st.set n (.dct (kput kvs k v))) else none
      | none => none)
    | _ => none
  | _ => none
def rSet2 : TSet := fun o i v H Q => rSetL o i v H Q ∨ ∃ a H', o = .ref a ∧ DPut H a i v H' ∧ Q H'
theorem set_any (hu : X.A.units + 65 < cLine) : PSet X rSet2 := by
  intro pins s σ H o i v ov iv u Q I ro ri rv h
  rcases h with h | ⟨a, H', rfl, g, q⟩
  · exact set_list pins s σ H o i v ov iv u Q I ro ri rv h
  · cases ro
    exact d_setItem (by omega) I g ri rv fun s' I' => ⟨H', I', q⟩
theorem snd_set {θ : Th} {H : Hp} {st st' : Stt} {o i v : D} {ov iv vv : V} {Q : Hp → Prop} (hS : RepSt X.K θ H st) (ro : Rep X.K θ H o ov) (ri : Rep X.K θ H i iv) (rv : Rep X.K θ H v vv) (h : setD o i v st = some st')
    (k : ∀ H', Ext θ H θ H' → RepSt X.K θ H' st' → Q H') : rSet2 ov iv vv H Q := by
  cases o with
  | loc n =>
    obtain ⟨a, rfl, hn⟩ := ro
    unfold setD at h
    dsimp only at h
    cases q : st[n]? with
    | none => rw [q] at h; cases h
    | some ob =>
      rw [q] at h
      cases ob with
      | lst xs =>
        cases i with
        | int k' =>
          dsimp only at h
          cases hj : ixN xs.length k' with
          | none => rw [hj] at h; cases h
          | some j =>
            rw [hj] at h
            cases h
            obtain ⟨a', vs, h0, h1, h2⟩ := hS.lst q
            rw [h0] at hn; cases hn
            cases ri
            exact .inl ⟨a, vs, k', j, rfl, rfl, h1, by rw [← h2.length]; exact hj, k _ (Ext.put hS h0) (hS.put h0 ⟨_, upd_same, ((h2.set j rv).mono (Ext.put hS h0))⟩)⟩
        | _ => cases h
      | dct kvs =>
        dsimp only at h
        cases hk : keyOf i with
        | none => rw [hk] at h; cases h
        | some k' =>
          rw [hk] at h
          dsimp only at h
          split at h
          · rename_i hz
            cases h
            obtain ⟨a', vs, h0, h1, h2⟩ := hS.dct q
            rw [h0] at hn; cases hn
            have e2 := keyOf_rep ri hk
            subst e2
            exact .inr ⟨a, _, rfl, DPut.k (k := k') h1 (by rw [← h2.length]; exact hz), k _ (Ext.put hS h0) (hS.put h0 ⟨_, upd_same, ((kput_rep k' h2 rv).mono (Ext.put hS h0))⟩)⟩
          · cases h
      | _ => cases h
  | _ => cases h
def sPut (fo fi fv : DE) : DS := fun env st => (fv env st).then fun v st => (fo env st).then fun o st => (fi env st).then fun i st => match setD o i v st with
  | some st => .nx env st
  | none => .stuck
theorem pds_put {o i v : Expr} {fo fi fv : DE} {p1 : Pos} (hu : X.A.units + 65 < cLine) (ho : PD X W o fo) (hi : PD X W i fi) (hv : PD X W v fv)
    (hs : swapsWithSole [.Subscript o i p1] v pos.line X.env = pure false := by rfl) (hw : swappedStores [.Subscript o i p1] v X.env = pure none := by rfl)
    (h1 : (assignEach [.Subscript o i p1] X.env).map (·.2) = [assign (.Subscript o i p1) X.env] := by rfl)
    (ha : ∀ v, assign (.Subscript o i p1) X.env v = (do
      let ov ← holding [v] (eval o X.env)
      let iv ← holding [v, ov] (eval i X.env)
      standAt p1
      holding [v, ov, iv] (setItem ov iv v)
      release [v, ov, iv] []) := by intro _; rfl) : PDS X W (.Assign [.Subscript o i p1] v pos) (sPut fo fi fv) := by
  refine ⟨(ps_asg hv.pe (pg_sub ho.pe hi.pe (set_any hu) ha) hs hw h1).imp ?_⟩
  rintro Dn σ H ⟨θ, env, st, hE, hS, hp⟩
  refine ⟨θ, env, st, hE, hS, post.then hp fun θ1 H1 st1 d1 v1 e1 hS1 r1 hp1 => ?_⟩
  refine ⟨θ1, env, st1, hE.mono e1, hS1, post.then hp1 fun θ2 H2 st2 d2 v2 e2 hS2 r2 hp2 => ?_⟩
  refine ⟨θ2, env, st2, (hE.mono e1).mono e2, hS2, post.then hp2 fun θ3 H3 st3 d3 v3 e3 hS3 r3 hp3 => ?_⟩
  cases q : setD d2 d3 d1 st3 with
  | none => simp only [q] at hp3; exact hp3.elim
  | some st4 =>
    simp only [q] at hp3
    exact snd_set hS3 (r2.mono e3) r3 ((r1.mono e2).mono e3) q fun H' e4 hS4 => hp3 θ3 H' σ e4 hS4 ((((hE.mono e1).mono e2).mono e3).mono e4)
end
end DL
set_option maxHeartbeats 4000000
namespace DL
open PySem PySem.Spec PyProof.Rows L2

/-! ### while -/
def whileD (t : DT) (b : DS) : Nat → Env → Stt → SR
  | 0, _, _ => .stuck
  | n + 1, env, st => (t env st).then fun k st => if k = true then (match b env st with
    | .nx env st => whileD t b n env st
    | .ct env st => whileD t b n env st
    | .bk env st => .nx env st
    | r => r) else .nx env st
def wFuel : Nat := 100000
def sWhile (t : DT) (b : DS) : DS := fun env st => whileD t b wFuel env st
section
variable {X : Cx} {W : WX} {pos : Pos}
theorem pds_while {c : Expr} {body : List Stmt} {t : DT} {b : DS} (hp : PassesOwn (model X.prog X.w) X.A X.env X.xe) (hc : PDT X W c t) (hb : PDB X W body b) : PDS X W (.While c body [] pos) (sWhile t b) := by
  refine ⟨(ps_while hp hc.pt hb.pss).imp ?_⟩
  rintro Dn σ H ⟨θ, env, st, hE, hS, hp⟩
  refine ⟨fun m σ H => ∃ θ env st, RepE X.K θ H env σ ∧ RepSt X.K θ H st ∧ postS X W θ H Dn (whileD t b m env st), ⟨wFuel, θ, env, st, hE, hS, hp⟩, ?_⟩
  rintro m σ H ⟨θ, env, st, hE, hS, hp⟩
  cases m with
  | zero => exact (show False from hp).elim
  | succ m =>
    refine ⟨θ, env, st, hE, hS, post.then (show postS X W θ H Dn ((t env st).then _) from hp) fun θ1 H1 st1 k k' e1 hS1 r1 hp1 => ?_⟩
    subst r1
    cases k with
    | false => exact hp1 θ1 H1 σ .refl hS1 (hE.mono e1)
    | true =>
      rw [if_pos rfl]
      refine ⟨fun σ' H' => ∃ θ' env' st', RepE X.K θ' H' env' σ' ∧ RepSt X.K θ' H' st' ∧ postS X W θ' H' Dn (whileD t b m env' st'), fun σ' H' q => ⟨m, Nat.lt_succ_self m, q⟩, θ1, env, st1, hE.mono e1, hS1, ?_⟩
      have hp1 : postS X W θ1 H1 Dn (match b env st1 with
        | .nx env st => whileD t b m env st
        | .ct env st => whileD t b m env st
        | .bk env st => .nx env st
        | r => r) := hp1
      cases q : b env st1 with
      | nx env2 st2 => rw [q] at hp1; exact fun θ' H' σ' e hs he => ⟨θ', env2, st2, he, hs, postS.mono e hp1⟩
      | ct env2 st2 => rw [q] at hp1; exact fun θ' H' σ' e hs he => ⟨θ', env2, st2, he, hs, postS.mono e hp1⟩
      | bk env2 st2 => rw [q] at hp1; exact hp1
      | rt d st2 => rw [q] at hp1; exact hp1
      | exc d st2 => rw [q] at hp1; exact hp1
      | stuck => rw [q] at hp1; exact hp1

/-! ### what is walked -/
structure Walks (K : PySem.W.Frag) (J : It) (θ : Th) (H : Hp) (xs : List D) : Prop where
  go : ∀ θ' H' st i d, Ext θ H θ' H' → RepSt K θ' H' st → xs[i]? = some d → J.go i H' ∧ ∀ x H2, J.yld i H' x H2 → Ext θ' H' θ' H2 ∧ RepSt K θ' H2 st ∧ Rep K θ' H2 d x
  stop : ∀ θ' H', Ext θ H θ' H' → J.stop xs.length H'
abbrev DI := Env → Stt → Res (List D)
def tri (X : Cx) (W : WX) (f : DI) : TI := fun σ H R => ∃ θ env st, RepE X.K θ H env σ ∧ RepSt X.K θ H st ∧ match f env st with
  | .ok xs st => ∀ θ' H' J, Ext θ H θ' H' → RepSt X.K θ' H' st → Walks X.K J θ' H' xs → R J H'
  | .exc x st => ∀ θ' H' c dd σ', Ext θ H θ' H' → RepSt X.K θ' H' st → RepX X.K X.mg θ' H' x c dd → W c dd σ' H'
  | .stuck => False
structure PDI (X : Cx) (W : WX) (tg iter : Expr) (f : DI) : Prop where
  pi : PI X tg iter (tri X W f)
theorem _root_.L2.PI.imp {X : Cx} {tg it : Expr} {t t' : TI} (h : PI X tg it t) (k : ∀ σ H Q, t' σ H Q → t σ H Q) : PI X tg it t' := ⟨fun pins s σ H Q I q => h.run pins s σ H Q I (k σ H Q q)⟩
/-- a value, then what it walks -/
theorem post.tri {α β : Type} {rel : Rl α β} {θ : Th} {H : Hp} {R : It → Hp → Prop} {R' : β → Hp → Prop} {r : Res α} {g : α → Stt → Res (List D)}
    (h : match r.bind g with
      | .ok xs st => ∀ θ' H' J, Ext θ H θ' H' → RepSt X.K θ' H' st → Walks X.K J θ' H' xs → R J H'
      | .exc x st => ∀ θ' H' c dd σ', Ext θ H θ' H' → RepSt X.K θ' H' st → RepX X.K X.mg θ' H' x c dd → W c dd σ' H'
      | .stuck => False)
    (k : ∀ θ1 H1 st1 a b, Ext θ H θ1 H1 → RepSt X.K θ1 H1 st1 → rel θ1 H1 a b → (match g a st1 with
      | .ok xs st => ∀ θ' H' J, Ext θ1 H1 θ' H' → RepSt X.K θ' H' st → Walks X.K J θ' H' xs → R J H'
      | .exc x st => ∀ θ' H' c dd σ', Ext θ1 H1 θ' H' → RepSt X.K θ' H' st → RepX X.K X.mg θ' H' x c dd → W c dd σ' H'
      | .stuck => False) → R' b H1) : post X W rel θ H R' r := by
  cases r with
  | ok a st =>
    intro θ' H' b e hs hr
    refine k θ' H' st a b e hs hr ?_
    have h : match g a st with
      | .ok xs st => ∀ θ' H' J, Ext θ H θ' H' → RepSt X.K θ' H' st → Walks X.K J θ' H' xs → R J H'
      | .exc x st => ∀ θ' H' c dd σ', Ext θ H θ' H' → RepSt X.K θ' H' st → RepX X.K X.mg θ' H' x c dd → W c dd σ' H'
      | .stuck => False := h
    cases q : g a st with
    | ok xs st => rw [q] at h; exact fun θ2 H2 J e2 => h θ2 H2 J (e.trans e2)
    | exc x st => rw [q] at h; exact fun θ2 H2 c dd σ' e2 => h θ2 H2 c dd σ' (e.trans e2)
    | stuck => rw [q] at h; exact h
  | exc x st => exact h
  | stuck => exact h
theorem walks_lst {K : PySem.W.Frag} {θ : Th} {H : Hp} {a : Addr} {vs : List V} {xs : List D} (h : H a = some (.lst vs)) (n : ¬ Own θ a) (r : Reps K θ H xs vs) : Walks K (Itl K a) θ H xs := by
  refine ⟨fun θ' H' st i d e hS hd => ?_, fun θ' H' e => ?_⟩
  · obtain ⟨h1, _⟩ := e.keep a _ h n
    obtain ⟨v, hv, rv⟩ := r.get hd
    refine ⟨⟨vs, v, .inl (.inl h1), hv⟩, fun x H2 y => ?_⟩
    obtain ⟨rfl, y⟩ := y
    have := y vs (.inl (.inl h1))
    rw [hv] at this
    cases this
    exact ⟨.refl, hS, rv.mono e⟩
  · obtain ⟨h1, _⟩ := e.keep a _ h n
    exact ⟨vs, .inl (.inl h1), by rw [r.length]; exact Nat.le_refl _⟩
theorem walks_tup {K : PySem.W.Frag} {θ : Th} {H : Hp} {a : Addr} {vs : List V} {xs : List D} (h : Tr θ H a (.tup vs)) (r : Reps K θ H xs vs) : Walks K (Itt K a) θ H xs := by
  refine ⟨fun θ' H' st i d e hS hd => ?_, fun θ' H' e => ?_⟩
  · obtain ⟨v, hv, rv⟩ := r.get hd
    refine ⟨⟨vs, v, .inl (h.mono e).1, hv⟩, fun x H2 y => ?_⟩
    obtain ⟨rfl, y⟩ := y
    have := y vs (.inl (h.mono e).1)
    rw [hv] at this
    cases this
    exact ⟨.refl, hS, rv.mono e⟩
  · exact ⟨vs, .inl (h.mono e).1, by rw [r.length]; exact Nat.le_refl _⟩
def rngL (lo : Int) (n : Nat) : List D := (List.range n).map fun i => .int (lo + (i : Nat))
theorem walks_rng {K : PySem.W.Frag} {θ : Th} {H : Hp} {lo : Int} {n : Nat} : Walks K (Itr lo n) θ H (rngL lo n) := by
  refine ⟨fun θ' H' st i d e hS hd => ?_, fun θ' H' e => ?_⟩
  · unfold rngL at hd
    rw [List.getElem?_map] at hd
    have hi : i < n := by
      rcases Nat.lt_or_ge i n with h | h
      · exact h
      · rw [List.getElem?_eq_none (by simp; omega)] at hd; cases hd
    rw [List.getElem?_range hi] at hd
    cases hd
    refine ⟨hi, fun x H2 y => ?_⟩
    obtain ⟨rfl, rfl⟩ := y
    exact ⟨.refl, hS, rfl⟩
  · show n ≤ (rngL lo n).length
    simp [rngL]
/-! by values -/
def ItR (X : Cx) (tg : Expr) (k : V → Hp → (It → Hp → Prop) → Prop) : Prop := ∀ (pins : List (Addr × Obj)) (s : Shared) (σ : L2.St) (H : Hp) (x : V) (v : Value) (R : It → Hp → Prop), Inv X pins σ H s → RelV x v → k x H R → wpAny (model X.prog X.w) X.A (pyIter v) (PIE X pins σ tg R) X.xe s
variable {tg e e' : Expr} {f g : DE}
theorem pi_of {t : TE} {k : V → Hp → (It → Hp → Prop) → Prop} (he : PE X e t) (hk : ItR X tg k) : PI X tg e (fun σ H R => t σ H fun x H1 => k x H1 R) :=
  ⟨fun pins s σ H R I h => thn (he.run pins s σ H _ I h) fun v s1 ⟨x, H1, I1, r1, q1⟩ => hk pins s1 σ H1 x v R I1 r1 q1⟩
def kList (K : PySem.W.Frag) : V → Hp → (It → Hp → Prop) → Prop := fun x H1 R => ∃ a, x = .ref a ∧ (∃ xs, SqL K H1 a xs) ∧ R (Itl K a) H1
def kTupl (K : PySem.W.Frag) : V → Hp → (It → Hp → Prop) → Prop := fun x H1 R => ∃ a, x = .ref a ∧ (∃ xs, SqT K H1 a xs) ∧ R (Itt K a) H1
def kStr : V → Hp → (It → Hp → Prop) → Prop := fun v H1 R => ∃ x, v = .str x ∧ R (Its x) H1
theorem itr_list : ItR X tg (kList X.K) := by
  rintro pins s1 σ H1 x v R I1 r1 ⟨a, e, ⟨xs, hq⟩, q⟩
  subst e
  cases r1
  obtain ⟨its, rv, p, hz⟩ := I1.list hq
  refine wpAny_pyIter_list p.isList ?_
  refine ⟨s1.heap.objs.size, [s1.heap.objs.size], _, _, H1, rfl, I1.kept (t' := s1.toks) fun b o e => Heap.get?_push_of_some _ e, turn_list a _, ⟨_, Heap.get?_push_size _ rfl, rfl, rfl⟩, fun b hb => ?_, q⟩
  have e : b = s1.heap.objs.size := by simpa using hb
  subst e
  exact I1.fpOk (Nat.le_refl _) (I1.hok.fresh (Nat.le_refl _))
theorem itr_tup : ItR X tg (kTupl X.K) := by
  rintro pins s1 σ H1 x v R I1 r1 ⟨a, e, ⟨xs, hq⟩, q⟩
  subst e
  cases r1
  obtain ⟨its, rv, p, hz⟩ := I1.tuple hq
  refine wpAny_pyIter_tuple (show s1.heap.IsTuple a its.toArray from p) ?_
  refine ⟨s1.heap.objs.size, [s1.heap.objs.size], _, _, H1, rfl, I1.kept (t' := s1.toks) fun b o e => Heap.get?_push_of_some _ e, turn_tuple a _, ⟨_, Heap.get?_push_size _ rfl, rfl, rfl⟩, fun b hb => ?_, q⟩
  have e : b = s1.heap.objs.size := by simpa using hb
  subst e
  exact I1.fpOk (Nat.le_refl _) (I1.hok.fresh (Nat.le_refl _))
theorem itr_str : ItR X tg kStr := by
  rintro pins s1 σ H1 y v R I1 r1 ⟨x, ex, q⟩
  subst ex
  obtain ⟨t, rfl⟩ := r1
  cases ha : x.cps.all (· < 128)
  · exact wpAny_pyIter_wide ha (pi_one (tk := s1.toks) I1 _ (turn_str _ x t "str_iterator" (.inr rfl)) ⟨_, Heap.get?_push_size _ rfl, rfl, rfl⟩ q)
  · exact wpAny_pyIter_ascii ha (pi_one (tk := s1.toks) I1 _ (turn_str _ x t "str_ascii_iterator" (.inl rfl)) ⟨_, Heap.get?_push_size _ rfl, rfl, rfl⟩ q)
theorem ItR.or {k k' : V → Hp → (It → Hp → Prop) → Prop} (h : ItR X tg k) (h' : ItR X tg k') : ItR X tg (fun x H R => k x H R ∨ k' x H R) :=
  fun pins s σ H x v R I r q => q.elim (h pins s σ H x v R I r) (h' pins s σ H x v R I r)
theorem walks_str {K : PySem.W.Frag} {θ : Th} {H : Hp} {z : Str} : Walks K (Its z) θ H (z.cps.toList.map fun c => .str ⟨#[c]⟩) := by
  refine ⟨fun θ' H' st i d e hS hd => ?_, fun θ' H' e => ?_⟩
  · rw [List.getElem?_map, Array.getElem?_toList] at hd
    cases q : z.cps[i]? with
    | none => rw [q] at hd; cases hd
    | some c =>
      rw [q] at hd
      cases hd
      refine ⟨(Array.getElem?_eq_some_iff.mp q).1, fun x H2 y => ?_⟩
      obtain ⟨rfl, c', hc, rfl⟩ := y
      rw [q] at hc; cases hc
      exact ⟨.refl, hS, rfl⟩
  · show z.cps.size ≤ _
    simp
def iterD (d : D) (st : Stt) : Res (List D) := match d with
  | .lst xs => .ok xs st
  | .tup xs => .ok xs st
  | .str z => .ok (z.cps.toList.map fun c => .str ⟨#[c]⟩) st
  | _ => .stuck
def iVal (f : DE) : DI := fun env st => (f env st).bind iterD
/-- over a list, a tuple, a text -/
theorem pdi_val (he : PD X W e f) : PDI X W tg e (iVal f) := by
  refine ⟨(pi_of he.pe (ItR.or itr_list (ItR.or itr_tup itr_str))).imp ?_⟩
  rintro σ H R ⟨θ, env, st, hE, hS, hp⟩
  refine ⟨θ, env, st, hE, hS, post.tri (rel := Rep X.K) (g := iterD) hp fun θ1 H1 st1 a b e1 hS1 r1 hp1 => ?_⟩
  cases a with
  | lst xs =>
    obtain ⟨p, vs, rfl, h1, h2, h3⟩ := r1
    exact .inl ⟨p, rfl, ⟨vs, .inl (.inl h1)⟩, hp1 θ1 H1 _ .refl hS1 (walks_lst h1 h2 h3)⟩
  | tup xs =>
    obtain ⟨p, vs, rfl, h1, h3⟩ := r1
    exact .inr (.inl ⟨p, rfl, ⟨vs, .inl h1.1⟩, hp1 θ1 H1 _ .refl hS1 (walks_tup h1 h3)⟩)
  | str z =>
    cases r1
    exact .inr (.inr ⟨z, rfl, hp1 θ1 H1 _ .refl hS1 walks_str⟩)
  | _ => exact (show False from hp1).elim
/-- over a range -/
def rng1D (ds : List D) (st : Stt) : Res (List D) := match ds with
  | [.int j] => if -(2 ^ 62) ≤ j ∧ j < 2 ^ 62 then .ok (rngL 0 j.toNat) st else .stuck
  | _ => .stuck
def rng2D (ds : List D) (st : Stt) : Res (List D) := match ds with
  | [.int i, .int j] => if -(2 ^ 62) ≤ i ∧ i < 2 ^ 62 ∧ -(2 ^ 62) ≤ j ∧ j < 2 ^ 62 then .ok (rngL i (j - i).toNat) st else .stuck
  | _ => .stuck
def iArg (k : List D → Stt → Res (List D)) (f : DA) : DI := fun env st => (f env st).bind k
variable {fa : DA} {p : Pos}
theorem pdi_rng1 (hg : Gl X "range") (hm : X.mg "range" = none) (ha : PDA X W [e] fa) (hs : starEach [e] X.env = [(false, eval e X.env)] := by rfl) : PDI X W tg (.Call (.Name "range" p) [e] [] pos) (iArg rng1D fa) := by
  refine ⟨(pi_range1 hg hm ha.pa hs).imp ?_⟩
  rintro σ H R ⟨θ, env, st, hE, hS, hp⟩
  refine ⟨θ, env, st, hE, hS, post.tri (rel := Reps X.K) (g := rng1D) hp fun θ1 H1 st1 a b e1 hS1 r1 hp1 => ?_⟩
  unfold rng1D at hp1
  split at hp1
  · rename_i xs st2 q
    split at q
    · split at q
      · rename_i hb
        cases q
        obtain ⟨v, rfl, r2⟩ := reps1 r1
        cases r2
        exact ⟨_, rfl, hb.1, hb.2, hp1 θ1 H1 _ .refl hS1 walks_rng⟩
      · cases q
    · cases q
  · rename_i q
    split at q
    · split at q <;> cases q
    · cases q
  · exact hp1.elim
theorem pdi_rng2 (hg : Gl X "range") (hm : X.mg "range" = none) (ha : PDA X W [e, e'] fa) (hs : starEach [e, e'] X.env = [(false, eval e X.env), (false, eval e' X.env)] := by rfl) (hs2 : starEach [e'] X.env = [(false, eval e' X.env)] := by rfl) : PDI X W tg (.Call (.Name "range" p) [e, e'] [] pos) (iArg rng2D fa) := by
  refine ⟨(pi_range2 hg hm ha.pa hs hs2).imp ?_⟩
  rintro σ H R ⟨θ, env, st, hE, hS, hp⟩
  refine ⟨θ, env, st, hE, hS, post.tri (rel := Reps X.K) (g := rng2D) hp fun θ1 H1 st1 a b e1 hS1 r1 hp1 => ?_⟩
  unfold rng2D at hp1
  split at hp1
  · rename_i xs st2 q
    split at q
    · split at q
      · rename_i hb
        cases q
        obtain ⟨v, u, rfl, r2, r3⟩ := reps2 r1
        cases r2; cases r3
        exact ⟨_, _, rfl, hb, hp1 θ1 H1 _ .refl hS1 walks_rng⟩
      · cases q
    · cases q
  · rename_i q
    split at q
    · split at q <;> cases q
    · cases q
  · exact hp1.elim
/-! for -/
def forD (t : Tg) (b : DS) : List D → Env → Stt → SR
  | [], env, st => .nx env st
  | x :: xs, env, st => match t.set x env with
    | none => .stuck
    | some env => match b env st with
      | .nx env st => forD t b xs env st
      | .ct env st => forD t b xs env st
      | .bk env st => .nx env st
      | r => r
def sFor (it : DI) (t : Tg) (b : DS) : DS := fun env st => match it env st with
  | .ok xs st => forD t b xs env st
  | .exc x st => .exc x st
  | .stuck => .stuck
theorem pds_for {iter : Expr} {body : List Stmt} {it : DI} {t : Tg} {b : DS} (hp : PassesOwn (model X.prog X.w) X.A X.env X.xe) (hc : X.calm = true) (hi : PDI X W tg iter it) (hg : PDG X tg t) (hb : PDB X W body b)
    (hs : ∀ x, foldedSetIterable iter X.env x = pure x := by intro _; rfl) : PDS X W (.For tg iter body [] pos) (sFor it t b) := by
  refine ⟨(ps_for hp hc hi.pi hg.pg hb.pss hs).imp ?_⟩
  rintro Dn σ H ⟨θ, env, st, hE, hS, hp⟩
  have hp : postS X W θ H Dn (match it env st with
    | .ok xs st => forD t b xs env st
    | .exc x st => .exc x st
    | .stuck => .stuck) := hp
  refine ⟨θ, env, st, hE, hS, ?_⟩
  cases q : it env st with
  | stuck => rw [q] at hp; exact hp
  | exc x st1 => rw [q] at hp; exact hp
  | ok xs st1 =>
    rw [q] at hp
    intro θ1 H1 J e1 hS1 wk
    refine ⟨fun i m σ' H' => m = xs.length - i ∧ i ≤ xs.length ∧ ∃ θ' env' st', Ext θ1 H1 θ' H' ∧ RepE X.K θ' H' env' σ' ∧ RepSt X.K θ' H' st' ∧ postS X W θ' H' Dn (forD t b (xs.drop i) env' st'), ⟨xs.length, by simp, Nat.zero_le _, θ1, env, st1, .refl, hE.mono e1, hS1, postS.mono e1 hp⟩, ?_⟩
    rintro i m σ' H' ⟨rfl, hi, θ', env', st', e', hE', hS', hp'⟩
    by_cases hlt : i < xs.length
    · have hd : xs[i]? = some xs[i] := List.getElem?_eq_getElem hlt
      obtain ⟨go, yl⟩ := wk.go θ' H' st' i xs[i] e' hS' hd
      refine .inr ⟨go, fun σ2 H2 => ∃ θ2 env2 st2, Ext θ1 H1 θ2 H2 ∧ RepE X.K θ2 H2 env2 σ2 ∧ RepSt X.K θ2 H2 st2 ∧ postS X W θ2 H2 Dn (forD t b (xs.drop (i + 1)) env2 st2), fun σ2 H2 ⟨θ2, env2, st2, a1, a2, a3, a4⟩ => ⟨xs.length - (i + 1), by omega, rfl, hlt, θ2, env2, st2, a1, a2, a3, a4⟩, fun x H2 y => ?_⟩
      obtain ⟨e2, hS2, r2⟩ := yl x H2 y
      have hp2 := postS.mono e2 hp'
      rw [List.drop_eq_getElem_cons hlt] at hp2
      have hp2 : postS X W θ' H2 Dn (match t.set xs[i] env' with
        | none => .stuck
        | some env => match b env st' with
          | .nx env st => forD t b (xs.drop (i + 1)) env st
          | .ct env st => forD t b (xs.drop (i + 1)) env st
          | .bk env st => .nx env st
          | r => r) := hp2
      cases q2 : t.set xs[i] env' with
      | none => rw [q2] at hp2; exact hp2.elim
      | some env2 =>
        rw [q2] at hp2
        refine ⟨θ', env', xs[i], hE'.mono e2, r2, env2, q2, fun σ3 hE3 _ => ?_⟩
        refine ⟨θ', env2, st', hE3, hS2, ?_⟩
        have hp2 : postS X W θ' H2 Dn (match b env2 st' with
          | .nx env st => forD t b (xs.drop (i + 1)) env st
          | .ct env st => forD t b (xs.drop (i + 1)) env st
          | .bk env st => .nx env st
          | r => r) := hp2
        cases q3 : b env2 st' with
        | nx env4 st4 => rw [q3] at hp2; exact fun θ4 H4 σ4 e4 hs4 he4 => ⟨θ4, env4, st4, (e'.trans e2).trans e4, he4, hs4, postS.mono e4 hp2⟩
        | ct env4 st4 => rw [q3] at hp2; exact fun θ4 H4 σ4 e4 hs4 he4 => ⟨θ4, env4, st4, (e'.trans e2).trans e4, he4, hs4, postS.mono e4 hp2⟩
        | bk env4 st4 => rw [q3] at hp2; exact hp2
        | rt d st4 => rw [q3] at hp2; exact hp2
        | exc d st4 => rw [q3] at hp2; exact hp2
        | stuck => rw [q3] at hp2; exact hp2
    · have e : i = xs.length := by omega
      subst e
      refine .inl ⟨wk.stop θ' H' e', ?_⟩
      rw [List.drop_length] at hp'
      exact hp' θ' H' σ' .refl hS' hE'
end

/-! ### comprehensions -/
abbrev WF : WX := fun _ _ _ _ => False
def wipeE (env : Env) : List Nat → Env
  | [] => env
  | v :: vs => (wipeE env vs).set v none
theorem RepE.wipe {K : PySem.W.Frag} {θ : Th} {H : Hp} {env : Env} {σ : L2.St} (R : RepE K θ H env σ) : ∀ vs : List Nat, RepE K θ H (wipeE env vs) (L2.wipe σ vs)
  | [] => R
  | v :: vs => by
    have ih := RepE.wipe R vs
    refine ⟨by show ((wipeE env vs).set v none).length = ((L2.wipe σ vs).set v none).length; simp [ih.len], fun i d h => ?_⟩
    have h : ((wipeE env vs).set v none)[i]? = some (some d) := h
    show ∃ w, ((L2.wipe σ vs).set v none)[i]? = some (some w) ∧ _
    by_cases e : v = i
    · subst e
      by_cases hl : v < (wipeE env vs).length
      · rw [List.getElem?_set_self hl] at h; cases h
      · rw [List.getElem?_eq_none (by simp; omega)] at h; cases h
    · rw [List.getElem?_set_ne e] at h ⊢
      exact ih.val i d h
theorem wipe_get {σ : L2.St} {i : Nat} : ∀ {vs : List Nat}, i ∈ vs → i < σ.length → (L2.wipe σ vs)[i]? = some none
  | v :: vs, hm, hl => by
    show ((L2.wipe σ vs).set v none)[i]? = _
    by_cases e : v = i
    · subst e
      rw [List.getElem?_set_self (by rw [wipe_length]; exact hl)]
    · rw [List.getElem?_set_ne e]
      rcases List.mem_cons.mp hm with h | h
      · exact absurd h.symm e
      · exact wipe_get h hl
theorem wipe_get' {σ : L2.St} {i : Nat} : ∀ {vs : List Nat}, i ∉ vs → (L2.wipe σ vs)[i]? = σ[i]?
  | [], _ => rfl
  | v :: vs, hm => by
    simp only [List.mem_cons, not_or] at hm
    show ((L2.wipe σ vs).set v none)[i]? = _
    rw [List.getElem?_set_ne (fun e => hm.1 e.symm)]
    exact wipe_get' hm.2
theorem wipe_only {σ σ1 : L2.St} {ls vs : List Nat} (h : Only1 (L2.wipe σ vs) σ1 ls) (hs : ∀ i ∈ ls, i ∈ vs) : L2.wipe σ1 vs = L2.wipe σ vs := by
  apply List.ext_getElem?
  intro i
  have hl : σ1.length = σ.length := by rw [h.1, wipe_length]
  by_cases hi : i ∈ vs
  · by_cases hlt : i < σ.length
    · rw [wipe_get hi hlt, wipe_get hi (by rw [hl]; exact hlt)]
    · rw [List.getElem?_eq_none (by rw [wipe_length]; omega), List.getElem?_eq_none (by rw [wipe_length]; omega)]
  · rw [wipe_get' hi, wipe_get' hi, h.2 i (fun z => hi (hs i z)), wipe_get' hi]
def lcD (t : Tg) (tt : DT) (el : DE) (env : Env) : List D → Stt → List D → Res D
  | [], st, acc => .ok (.lst acc) st
  | x :: xs, st, acc => match t.set x env with
    | none => .stuck
    | some env1 => match tt env1 st with
      | .ok true st => (match el env1 st with
        | .ok d st => if acc.length < sizeLine then lcD t tt el env xs st (acc ++ [d]) else .stuck
        | _ => .stuck)
      | .ok false st => lcD t tt el env xs st acc
      | _ => .stuck
def eLc (it : DI) (t : Tg) (tt : DT) (el : DE) (vs : List Nat) : DE := fun env st => match it env st with
  | .ok xs st => lcD t tt el (wipeE env vs) xs st []
  | .exc x st => .exc x st
  | .stuck => .stuck
theorem ExtW.grow {θ : Th} {H : Hp} {p : Addr} {o : HO} (hp : p ∈ θ.h) : ExtW θ H θ (upd H p o) :=
  ⟨fun _ _ h => h, fun b u h n => ⟨by rw [upd_ne (fun e => n (.inr (by rw [e]; exact hp)))]; exact h, n⟩⟩
theorem RepE.monoW {K : PySem.W.Frag} {θ θ' : Th} {H H' : Hp} {env : Env} {σ : L2.St} (R : RepE K θ H env σ) (e : ExtW θ H θ' H') : RepE K θ' H' env σ :=
  ⟨R.len, fun i d h => let ⟨v, h1, h2⟩ := R.val i d h; ⟨v, h1, h2.monoW e⟩⟩
theorem RepSt.grow {K : PySem.W.Frag} {θ : Th} {H : Hp} {st : Stt} {p : Addr} {o : HO} (R : RepSt K θ H st) (hp : p ∈ θ.h) : RepSt K θ (upd H p o) st := by
  have e := ExtW.grow (H := H) (o := o) hp
  have ne : ∀ {i : Nat} {a}, θ.l[i]? = some (some a) → a ≠ p := fun {i a} h q => R.hdis p hp (by rw [← q]; exact List.mem_of_getElem? h)
  refine ⟨R.len, fun b hb => ?_, R.hdis, R.inj, fun n => ?_⟩
  · by_cases hb2 : b = p
    · subst hb2; exact ⟨o, upd_same⟩
    · rw [upd_ne hb2]; exact R.hlive b hb
  · have q := R.obj n
    split at q
    · trivial
    · exact q
    · obtain ⟨a, vs, h1, h2, h3⟩ := q
      exact ⟨a, vs, h1, by rw [upd_ne (ne h1)]; exact h2, h3.monoW e⟩
    · obtain ⟨a, vs, h1, h2, h3⟩ := q
      exact ⟨a, vs, h1, by rw [upd_ne (ne h1)]; exact h2, h3.monoW e⟩
    · obtain ⟨a, o, vs, h1, h2, h3⟩ := q
      exact ⟨a, o, vs, h1, by rw [upd_ne (ne h1)]; exact h2, h3.monoW e⟩
    · exact q.elim
/-- from a state where D0 was hidden on top, back to one where it is a value -/
theorem Ext.unhide {θ0 θ1 : Th} {H0 H1 : Hp} {p : Addr} (hp : H0 p = none) (e : Ext (θ0.hide p) H0 θ1 H1) (hh : ∃ r, θ1.h = p :: r ∧ r = θ0.h) : True := trivial
/-- the hidden part of a comprehension's turn: everything else may have grown -/
structure LcSt (K : PySem.W.Frag) (θ0 : Th) (H0 : Hp) (p : Addr) (θ : Th) (H : Hp) (st : Stt) (acc : List D) (env : Env) (σ : L2.St) : Prop where
  hd : p ∈ θ.h
  pre : ∀ (n : Nat) (a : Addr), θ0.l[n]? = some (some a) → θ.l[n]? = some (some a)
  keep : ∀ b o, H0 b = some o → ¬ Own θ0 b → H b = some o ∧ ¬ Own θ b
  hid : ∀ b, b ∈ θ0.h → b ∈ θ.h ∧ H b = H0 b
  st : RepSt K θ H st
  env : RepE K θ H env σ
  acc : ∃ vs, H p = some (.lst vs) ∧ Reps K θ H acc vs
def Th.drop (θ : Th) (p : Addr) : Th := ⟨θ.l, θ.h.filter fun b => decide (b ≠ p)⟩
theorem ExtW.drop {θ : Th} {H : Hp} {p : Addr} : ExtW θ H (θ.drop p) H :=
  ⟨fun _ _ h => h, fun b o h n => ⟨h, fun z => n (z.imp id fun z => (List.mem_filter.mp z).1)⟩⟩
theorem RepSt.drop {K : PySem.W.Frag} {θ : Th} {H : Hp} {st : Stt} (p : Addr) (R : RepSt K θ H st) : RepSt K (θ.drop p) H st := by
  have e := ExtW.drop (θ := θ) (H := H) (p := p)
  refine ⟨R.len, fun b hb => R.hlive b (List.mem_filter.mp hb).1, fun b hb => R.hdis b (List.mem_filter.mp hb).1, R.inj, fun n => ?_⟩
  have q := R.obj n
  split at q
  · trivial
  · exact q
  · obtain ⟨a, vs, h1, h2, h3⟩ := q; exact ⟨a, vs, h1, h2, h3.monoW e⟩
  · obtain ⟨a, vs, h1, h2, h3⟩ := q; exact ⟨a, vs, h1, h2, h3.monoW e⟩
  · obtain ⟨a, o, vs, h1, h2, h3⟩ := q; exact ⟨a, o, vs, h1, h2, h3.monoW e⟩
  · exact q.elim
section
variable {X : Cx} {W : WX} {pos : Pos}
theorem lc_ok {it : DI} {t : Tg} {tt : DT} {el : DE} {vs : List Nat} (hs : ∀ i ∈ t.slots, i ∈ vs) (σ : L2.St) (H : Hp) (Q : VK) (hq : trd X W (eLc it t tt el vs) σ H Q) :
    tLc (tri X W it) (trt1 X.K t) (trt X WF tt) (trd X WF el) vs σ H Q := by
  obtain ⟨θ, env, st, hE, hS, hp⟩ := hq
  have hp : post X W (Rep X.K) θ H Q (match it env st with
    | .ok xs st => lcD t tt el (wipeE env vs) xs st []
    | .exc x st => .exc x st
    | .stuck => .stuck) := hp
  refine ⟨θ, env, st, hE, hS, ?_⟩
  cases q : it env st with
  | stuck => rw [q] at hp; exact hp
  | exc x st1 => rw [q] at hp; exact hp
  | ok xs st1 =>
    rw [q] at hp
    intro θ1 H1 J e1 hS1 wk p hn
    have hp1 := post.mono e1 hp
    have n1 : ¬ Own θ1 p := hS1.free hn
    refine ⟨fun i m H' => m = xs.length - i ∧ i ≤ xs.length ∧ ∃ θ' st' acc, LcSt X.K θ1 H1 p θ' H' st' acc (wipeE env vs) (L2.wipe σ vs) ∧ post X W (Rep X.K) θ1 H1 Q (lcD t tt el (wipeE env vs) (xs.drop i) st' acc),
      ⟨xs.length, by simp, Nat.zero_le _, θ1.hide p, st1, [], ⟨List.mem_cons_self, (Ext.hide (o := .lst []) hS1 hn).pre, (Ext.hide (o := .lst []) hS1 hn).keep, (Ext.hide (o := .lst []) hS1 hn).hid, hS1.hide (o := .lst []) hn, ((hE.mono e1).wipe vs).mono (Ext.hide (o := .lst []) hS1 hn), [], upd_same, rfl⟩, hp1⟩, ?_⟩
    rintro i m H' ⟨rfl, hi, θ', st', acc, L, hp'⟩
    have ex : Ext θ1 H1 θ' H' := ⟨L.pre, L.keep, L.hid⟩
    by_cases hlt : i < xs.length
    · have hd : xs[i]? = some xs[i] := List.getElem?_eq_getElem hlt
      obtain ⟨go, yl⟩ := wk.go θ' H' st' i xs[i] ex L.st hd
      refine .inr ⟨go, fun H2 => ∃ θ2 st2 acc2, LcSt X.K θ1 H1 p θ2 H2 st2 acc2 (wipeE env vs) (L2.wipe σ vs) ∧ post X W (Rep X.K) θ1 H1 Q (lcD t tt el (wipeE env vs) (xs.drop (i + 1)) st2 acc2), fun H2 ⟨θ2, st2, acc2, a1, a2⟩ => ⟨xs.length - (i + 1), by omega, rfl, hlt, θ2, st2, acc2, a1, a2⟩, fun x H2 y => ?_⟩
      obtain ⟨e2, hS2, r2⟩ := yl x H2 y
      rw [List.drop_eq_getElem_cons hlt] at hp'
      have hp' : post X W (Rep X.K) θ1 H1 Q (match t.set xs[i] (wipeE env vs) with
        | none => .stuck
        | some env1 => match tt env1 st' with
          | .ok true st => (match el env1 st with
            | .ok d st => if acc.length < sizeLine then lcD t tt el (wipeE env vs) (xs.drop (i + 1)) st (acc ++ [d]) else .stuck
            | _ => .stuck)
          | .ok false st => lcD t tt el (wipeE env vs) (xs.drop (i + 1)) st acc
          | _ => .stuck) := hp'
      cases q2 : t.set xs[i] (wipeE env vs) with
      | none => rw [q2] at hp'; exact hp'.elim
      | some env2 =>
        rw [q2] at hp'
        dsimp only at hp'
        refine ⟨θ', wipeE env vs, xs[i], L.env.mono e2, r2, env2, q2, fun σ3 hE3 o3 => ?_⟩
        refine ⟨wipe_only o3 hs, θ', env2, st', hE3, hS2, ?_⟩
        -- a turn's end: the rest as it was, further grown
        have step : ∀ {θ3 : Th} {H3 : Hp}, Ext θ' H2 θ3 H3 → ∀ {st3 : Stt}, RepSt X.K θ3 H3 st3 → LcSt X.K θ1 H1 p θ3 H3 st3 acc (wipeE env vs) (L2.wipe σ vs) := fun {θ3 H3} e3 {st3} hs3 => by
          have e5 : Ext θ' H' θ3 H3 := e2.trans e3
          have e4 := ex.trans e5
          obtain ⟨us, h1, h2⟩ := L.acc
          exact ⟨(e5.hid p L.hd).1, e4.pre, e4.keep, e4.hid, hs3, L.env.mono e5, us, by rw [(e5.hid p L.hd).2]; exact h1, h2.mono e5⟩
        cases q3 : tt env2 st' with
        | stuck => rw [q3] at hp'; exact hp'.elim
        | exc x st3 => rw [q3] at hp'; exact hp'.elim
        | ok k st3 =>
          intro θ3 H3 b e3 hs3 hb
          subst hb
          cases k with
          | false =>
            rw [q3] at hp'
            exact ⟨θ3, st3, acc, step e3 hs3, hp'⟩
          | true =>
            rw [q3] at hp'
            have hp' : post X W (Rep X.K) θ1 H1 Q (match el env2 st3 with
              | .ok d st => if acc.length < sizeLine then lcD t tt el (wipeE env vs) (xs.drop (i + 1)) st (acc ++ [d]) else .stuck
              | _ => .stuck) := hp'
            rw [if_pos rfl]
            refine ⟨θ3, env2, st3, hE3.mono e3, hs3, ?_⟩
            cases q4 : el env2 st3 with
            | stuck => rw [q4] at hp'; exact hp'.elim
            | exc x st4 => rw [q4] at hp'; exact hp'.elim
            | ok d st4 =>
              rw [q4] at hp'
              have hp' : post X W (Rep X.K) θ1 H1 Q (if acc.length < sizeLine then lcD t tt el (wipeE env vs) (xs.drop (i + 1)) st4 (acc ++ [d]) else .stuck) := hp'
              split at hp'
              · rename_i hz
                intro θ4 H4 v e4 hs4 r4
                have L4 := step (e3.trans e4) hs4
                obtain ⟨us, h1, h2⟩ := L4.acc
                refine ⟨us, h1, by rw [← h2.length]; exact hz, θ4, st4, acc ++ [d], ?_, hp'⟩
                have eg := ExtW.grow (H := H4) (o := .lst (us ++ [v])) L4.hd
                refine ⟨L4.hd, L4.pre, fun b o h n => ?_, fun b hb => ⟨(L4.hid b hb).1, ?_⟩, hs4.grow L4.hd, L4.env.monoW eg, us ++ [v], upd_same, (h2.monoW eg).append ⟨v, [], rfl, r4.monoW eg, rfl⟩⟩
                · obtain ⟨h5, n5⟩ := L4.keep b o h n
                  exact eg.keep b o h5 n5
                · rw [upd_ne (fun z => n1 (.inr (by rw [← z]; exact hb)))]
                  exact (L4.hid b hb).2
              · exact hp'.elim
    · have e : i = xs.length := by omega
      subst e
      refine .inl ⟨wk.stop θ' H' ex, ?_⟩
      rw [List.drop_length] at hp'
      have hp' : post X W (Rep X.K) θ1 H1 Q (.ok (.lst acc) st') := hp'
      obtain ⟨us, h1, h2⟩ := L.acc
      have nO : ¬ Own (θ'.drop p) p := fun z => by
        rcases z with z | z
        · exact L.st.hdis p L.hd z
        · exact of_decide_eq_true (List.mem_filter.mp z).2 rfl
      refine hp' (θ'.drop p) H' (.ref p) ⟨L.pre, fun b o h n => ?_, fun b hb => ⟨?_, (L.hid b hb).2⟩⟩ (L.st.drop p) ⟨p, us, rfl, h1, nO, h2.monoW ExtW.drop⟩
      · obtain ⟨h5, n5⟩ := L.keep b o h n
        exact ExtW.drop.keep b o h5 n5
      · exact List.mem_filter.mpr ⟨(L.hid b hb).1, decide_eq_true fun z => n1 (.inr (by rw [← z]; exact hb))⟩
structure PDTs (X : Cx) (W : WX) (ifs : List Expr) (f : DT) : Prop where
  pts : PTs X ifs (trt X W f)
def tTrue : DT := fun _ st => .ok true st
theorem pdts_nil : PDTs X W [] tTrue := ⟨⟨fun pins s σ H Q I h => pts_nil.run pins s σ H Q I (by
  obtain ⟨θ, env, st, hE, hS, hp⟩ := h
  exact hp θ H true .refl hS rfl)⟩⟩
theorem pdts_one {c : Expr} {f : DT} (h : PDT X W c f) : PDTs X W [c] f := ⟨pts_one h.pt⟩
abbrev Cx.bk (X : Cx) (s : Shared) (H : Hp) (scope : Scope) (C : Addr) (cl : List (Str × Addr)) (fp : List Addr) : Cx := X.blk s H scope (compEnvC scope cl C X.env) fp
theorem pd_lc {elt tg iter : Expr} {ifs : List Expr} {scope : Scope} {own : List (Str × Nat)} {it : DI} {t : Tg} {tt : DT} {el : DE} (hc : X.calm = true) (hN : X.N.Nodup) (hi : PDI X W tg iter it) (ok : BlkOk X.N X.env.scope scope own)
    (hg : ∀ (s : Shared) (H : Hp) (C : Addr) (cl : List (Str × Addr)) (fp : List Addr), PDG (Cx.bk X s H scope C cl fp) tg t) (ht : ∀ (s : Shared) (H : Hp) (C : Addr) (cl : List (Str × Addr)) (fp : List Addr), PDTs (Cx.bk X s H scope C cl fp) WF ifs tt)
    (he : ∀ (s : Shared) (H : Hp) (C : Addr) (cl : List (Str × Addr)) (fp : List Addr), PD (Cx.bk X s H scope C cl fp) WF elt el) (hsl : ∀ i ∈ t.slots, i ∈ own.map (·.2) := by decide) (hs : ∀ x, foldedSetIterable iter X.env x = pure x := by intro _; rfl) :
    PD X W (.ListComp elt [⟨tg, iter, ifs, 0⟩] scope pos) (eLc it t tt el (own.map (·.2))) :=
  ⟨(pe_lc hc hN hi.pi ok (fun s H C cl fp => (hg s H C cl fp).pg) (fun s H C cl fp => (ht s H C cl fp).pts) (fun s H C cl fp => (he s H C cl fp).pe) hs).imp (lc_ok hsl)⟩
theorem pds_setLc {i : Nat} {y : Str} {py : Pos} {elt tg iter : Expr} {ifs : List Expr} {scope : Scope} {own : List (Str × Nat)} {spos : Pos} {it : DI} {t : Tg} {tt : DT} {el : DE} (hc : X.calm = true) (hN : X.N.Nodup) (hi : PDI X W tg iter it) (ok : BlkOk X.N X.env.scope scope own)
    (hg : ∀ (s : Shared) (H : Hp) (C : Addr) (cl : List (Str × Addr)) (fp : List Addr), PDG (Cx.bk X s H scope C cl fp) tg t) (ht : ∀ (s : Shared) (H : Hp) (C : Addr) (cl : List (Str × Addr)) (fp : List Addr), PDTs (Cx.bk X s H scope C cl fp) WF ifs tt)
    (he : ∀ (s : Shared) (H : Hp) (C : Addr) (cl : List (Str × Addr)) (fp : List Addr), PD (Cx.bk X s H scope C cl fp) WF elt el) (hsw : swapsWith (.ListComp elt [⟨tg, iter, ifs, 0⟩] scope pos) (some (.Name y py)) spos.line X.env = pure true)
    (hy : X.N[i]? = some y := by rfl) (hyl : X.env.scope.names.lookup y = some .local := by rfl) (hsl : ∀ i ∈ t.slots, i ∈ own.map (·.2) := by decide) (hs : ∀ x, foldedSetIterable iter X.env x = pure x := by intro _; rfl) :
    PDS X W (.Assign [.Name y py] (.ListComp elt [⟨tg, iter, ifs, 0⟩] scope pos) spos) (sAsg (.nm i) (eLc it t tt el (own.map (·.2)))) := by
  refine ⟨(ps_setLc (wi := tri X W it) (g := trt1 X.K t) (tt := trt X WF tt) (te := trd X WF el) hc hN hy hyl hsw hi.pi ok (fun s H C cl fp => (hg s H C cl fp).pg) (fun s H C cl fp => (ht s H C cl fp).pts) (fun s H C cl fp => (he s H C cl fp).pe) hs).imp ?_⟩
  rintro Dn σ H ⟨θ, env, st, hE, hS, hp⟩
  refine lc_ok (W := W) hsl σ H _ ⟨θ, env, st, hE, hS, post.then (rel := Rep X.K) hp fun θ1 H1 st1 d v e1 hS1 r1 hp1 => ?_⟩
  exact hp1 θ1 H1 _ .refl hS1 ((hE.mono e1).set r1)
end
end DL
set_option maxHeartbeats 4000000
namespace DL
open PySem PySem.Spec PyProof.Rows L2

/-! ### what a def leaves behind is swept -/
mutual
def bel (n : Nat) : D → Bool
  | .loc m => decide (m < n)
  | .tup xs => belL n xs
  | .lst xs => belL n xs
  | .dct kvs => belK n kvs
  | _ => true
def belL (n : Nat) : List D → Bool
  | [] => true
  | x :: xs => bel n x && belL n xs
def belK (n : Nat) : List (Key × D) → Bool
  | [] => true
  | (_, x) :: xs => bel n x && belK n xs
end
def belO (n : Nat) : Ob → Bool
  | .lst xs => belL n xs
  | .dct kvs => belK n kvs
  | .fz kvs => belK n kvs
  | .dead => true
  | .ins _ _ => false
theorem belL_all (n : Nat) : ∀ xs : List D, belL n xs = xs.all (bel n)
  | [] => rfl
  | x :: xs => by rw [belL, List.all_cons, belL_all n xs]
abbrev Th.cutAt (θ : Th) (n : Nat) : Th := ⟨θ.l.take n, θ.h⟩
theorem Own.cut {θ : Th} {n : Nat} {a : Addr} (h : Own (θ.cutAt n) a) : Own θ a := h.imp (fun z => List.mem_of_mem_take z) id
structure Sub (n : Nat) (θ θ2 : Th) : Prop where
  at_ : ∀ (m : Nat) (a : Addr), m < n → θ.l[m]? = some (some a) → θ2.l[m]? = some (some a)
  own : ∀ a, Own θ2 a → Own θ a
theorem Sub.cut {n : Nat} {θ : Th} : Sub n θ (θ.cutAt n) := ⟨fun m a h e => by show (θ.l.take n)[m]? = _; rw [List.getElem?_take_of_lt h]; exact e, fun _ z => z.cut⟩
section
variable {K : PySem.W.Frag} {θ θ2 : Th} {H : Hp} {n : Nat}
mutual
theorem Rep.sub (S : Sub n θ θ2) : ∀ (d : D) (v : V), bel n d = true → Rep K θ H d v → Rep K θ2 H d v
  | .non, _, _, h => h
  | .bl _, _, _, h => h
  | .int _, _, _, h => h
  | .str _, _, _, h => h
  | .ty _, _, _, h => h
  | .fn _, _, _, h => h
  | .tup xs, _, b, h => by
    obtain ⟨a, vs, hv, ht, hr⟩ := h
    exact ⟨a, vs, hv, ⟨ht.1, fun z => ht.2 (S.own _ z)⟩, Reps.sub S xs vs b hr⟩
  | .lst xs, _, b, h => by
    obtain ⟨a, vs, hv, ht, hn, hr⟩ := h
    exact ⟨a, vs, hv, ht, fun z => hn (S.own _ z), Reps.sub S xs vs b hr⟩
  | .dct kvs, _, b, h => by
    obtain ⟨a, vs, hv, ht, hr⟩ := h
    exact ⟨a, vs, hv, ⟨ht.1, fun z => ht.2 (S.own _ z)⟩, RepKs.sub S kvs vs b hr⟩
  | .loc m, _, b, h => by
    obtain ⟨a, hv, ht⟩ := h
    exact ⟨a, hv, S.at_ m a (of_decide_eq_true b) ht⟩
  | .scr ns, _, _, h => by
    obtain ⟨a, hv, ht⟩ := h
    exact ⟨a, hv, ht.imp (fun t => ⟨t.1, fun z => t.2 (S.own _ z)⟩) id⟩
theorem Reps.sub (S : Sub n θ θ2) : ∀ (ds : List D) (vs : List V), belL n ds = true → Reps K θ H ds vs → Reps K θ2 H ds vs
  | [], _, _, h => h
  | d :: ds, _, b, h => by
    obtain ⟨v, r, hv, h1, h2⟩ := h
    have b := Bool.and_eq_true_iff.mp (show (bel n d && belL n ds) = true from b)
    exact ⟨v, r, hv, Rep.sub S d v b.1 h1, Reps.sub S ds r b.2 h2⟩
theorem RepKs.sub (S : Sub n θ θ2) : ∀ (ds : List (Key × D)) (vs : List (Key × V)), belK n ds = true → RepKs K θ H ds vs → RepKs K θ2 H ds vs
  | [], _, _, h => h
  | (k, d) :: ds, _, b, h => by
    obtain ⟨v, r, hv, h1, h2⟩ := h
    have b := Bool.and_eq_true_iff.mp (show (bel n d && belK n ds) = true from b)
    exact ⟨v, r, hv, Rep.sub S d v b.1 h1, RepKs.sub S ds r b.2 h2⟩
end
theorem Rep.cut (d : D) (v : V) (b : bel n d = true) (h : Rep K θ H d v) : Rep K (θ.cutAt n) H d v := Rep.sub .cut d v b h
theorem Reps.cut (d : List D) (v : List V) (b : belL n d = true) (h : Reps K θ H d v) : Reps K (θ.cutAt n) H d v := Reps.sub .cut d v b h
theorem RepKs.cut (d : List (Key × D)) (v : List (Key × V)) (b : belK n d = true) (h : RepKs K θ H d v) : RepKs K (θ.cutAt n) H d v := RepKs.sub .cut d v b h
/-- what an object of the store is -/
theorem RepSt.at_ {st : Stt} (R : RepSt K θ H st) {m : Nat} {ob : Ob} (h : st[m]? = some ob) : ob = .dead ∧ θ.l[m]? = some none ∨ ∃ a, θ.l[m]? = some (some a) ∧ ObRep K θ H a ob := by
  have q := R.obj m
  rw [h] at q
  cases ob with
  | dead => exact .inl ⟨rfl, q⟩
  | lst xs => obtain ⟨a, vs, h1, h2, h3⟩ := q; exact .inr ⟨a, h1, vs, h2, h3⟩
  | dct xs => obtain ⟨a, vs, h1, h2, h3⟩ := q; exact .inr ⟨a, h1, vs, h2, h3⟩
  | fz xs => obtain ⟨a, o, vs, h1, h2, h3⟩ := q; exact .inr ⟨a, h1, o, vs, h2, h3⟩
  | ins _ _ => exact q.elim
theorem RepSt.mk' {st : Stt} (len : θ.l.length = st.length) (hlive : ∀ b, b ∈ θ.h → ∃ o, H b = some o) (hdis : ∀ b, b ∈ θ.h → some b ∉ θ.l) (inj : ∀ (i j : Nat) (a : Addr), θ.l[i]? = some (some a) → θ.l[j]? = some (some a) → i = j)
    (obj : ∀ (m : Nat) (ob : Ob), st[m]? = some ob → ob = .dead ∧ θ.l[m]? = some none ∨ ∃ a, θ.l[m]? = some (some a) ∧ ObRep K θ H a ob) : RepSt K θ H st := by
  refine ⟨len, hlive, hdis, inj, fun n => ?_⟩
  split
  · trivial
  · rename_i h
    rcases obj n _ h with ⟨_, q⟩ | ⟨a, _, q⟩
    · exact q
    · exact (show False from q).elim
  · rename_i h
    rcases obj n _ h with ⟨q, _⟩ | ⟨a, q, vs, q2, q3⟩
    · cases q
    · exact ⟨a, vs, q, q2, q3⟩
  · rename_i h
    rcases obj n _ h with ⟨q, _⟩ | ⟨a, q, vs, q2, q3⟩
    · cases q
    · exact ⟨a, vs, q, q2, q3⟩
  · rename_i h
    rcases obj n _ h with ⟨q, _⟩ | ⟨a, q, o, vs, q2, q3⟩
    · cases q
    · exact ⟨a, o, vs, q, q2, q3⟩
  · rename_i h
    rcases obj n _ h with ⟨q, _⟩ | ⟨a, q, q2⟩
    · cases q
    · exact (show False from q2).elim
theorem ObRep.sub (S : Sub n θ θ2) {a : Addr} {ob : Ob} (b : belO n ob = true) (h : ObRep K θ H a ob) : ObRep K θ2 H a ob := by
  cases ob with
  | lst xs => obtain ⟨vs, h1, h2⟩ := h; exact ⟨vs, h1, h2.sub S _ _ b⟩
  | dct xs => obtain ⟨vs, h1, h2⟩ := h; exact ⟨vs, h1, h2.sub S _ _ b⟩
  | fz xs => obtain ⟨o, vs, h1, h2⟩ := h; exact ⟨o, vs, h1, h2.sub S _ _ b⟩
  | _ => exact h
theorem RepSt.cut {st : Stt} (R : RepSt K θ H st) (b : (st.take n).all (belO n) = true) : RepSt K (θ.cutAt n) H (st.take n) := by
  refine RepSt.mk' (by show (θ.l.take n).length = _; rw [List.length_take, List.length_take, R.len]) R.hlive (fun c hc z => R.hdis c hc (List.mem_of_mem_take z)) (fun i j a h1 h2 => ?_) (fun m ob h => ?_)
  · have g : ∀ {i : Nat}, (θ.l.take n)[i]? = some (some a) → θ.l[i]? = some (some a) := fun {i} h => by
      rw [List.getElem?_take] at h
      split at h
      · exact h
      · cases h
    exact R.inj i j a (g h1) (g h2)
  · have hb := List.all_eq_true.mp b ob (List.mem_of_getElem? h)
    rw [List.getElem?_take] at h
    split at h
    · rename_i hm
      rcases R.at_ h with ⟨e, q⟩ | ⟨a, q, r⟩
      · exact .inl ⟨e, by show (θ.l.take n)[m]? = _; rw [List.getElem?_take_of_lt hm]; exact q⟩
      · exact .inr ⟨a, Sub.cut.at_ m a hm q, r.sub .cut hb⟩
    · cases h
end
/-- a result's own lists and dicts become values -/
def frz (n : Nat) (st : Stt) : Nat → D → Option D
  | 0, d => if bel n d = true then some d else none
  | k + 1, d => if bel n d = true then some d else match d with
    | .tup xs => (xs.mapM (frz n st k)).map .tup
    | .lst xs => (xs.mapM (frz n st k)).map .lst
    | .loc m => match st[m]? with
      | some (.lst xs) => (xs.mapM (frz n st k)).map .lst
      | some (.dct kvs) => (kvs.mapM fun p => (frz n st k p.2).map fun d => (p.1, d)).map .dct
      | _ => none
    | _ => none
theorem mapM_some {α β : Type} {f : α → Option β} : ∀ {xs : List α} {ys : List β}, xs.mapM f = some ys → (xs = [] ∧ ys = []) ∨ ∃ x r y s, xs = x :: r ∧ ys = y :: s ∧ f x = some y ∧ r.mapM f = some s
  | [], ys, h => by simp at h; exact .inl ⟨rfl, h⟩
  | x :: r, ys, h => by
    rw [List.mapM_cons] at h
    cases q : f x with
    | none => rw [q] at h; cases h
    | some y =>
      rw [q] at h
      cases q2 : r.mapM f with
      | none => rw [q2] at h; cases h
      | some s =>
        rw [q2] at h
        cases h
        exact .inr ⟨x, r, y, s, rfl, rfl, q, q2⟩
theorem reps_mapM {K : PySem.W.Frag} {θ θ' : Th} {H : Hp} {f : D → Option D} (ok : ∀ d d' v, f d = some d' → Rep K θ H d v → Rep K θ' H d' v) : ∀ {xs ys : List D} {vs : List V}, xs.mapM f = some ys → Reps K θ H xs vs → Reps K θ' H ys vs
  | [], ys, vs, h, r => by
    rcases mapM_some h with ⟨_, rfl⟩ | ⟨_, _, _, _, e, _⟩
    · exact r
    · cases e
  | x :: xs, ys, vs, h, r => by
    rcases mapM_some h with ⟨e, _⟩ | ⟨x', r', y, s, e, rfl, h1, h2⟩
    · cases e
    · cases e
      obtain ⟨v, q, rfl, r1, r2⟩ := r
      exact ⟨v, q, rfl, ok _ _ _ h1 r1, reps_mapM ok h2 r2⟩
theorem repks_mapM {K : PySem.W.Frag} {θ θ' : Th} {H : Hp} {f : D → Option D} (ok : ∀ d d' v, f d = some d' → Rep K θ H d v → Rep K θ' H d' v) : ∀ {xs ys : List (Key × D)} {vs : List (Key × V)}, (xs.mapM fun p => (f p.2).map fun d => (p.1, d)) = some ys → RepKs K θ H xs vs → RepKs K θ' H ys vs
  | [], ys, vs, h, r => by
    rcases mapM_some h with ⟨_, rfl⟩ | ⟨_, _, _, _, e, _⟩
    · exact r
    · cases e
  | (k, x) :: xs, ys, vs, h, r => by
    rcases mapM_some h with ⟨e, _⟩ | ⟨x', r', y, s, e, rfl, h1, h2⟩
    · cases e
    · cases e
      obtain ⟨v, q, rfl, r1, r2⟩ := r
      simp only [Option.map_eq_some_iff] at h1
      obtain ⟨d, h3, rfl⟩ := h1
      exact ⟨v, q, rfl, ok _ _ _ h3 r1, repks_mapM ok h2 r2⟩
theorem bel_or {n m : Nat} (h : ¬ bel n (.loc m) = true) : n ≤ m := by
  have h : ¬ decide (m < n) = true := h
  simp at h; exact h
theorem Rep.frz {K : PySem.W.Frag} {θ : Th} {H : Hp} {n : Nat} {st : Stt} (R : RepSt K θ H st) : ∀ (k : Nat) (d d' : D) (v : V), frz n st k d = some d' → Rep K θ H d v → Rep K (θ.cutAt n) H d' v
  | 0, d, d', v, h, r => by
    unfold DL.frz at h
    split at h
    · rename_i b; cases h; exact r.cut _ _ b
    · cases h
  | k + 1, d, d', v, h, r => by
    unfold DL.frz at h
    split at h
    · rename_i b; cases h; exact r.cut _ _ b
    · rename_i nb
      cases d with
      | tup xs =>
        simp only [Option.map_eq_some_iff] at h
        obtain ⟨ys, h1, rfl⟩ := h
        obtain ⟨a, vs, hv, ht, hr⟩ := r
        exact ⟨a, vs, hv, ⟨ht.1, fun z => ht.2 z.cut⟩, reps_mapM (fun d d' v => Rep.frz R k d d' v) h1 hr⟩
      | lst xs =>
        simp only [Option.map_eq_some_iff] at h
        obtain ⟨ys, h1, rfl⟩ := h
        obtain ⟨a, vs, hv, ht, hn, hr⟩ := r
        exact ⟨a, vs, hv, ht, fun z => hn z.cut, reps_mapM (fun d d' v => Rep.frz R k d d' v) h1 hr⟩
      | loc m =>
        have hm := bel_or nb
        obtain ⟨a, hv, hl⟩ := r
        have nO : ¬ Own (θ.cutAt n) a := fun z => by
          rcases z with z | z
          · obtain ⟨i, hi, e⟩ := List.getElem_of_mem z
            have hi2 : i < n := by simp at hi; omega
            have q : θ.l[i]? = some (some a) := by
              have : (θ.l.take n)[i]? = some (some a) := by rw [List.getElem?_eq_getElem hi, e]
              rw [List.getElem?_take_of_lt hi2] at this
              exact this
            have := R.inj i m a q hl
            omega
          · exact R.hdis a z (List.mem_of_getElem? hl)
        dsimp only at h
        cases q : st[m]? with
        | none => rw [q] at h; cases h
        | some ob =>
          rw [q] at h
          cases ob with
          | lst xs =>
            simp only [Option.map_eq_some_iff] at h
            obtain ⟨ys, h1, rfl⟩ := h
            obtain ⟨a', vs, h3, h4, h5⟩ := R.lst q
            rw [h3] at hl; cases hl
            exact ⟨a, vs, hv, h4, nO, reps_mapM (fun d d' v => Rep.frz R k d d' v) h1 h5⟩
          | dct xs =>
            simp only [Option.map_eq_some_iff] at h
            obtain ⟨ys, h1, rfl⟩ := h
            obtain ⟨a', vs, h3, h4, h5⟩ := R.dct q
            rw [h3] at hl; cases hl
            exact ⟨a, vs, hv, ⟨.inl h4, nO⟩, repks_mapM (fun d d' v => Rep.frz R k d d' v) h1 h5⟩
          | _ => cases h
      | _ => cases h
abbrev Gc := Nat → Res D → Res D
def gcN : Gc := fun _ r => r
def gcF : Gc := fun n r => match r with
  | .ok d st => if (st.take n).all (belO n) = true then (match frz n st 6 d with
    | some d' => .ok d' (st.take n)
    | none => .stuck) else .stuck
  | r => r
def isLD : Ob → Bool
  | .lst _ => true
  | .dct _ => true
  | _ => false
/-- one object is kept, and is the result -/
def gcK : Gc := fun n r => match r with
  | .ok (.loc m) st => if n ≤ m ∧ (st.take n).all (belO n) = true then (match st[m]? with
    | some ob => if belO n ob = true ∧ isLD ob = true then .ok (.loc n) (st.take n ++ [ob]) else .stuck
    | none => .stuck) else .stuck
  | .ok _ _ => .stuck
  | r => r
section
variable {X : Cx} {W : WX}
def GcOk (g : Gc) : Prop := ∀ (X : Cx) (W : WX) (θ : Th) (H : Hp) (st : Stt) (Q : VK) (r : Res D), RepSt X.K θ H st → post X W (Rep X.K) θ H Q (g st.length r) → post X W (Rep X.K) θ H Q r
theorem gcN_ok : GcOk gcN := fun _ _ _ _ _ _ _ _ h => h
theorem Ext.cutAt {K : PySem.W.Frag} {θ θ' : Th} {H H' : Hp} {st : Stt} (R : RepSt K θ H st) (e : Ext θ H θ' H') : Ext θ H (θ'.cutAt st.length) H' :=
  ⟨fun n a h => by
    have hn : n < st.length := by rw [← R.len]; exact (List.getElem?_eq_some_iff.mp h).1
    show (θ'.l.take st.length)[n]? = _
    rw [List.getElem?_take_of_lt hn]
    exact e.pre n a h, fun b o h n => let ⟨h1, n1⟩ := e.keep b o h n; ⟨h1, fun z => n1 z.cut⟩, e.hid⟩
theorem gcF_ok : GcOk gcF := by
  intro X W θ H st Q r R h
  cases r with
  | stuck => exact h
  | exc x st1 => exact h
  | ok d st1 =>
    have h : post X W (Rep X.K) θ H Q (if (st1.take st.length).all (belO st.length) = true then (match frz st.length st1 6 d with
      | some d' => .ok d' (st1.take st.length)
      | none => .stuck) else .stuck) := h
    split at h
    · rename_i b
      cases q : frz st.length st1 6 d with
      | none => rw [q] at h; exact h.elim
      | some d' =>
        rw [q] at h
        exact fun θ' H' v e hs hr => h _ H' v (e.cutAt R) (hs.cut b) (Rep.frz hs 6 d d' v q hr)
    · exact h.elim
theorem gcK_ok : GcOk gcK := by
  intro X W θ H st Q r R h
  cases r with
  | stuck => exact h
  | exc x st1 => exact h
  | ok d st1 =>
    cases d with
    | loc m =>
      have h : post X W (Rep X.K) θ H Q (if st.length ≤ m ∧ (st1.take st.length).all (belO st.length) = true then (match st1[m]? with
        | some ob => if belO st.length ob = true ∧ isLD ob = true then .ok (.loc st.length) (st1.take st.length ++ [ob]) else .stuck
        | none => .stuck) else .stuck) := h
      split at h
      · rename_i b
        cases q : st1[m]? with
        | none => rw [q] at h; exact h.elim
        | some ob =>
          rw [q] at h
          dsimp only at h
          split at h
          · rename_i b2
            intro θ' H' v e hs hr
            obtain ⟨a, rfl, hl⟩ := hr
            have hle : st.length ≤ θ'.l.length := by
              have := (List.getElem?_eq_some_iff.mp hl).1
              omega
            have tl : (θ'.l.take st.length).length = st.length := by simp; omega
            have at_n : ∀ {i : Nat} {c : Addr}, (θ'.l.take st.length ++ [some a])[i]? = some (some c) → (i < st.length ∧ θ'.l[i]? = some (some c)) ∨ (i = st.length ∧ c = a) := fun {i c} h => by
              by_cases hi : i < st.length
              · rw [List.getElem?_append_left (by omega), List.getElem?_take_of_lt hi] at h
                exact .inl ⟨hi, h⟩
              · rw [List.getElem?_append_right (by omega), tl] at h
                have h0 : i - st.length = 0 := by
                  have := (List.getElem?_eq_some_iff.mp h).1
                  simp at this; omega
                rw [h0] at h
                simp at h
                exact .inr ⟨by omega, h.symm⟩
            have S : Sub st.length θ' ⟨θ'.l.take st.length ++ [some a], θ'.h⟩ := ⟨fun k c hk e => by
                show (θ'.l.take st.length ++ [some a])[k]? = _
                rw [List.getElem?_append_left (by omega), List.getElem?_take_of_lt hk]; exact e, fun c z => by
                rcases z with z | z
                · rcases List.mem_append.mp z with z | z
                  · exact .inl (List.mem_of_mem_take z)
                  · have : c = a := by simpa using z
                    subst this
                    exact .inl (List.mem_of_getElem? hl)
                · exact .inr z⟩
            refine h ⟨θ'.l.take st.length ++ [some a], θ'.h⟩ H' (.ref a) ⟨fun k c hc => ?_, fun c o hc n => ?_, e.hid⟩ ?_ ⟨a, rfl, by show (θ'.l.take st.length ++ [some a])[st.length]? = _; rw [List.getElem?_append_right (by omega), tl]; simp⟩
            · have hk : k < st.length := by rw [← R.len]; exact (List.getElem?_eq_some_iff.mp hc).1
              exact S.at_ k c hk (e.pre k c hc)
            · obtain ⟨h1, n1⟩ := e.keep c o hc n
              exact ⟨h1, fun z => n1 (S.own c z)⟩
            · refine RepSt.mk' (by show (θ'.l.take st.length ++ [some a]).length = (st1.take st.length ++ [ob]).length; have := hs.len; simp [this]) hs.hlive (fun c hc z => ?_) (fun i j c h1 h2 => ?_) (fun k ob2 hk => ?_)
              · rcases List.mem_append.mp z with z | z
                · exact hs.hdis c hc (List.mem_of_mem_take z)
                · have : c = a := by simpa using z
                  subst this
                  exact hs.hdis c hc (List.mem_of_getElem? hl)
              · rcases at_n h1 with ⟨i1, q1⟩ | ⟨i1, rfl⟩ <;> rcases at_n h2 with ⟨i2, q2⟩ | ⟨i2, q2⟩
                · exact hs.inj i j c q1 q2
                · subst q2
                  have := hs.inj i m c q1 hl
                  omega
                · have := hs.inj j m c q2 hl
                  omega
                · omega
              · have hlen : st.length ≤ st1.length := by rw [← hs.len]; exact hle
                by_cases hk2 : k < st.length
                · rw [List.getElem?_append_left (by simp; omega)] at hk
                  have hb := List.all_eq_true.mp b.2 ob2 (List.mem_of_getElem? hk)
                  rw [List.getElem?_take_of_lt hk2] at hk
                  rcases hs.at_ hk with ⟨e3, q3⟩ | ⟨c, q3, r3⟩
                  · exact .inl ⟨e3, by show (θ'.l.take st.length ++ [some a])[k]? = _; rw [List.getElem?_append_left (by omega), List.getElem?_take_of_lt hk2]; exact q3⟩
                  · exact .inr ⟨c, S.at_ k c hk2 q3, r3.sub S hb⟩
                · have tl1 : (st1.take st.length).length = st.length := by simp; omega
                  rw [List.getElem?_append_right (by omega), tl1] at hk
                  have h0 : k - st.length = 0 := by
                    have := (List.getElem?_eq_some_iff.mp hk).1
                    simp at this; omega
                  rw [h0] at hk
                  simp at hk
                  subst hk
                  have hk3 : k = st.length := by omega
                  subst hk3
                  refine .inr ⟨a, by show (θ'.l.take st.length ++ [some a])[st.length]? = _; rw [List.getElem?_append_right (by omega), tl]; simp, ?_⟩
                  rcases hs.at_ q with ⟨e3, q3⟩ | ⟨c, q3, r3⟩
                  · subst e3; exact absurd b2.2 Bool.false_ne_true
                  · rw [q3] at hl; cases hl
                    exact r3.sub S b2.1
          · exact h.elim
      · exact h.elim
    | _ => exact (show False from h).elim
end
end DL
set_option maxHeartbeats 4000000
namespace DL
open PySem PySem.Spec PyProof.Rows L2

/-! ### a def -/
abbrev Fn := List D → Stt → Res D
def endR : SR → Res D
  | .nx _ st => .ok .non st
  | .rt d st => .ok d st
  | .exc x st => .exc x st
  | _ => .stuck
def noX : Res D → Res D
  | .exc _ _ => .stuck
  | r => r
/-- np parameters, nn names -/
def fnX (np nn : Nat) (g : Gc) (b : DS) : Fn := fun ds st => if ds.length = np then g st.length (endR (b (ds.map some ++ List.replicate (nn - np) none) st)) else .stuck
def fn0 (np nn : Nat) (g : Gc) (b : DS) : Fn := fun ds st => noX (fnX np nn g b ds st)
def postC (K : PySem.W.Frag) (mg : Str → Option Value) (E : XK) (θ : Th) (H : Hp) (Q : VK) : Res D → Prop
  | .ok d st => ∀ θ' H' v, Ext θ H θ' H' → RepSt K θ' H' st → Rep K θ' H' d v → Q v H'
  | .exc x st => ∀ θ' H' c dd, Ext θ H θ' H' → RepSt K θ' H' st → RepX K mg θ' H' x c dd → E c dd H'
  | .stuck => False
def spD (K : PySem.W.Frag) (mg : Str → Option Value) (np : Nat) (fn : Fn) : Sp := fun vs H Q E => vs.length = np ∧ ∃ θ st ds, RepSt K θ H st ∧ Reps K θ H ds vs ∧ postC K mg E θ H Q (fn ds st)
theorem start_rep {K : PySem.W.Frag} {θ : Th} {H : Hp} {ds : List D} {vs : List V} {N : List Str} {np : Nat} (r : Reps K θ H ds vs) (hl : ds.length = np) (hn : np ≤ N.length) : RepE K θ H (ds.map some ++ List.replicate (N.length - np) none) (L2.start N vs) := by
  have hv := r.length
  refine ⟨by unfold L2.start; simp; omega, fun i d h => ?_⟩
  by_cases hi : i < ds.length
  · rw [List.getElem?_append_left (by simpa using hi), List.getElem?_map] at h
    cases q : ds[i]? with
    | none => rw [q] at h; cases h
    | some d' =>
      rw [q] at h
      cases h
      obtain ⟨v, h1, h2⟩ := r.get q
      refine ⟨v, ?_, h2⟩
      unfold L2.start
      rw [List.getElem?_append_left (by simp; omega), List.getElem?_map, h1]; rfl
  · rw [List.getElem?_append_right (by simp; omega), List.getElem?_replicate] at h
    split at h <;> cases h
section
variable {P : Program} {w : World} {K : PySem.W.Frag} {mg : Str → Option Value} {base : Heap} {x qual : Str} {params : Arguments} {body : List Stmt} {scope : Scope} {f : Addr} {fd : FuncData} {N ps : List Str} {k np nn : Nat} {g : Gc} {b : DS}
theorem body_ok {X : Cx} {W : WX} {E : XK} {θ : Th} {H : Hp} {st : Stt} {Q : VK} {r : SR} (hg : GcOk g) (hS : RepSt X.K θ H st) (hW : ∀ c dd σ H', E c dd H' → W c dd σ H')
    (h : postC X.K X.mg E θ H Q (g st.length (endR r))) : postS X W θ H { nx := fun _ H' => Q .non H', rt := Q } r := by
  have h1 : post X W (Rep X.K) θ H Q (g st.length (endR r)) := by
    cases q : g st.length (endR r) with
    | ok d st1 => rw [q] at h; exact h
    | exc e st1 => rw [q] at h; exact fun θ' H' c dd σ' e1 e2 e3 => hW c dd σ' H' (h θ' H' c dd e1 e2 e3)
    | stuck => rw [q] at h; exact h
  have h2 := hg X W θ H st Q (endR r) hS h1
  cases r with
  | nx env st1 => exact fun θ' H' σ' e hs _ => h2 θ' H' .non e hs rfl
  | rt d st1 => exact h2
  | exc x st1 => exact h2
  | bk _ _ => exact (show False from h2).elim
  | ct _ _ => exact (show False from h2).elim
  | stuck => exact (show False from h2).elim
theorem okD0 (F : FunD K x qual params body scope [] [] f fd) (S : FnScope N ps scope) (hnp : ps.length = np) (hnn : N.length = nn) (hg : GcOk g)
    (hb : ∀ (cdv : Value) (A : Around) (outer : List PySem.Env) (s : Shared) (H : Hp) (E : XK), Room k (A.deeper (envOfC qual scope s.heap.objs.size f cdv)) → PDB (cxOf CX0 P w K mg base N qual scope f cdv A outer s H E).nox WF body b) :
    FnOk P w K mg base CX0 (k + 1) f fd ps (spD K mg np (fn0 np nn g b)) := by
  subst hnn
  refine F.ok S (fun vs H Q E h => by rw [h.1, hnp]) (fun cdv A outer s H vs Q E hr h => ?_)
  refine ⟨_, (hb cdv A outer s H E hr).pss.nox, ?_⟩
  obtain ⟨hl, θ, st, ds, hS, r, hp⟩ := h
  have hpl : np ≤ N.length := by have := congrArg List.length S.pre; rw [List.length_take, hnp] at this; omega
  unfold fn0 fnX at hp
  split at hp
  · rename_i hd
    refine ⟨θ, _, st, start_rep r hd hpl, hS, ?_⟩
    refine body_ok (X := (cxOf CX0 P w K mg base N qual scope f cdv A outer s H E).nox) (g := g) (E := fun _ _ _ => False) hg hS (fun _ _ _ _ z => z) ?_
    cases q : g st.length (endR (b (ds.map some ++ List.replicate (N.length - np) none) st)) with
    | ok d st1 => rw [q] at hp; exact hp
    | exc e st1 => rw [q] at hp; exact (show False from hp).elim
    | stuck => rw [q] at hp; exact hp
  · exact (show False from hp).elim
theorem okDX (F : FunD K x qual params body scope [] [] f fd) (S : FnScope N ps scope) (hnp : ps.length = np) (hnn : N.length = nn) (hg : GcOk g)
    (hb : ∀ (cdv : Value) (A : Around) (outer : List PySem.Env) (s : Shared) (H : Hp) (E : XK), Room k (A.deeper (envOfC qual scope s.heap.objs.size f cdv)) → Takes (cxOf (L2.CX P w) P w K mg base N qual scope f cdv A outer s H E) (fun cls d _ H => E cls d H) →
      PassesOwn (model P w) (A.deeper (envOfC qual scope s.heap.objs.size f cdv)) (envOfC qual scope s.heap.objs.size f cdv) (cxOf (L2.CX P w) P w K mg base N qual scope f cdv A outer s H E).xe →
      PDB (cxOf (L2.CX P w) P w K mg base N qual scope f cdv A outer s H E) (fun cls d _ H => E cls d H) body b) :
    FnOk P w K mg base (L2.CX P w) (k + 1) f fd ps (spD K mg np (fnX np nn g b)) := by
  subst hnn
  refine F.ok S (fun vs H Q E h => by rw [h.1, hnp]) (fun cdv A outer s H vs Q E hr h => ?_)
  refine ⟨_, (hb cdv A outer s H E hr (takes_of rfl rfl rfl rfl) (passes_of rfl)).pss, ?_⟩
  obtain ⟨hl, θ, st, ds, hS, r, hp⟩ := h
  have hpl : np ≤ N.length := by have := congrArg List.length S.pre; rw [List.length_take, hnp] at this; omega
  unfold fnX at hp
  split at hp
  · rename_i hd
    refine ⟨θ, _, st, start_rep r hd hpl, hS, ?_⟩
    exact body_ok (X := cxOf (L2.CX P w) P w K mg base N qual scope f cdv A outer s H E) (g := g) (E := E) hg hS (fun _ _ _ _ z => z) hp
  · exact (show False from hp).elim
end
/-- a def by its name: its function object keeps the promise -/
structure Df (P : Program) (w : World) (K : PySem.W.Frag) (mg : Str → Option Value) (base : Heap) (CX : CXT) (k : Nat) (x : Str) (np : Nat) (fn : Fn) : Prop where
  ex : ∃ (f : Addr) (fd : FuncData) (ps : List Str), mg x = some (.ref f) ∧ PySem.W.keepIn K (.ref f) = true ∧ Binds K fd ps [] ∧ FnOk P w K mg base CX k f fd ps (spD K mg np fn)
section
variable {X : Cx} {W : WX} {k np : Nat} {x : Str} {fn : Fn} {e : Expr} {es : List Expr} {fa : DA} {p pos : Pos}
/-- a call of a def that lets nothing out -/
theorem pd_call (F : Df X.prog X.w X.K X.mg X.base CX0 k x np fn) (hr : Room k X.A) (hx : ∀ ds st y st', fn ds st ≠ .exc y st') (hl : ∀ ds st, ds.length ≠ np → fn ds st = .stuck) (ha : PDA X W (e :: es) fa) (hg : Gl X x := by rfl) (hdb : (x == ("__debug__" : Str)) = false := by decide)
    (he : starEach (e :: es) X.env = (false, eval e X.env) :: starEach es X.env := by rfl) (hpl : (backTo pos (starEach es X.env)).any (·.1) = false := by rfl) : PD X W (.Call (.Name x p) (e :: es) [] pos) (eC2 fn fa) := by
  obtain ⟨f, fd, ps, hm, hk, hb, F⟩ := F.ex
  refine ⟨(pe_call F hr hg hm hk hb .nil pass0 ha.pa hdb he hpl).imp ?_⟩
  rintro σ H Q ⟨θ, env, st, hE, hS, hp⟩
  refine ⟨θ, env, st, hE, hS, post.bind hp fun θ1 H1 st1 ds vs e1 hS1 r1 hp1 => ?_⟩
  have hlen : ds.length = np := by
    by_cases q : ds.length = np
    · exact q
    · rw [hl ds st1 q] at hp1; exact hp1.elim
  rw [List.append_nil]
  refine ⟨by rw [← r1.length]; exact hlen, θ1, st1, ds, hS1, r1, ?_⟩
  cases q : fn ds st1 with
  | ok d st2 => rw [q] at hp1; exact hp1
  | exc y st2 => exact absurd q (hx _ _ _ _)
  | stuck => rw [q] at hp1; exact hp1
theorem pd_call0 (F : Df X.prog X.w X.K X.mg X.base CX0 k x np fn) (hr : Room k X.A) (hx : ∀ ds st y st', fn ds st ≠ .exc y st') (hl : ∀ ds st, ds.length ≠ np → fn ds st = .stuck) (hg : Gl X x := by rfl) (hdb : (x == ("__debug__" : Str)) = false := by decide) : PD X W (.Call (.Name x p) [] [] pos) (eC2 fn aNil) := by
  obtain ⟨f, fd, ps, hm, hk, hb, F⟩ := F.ex
  refine ⟨(pe_call0 F hr hg hm hk hb .nil pass0 hdb).imp ?_⟩
  rintro σ H Q ⟨θ, env, st, hE, hS, hp⟩
  have hp : post X W (Rep X.K) θ H Q (fn [] st) := hp
  have hlen : ([] : List D).length = np := by
    by_cases q : ([] : List D).length = np
    · exact q
    · rw [hl [] st q] at hp; exact hp.elim
  refine ⟨hlen, θ, st, [], hS, rfl, ?_⟩
  cases q : fn [] st with
  | ok d st2 => rw [q] at hp; exact hp
  | exc y st2 => exact absurd q (hx _ _ _ _)
  | stuck => rw [q] at hp; exact hp
/-- a call of one that may raise -/
theorem pd_callX (F : Df X.prog X.w X.K X.mg X.base (L2.CX X.prog X.w) k x np fn) (hr : Room k X.A) (tk : Takes X W) (hl : ∀ ds st, ds.length ≠ np → fn ds st = .stuck) (ha : PDA X W (e :: es) fa) (hW : ∀ c dd σ σ' H, W c dd σ H → W c dd σ' H) (hg : Gl X x := by rfl) (hdb : (x == ("__debug__" : Str)) = false := by decide)
    (he : starEach (e :: es) X.env = (false, eval e X.env) :: starEach es X.env := by rfl) (hpl : (backTo pos (starEach es X.env)).any (·.1) = false := by rfl) : PD X W (.Call (.Name x p) (e :: es) [] pos) (eC2 fn fa) := by
  obtain ⟨f, fd, ps, hm, hk, hb, F⟩ := F.ex
  let E : XK := fun c d H => ∀ σ, W c d σ H
  refine ⟨(pe_call (E := E) F hr hg hm hk hb .nil (passes_call tk fun cls d σ H h => h σ) ha.pa hdb he hpl).imp ?_⟩
  rintro σ H Q ⟨θ, env, st, hE, hS, hp⟩
  refine ⟨θ, env, st, hE, hS, post.bind hp fun θ1 H1 st1 ds vs e1 hS1 r1 hp1 => ?_⟩
  have hlen : ds.length = np := by
    by_cases q : ds.length = np
    · exact q
    · rw [hl ds st1 q] at hp1; exact hp1.elim
  rw [List.append_nil]
  refine ⟨by rw [← r1.length]; exact hlen, θ1, st1, ds, hS1, r1, ?_⟩
  cases q : fn ds st1 with
  | ok d st2 => rw [q] at hp1; exact hp1
  | exc y st2 => rw [q] at hp1; exact fun θ' H' c dd e1 e2 e3 σ' => hp1 θ' H' c dd σ' e1 e2 e3
  | stuck => rw [q] at hp1; exact hp1
end
theorem fn0_noexc {np nn : Nat} {g : Gc} {b : DS} : ∀ ds st y st', fn0 np nn g b ds st ≠ .exc y st' := fun ds st y st' h => by
  unfold fn0 noX at h
  split at h
  · cases h
  · rename_i hh; exact hh _ _ h
theorem fn0_len {np nn : Nat} {g : Gc} {b : DS} : ∀ ds st, ds.length ≠ np → fn0 np nn g b ds st = .stuck := fun ds st h => by
  unfold fn0 fnX; rw [if_neg h]; rfl
theorem fnX_len {np nn : Nat} {g : Gc} {b : DS} : ∀ ds st, ds.length ≠ np → fnX np nn g b ds st = .stuck := fun ds st h => by
  unfold fnX; rw [if_neg h]

/-! ### methods of lists -/
def isL (o : D) (st : Stt) : Res Unit := match o with
  | .loc n => match st[n]? with
    | some (.lst _) => .ok () st
    | _ => .stuck
  | _ => .stuck
def appD (o d : D) (st : Stt) : Res D := match o with
  | .loc n => match st[n]? with
    | some (.lst xs) => if xs.length < sizeLine then .ok .non (st.set n (.lst (xs ++ [d]))) else .stuck
    | _ => .stuck
  | _ => .stuck
theorem isL_rep {K : PySem.W.Frag} {θ : Th} {H : Hp} {st st' : Stt} {o : D} {v : V} {u : Unit} (hS : RepSt K θ H st) (r : Rep K θ H o v) (h : isL o st = .ok u st') : st' = st ∧ ∃ a vs, v = .ref a ∧ H a = some (.lst vs) := by
  cases o with
  | loc n =>
    unfold isL at h
    dsimp only at h
    cases q : st[n]? with
    | none => rw [q] at h; cases h
    | some ob =>
      rw [q] at h
      cases ob with
      | lst xs =>
        cases h
        obtain ⟨a, vs, h0, h1, h2⟩ := hS.lst q
        obtain ⟨a', hv, h3⟩ := r
        rw [h0] at h3; cases h3
        exact ⟨rfl, a, vs, hv, h1⟩
      | _ => cases h
  | _ => cases h
theorem isL_exc {o : D} {st st' : Stt} {x : Exn} : isL o st ≠ .exc x st' := by
  unfold isL
  split
  · split <;> intro h <;> cases h
  · intro h; cases h
section
variable {X : Cx} {W : WX} {pos apos : Pos} {o e : Expr} {f g : DE}
def eApp (f g : DE) : DE := fun env st => (f env st).bind fun o st => (isL o st).bind fun _ st => (g env st).bind fun d st => appD o d st
theorem pd_app (ho : PD X W o f) (he : PD X W e g) (hbase : attributeBase o "append" X.env (eval o X.env) = eval o X.env := by rfl)
    (hfew : ((backTo pos (starEach [e] X.env)).all (fun x => !x.1) && (backToKw pos (keywordEach [] X.env)).all (fun x => x.1.isSome)
      && decide (([e] : List Expr).length + ([] : List Keyword).length + (if ([] : List Keyword).isEmpty then 0 else 1) < 30)) = true := by rfl)
    (hline : (apos.endLine == pos.line) = true := by rfl) (hs : starEach [e] X.env = (false, eval e X.env) :: starEach [] X.env := by rfl) (hplain : (backTo pos (starEach [] X.env)).any (·.1) = false := by rfl) :
    PD X W (.Call (.Attribute o "append" apos) [e] [] pos) (eApp f g) := by
  refine ⟨(pe_bm PySem.F.plainAttrs_list PySem.F.slot_list_append PySem.F.type_list_append mt_append ho.pe (pda_cons he pda_nil hs).pa hbase hfew hline hs hplain).imp ?_⟩
  rintro σ H Q ⟨θ, env, st, hE, hS, hp⟩
  refine ⟨θ, env, st, hE, hS, post.bind hp fun θ1 H1 st1 d v e1 hS1 r1 hp1 => ?_⟩
  cases q : isL d st1 with
  | stuck => rw [q] at hp1; exact hp1.elim
  | exc x st2 => exact absurd q isL_exc
  | ok u st2 =>
    rw [q] at hp1
    obtain ⟨rfl, a, vs, rfl, h1⟩ := isL_rep hS1 r1 q
    refine ⟨.inl ⟨rfl, vs, .inl (.inl h1)⟩, θ1, env, st2, hE.mono e1, hS1, ?_⟩
    have hp1 : post X W (Rep X.K) θ1 H1 Q ((g env st2).bind fun d' st => appD d d' st) := hp1
    have hp2 : post X W (Rep X.K) θ1 H1 Q ((aCons g aNil env st2).bind fun ds st => match ds with | [d'] => appD d d' st | _ => .stuck) := by
      show post X W (Rep X.K) θ1 H1 Q (((g env st2).bind fun d st => (aNil env st).bind fun ds st => .ok (d :: ds) st).bind _)
      rw [bind_assoc]
      exact hp1
    refine post.bind hp2 fun θ2 H2 st3 ds vs e2 hS2 r2 hp2 => ?_
    match ds, hp2, r2 with
    | [d'], hp2, r2 =>
      obtain ⟨v', rfl, r3⟩ := reps1 r2
      have r1' := r1.mono e2
      cases d with
      | loc n =>
        have hp2 : post X W (Rep X.K) θ2 H2 Q (match st3[n]? with
          | some (.lst xs) => if xs.length < sizeLine then .ok .non (st3.set n (.lst (xs ++ [d']))) else .stuck
          | _ => .stuck) := hp2
        cases q2 : st3[n]? with
        | none => rw [q2] at hp2; exact hp2.elim
        | some ob =>
          rw [q2] at hp2
          cases ob with
          | lst xs =>
            have hp2 : post X W (Rep X.K) θ2 H2 Q (if xs.length < sizeLine then .ok .non (st3.set n (.lst (xs ++ [d']))) else .stuck) := hp2
            split at hp2
            · rename_i hz
              obtain ⟨b, ws, h3, h4, h5⟩ := hS2.lst q2
              obtain ⟨b', hb, h6⟩ := r1'
              rw [h3] at h6; cases h6
              cases hb
              refine ⟨a, ws, v', rfl, rfl, h4, by rw [← h5.length]; exact hz, ?_⟩
              exact hp2 θ2 _ .non (Ext.put hS2 h3) (hS2.put h3 ⟨_, upd_same, (h5.append (show Reps X.K θ2 H2 [d'] [v'] from ⟨v', [], rfl, r3, rfl⟩)).mono (Ext.put hS2 h3)⟩) rfl
            · exact hp2.elim
          | _ => exact (show False from hp2).elim
      | _ => cases q
end
/-! ### a law's end -/
section
variable {K : PySem.W.Frag} {mg : Str → Option Value} {fn : Fn}
theorem law_sp (h : ∀ ns : List Int, ns.length ≤ 63 → fn [.scr ns] [] = .ok (.bl true) []) (H : Hp) (a : Addr) (ns : List Int) (hl : ns.length ≤ 63) (hO : Only H) (hS : SqL K H a (ns.map V.int)) :
    spD K mg 1 fn [.ref a] H (fun v _ => v = .bl true) fun _ _ _ => False := by
  refine ⟨rfl, ⟨[], []⟩, [], [.scr ns], ⟨rfl, (fun _ h => nomatch h), (fun _ h => nomatch h), (fun i j a h => by simp at h), (fun n => by simp)⟩, ⟨.ref a, [], rfl, ⟨a, rfl, ?_⟩, rfl⟩, ?_⟩
  · rcases hS with hS | hS
    · exact .inl ⟨hS, fun z => z.elim (fun z => by cases z) fun z => by cases z⟩
    · exact .inr hS
  · rw [h ns hl]
    exact fun θ' H' v _ _ r => r
end
end DL
namespace DL
open PySem PySem.Spec PyProof.Rows L2
/-! ### what the head tells -/
def FnAt (K : PySem.W.Frag) (mg : Str → Option Value) (x : Str) (st : Stmt) : Prop := ∃ f fd, FunD K x x (defArgs st) (defBody st) (defScope st) [] [] f fd ∧ mg x = some (.ref f)
abbrev dfd (x : Str) (st : Stmt) : He.DefD := ⟨(x, none), x, x, defArgs st, defBody st, defScope st, [], []⟩
theorem fnAt_of {fa : List He.Fa} {fn : List He.DefD} {K : PySem.W.Frag} {h : Heap} {mg : Str → Option Value} (c : He.SaysD fa fn K) (X : K.In h) (G : h.Ns mainGlobals mg) (i j : Nat) {x : Str} {st : Stmt}
    (h1 : fn[i]? = some (dfd x st)) (h2 : fa[j]? = some (.glo x)) : FnAt K mg x st := by
  obtain ⟨fd, F⟩ := c.def_ i h1
  exact ⟨_, fd, F, He.glo_ok X G (c.fact j h2)⟩
theorem hu65 {k : Nat} {A : Around} (r : Room k A) : A.units + 65 < cLine := by have := r.un; omega
theorem pd_gintE {X : Cx} {W : WX} {x : Str} {i : Int} {pos : Pos} (hg : Gl X x) (hm : ∃ t, X.mg x = some (.int i t)) (hd : (x == ("__debug__" : Str)) = false := by decide) : PD X W (.Name x pos) (eC (.int i)) := by
  obtain ⟨t, hm⟩ := hm
  exact pd_gint hg hm hd
end DL
set_option maxHeartbeats 4000000
/-! what each def computes, over data -/
namespace DL
open PySem PySem.Spec PyProof.Rows L2
def b_is_number : DS :=
    sRet (eAnd (eC2 isiC (aCons (eV 0) (aCons (eC (.ty "int")) (aNil)))) (eAnd (eNot (eC2 isiC (aCons (eV 0) (aCons (eC (.ty "bool")) (aNil))))) (eChain (eV 1) (eV 0) (eV 2))))
def f_is_number : Fn := fn0 3 3 gcN b_is_number
def b_is_tuple : DS :=
    sRet (eAnd (eC2 isiC (aCons (eV 0) (aCons (eC (.ty "tuple")) (aNil)))) (eChain (eV 1) (eC2 lenC (aCons (eV 0) (aNil))) (eV 2)))
def f_is_tuple : Fn := fn0 3 3 gcN b_is_tuple
def b_is_word : DS :=
    sRet (eAnd (eC2 isiC (aCons (eV 0) (aCons (eC (.ty "str")) (aNil)))) (e2 (inD false) (eV 0) (eV 1)))
def f_is_word : Fn := fn0 2 2 gcN b_is_word
def b_is_turn : DS :=
    sSeq (sIf (tyOr (tV (e2 (eqD true) (eC2 lenC (aCons (eV 0) (aNil))) (eC (.int 3)))) (tyOr (tyNot (tV (eC2 f_is_number (aCons (e2 ixD (eV 0) (eC (.int 1))) (aCons (eC (.int 0)) (aCons (eC (.int 4)) (aNil))))))) (tyNot (tV (eC2 f_is_number (aCons (e2 ixD (eV 0) (eC (.int 2))) (aCons (e1 negD (eC (.int 5))) (aCons (eC (.int 20)) (aNil))))))))) (sRet (eC (.bl false))) (sNil))
    (sRet (eOr (e2 (gtD) (e2 ixD (eV 0) (eC (.int 1))) (eC (.int 0))) (e2 (gtD) (e2 ixD (eV 0) (eC (.int 2))) (eC (.int 0)))))
def f_is_turn : Fn := fn0 1 1 gcN b_is_turn
def b_is_deed_of : DS :=
    sSeq (sIf (tyNot (tV (eC2 f_is_tuple (aCons (eV 1) (aCons (eC (.int 1)) (aCons (eC (.int 3)) (aNil))))))) (sRet (eC (.bl false))) (sNil))
    (sSeq (sIf (tV (eC2 f_is_word (aCons (e2 ixD (eV 1) (eC (.int 0))) (aCons (eTup (aCons (eC (.str "turn")) (aNil))) (aNil))))) (sRet (eC2 f_is_turn (aCons (eV 1) (aNil)))) (sNil))
    (sSeq (sIf (tV (eC2 f_is_word (aCons (e2 ixD (eV 1) (eC (.int 0))) (aCons (eTup (aCons (eC (.str "on")) (aCons (eC (.str "fetch")) (aNil)))) (aNil))))) (sRet (eAnd (e2 (eqD false) (eC2 lenC (aCons (eV 1) (aNil))) (eC (.int 2))) (eC2 f_is_number (aCons (e2 ixD (eV 1) (eC (.int 1))) (aCons (eC (.int 0)) (aCons (e2 subD (eV 0) (eC (.int 1))) (aNil))))))) (sNil))
    (sRet (eAnd (eC2 f_is_word (aCons (e2 ixD (eV 1) (eC (.int 0))) (aCons (eTup (aCons (eC (.str "off")) (aCons (eC (.str "free")) (aNil)))) (aNil)))) (e2 (eqD false) (eC2 lenC (aCons (eV 1) (aNil))) (eC (.int 1)))))))
def f_is_deed_of : Fn := fn0 2 2 gcN b_is_deed_of
def b_are_weights : DS :=
    sRet (eAnd (eC2 f_is_tuple (aCons (eV 0) (aCons (eC (.int 1)) (aCons (eC (.int 4)) (aNil))))) (eC2 allC (aCons (eLc (iVal (eV 0)) (.nm 1) (tTrue) (eC2 f_is_number (aCons (eV 1) (aCons (eC (.int 1)) (aCons (eC (.int 9)) (aNil))))) [1]) (aNil))))
def f_are_weights : Fn := fn0 1 2 gcN b_are_weights
def b_is_good_plan : DS :=
    sSeq (sIf (tyOr (tyNot (tV (eC2 f_is_tuple (aCons (eV 0) (aCons (eC (.int 2)) (aCons (eC (.int 2)) (aNil))))))) (tyOr (tyNot (tV (eC2 f_are_weights (aCons (e2 ixD (eV 0) (eC (.int 0))) (aNil))))) (tyNot (tV (eC2 f_is_tuple (aCons (e2 ixD (eV 0) (eC (.int 1))) (aCons (eC (.int 0)) (aCons (eC (.int 8)) (aNil))))))))) (sRet (eC (.bl false))) (sNil))
    (sRet (eC2 allC (aCons (eLc (iVal (e2 ixD (eV 0) (eC (.int 1)))) (.nm 1) (tTrue) (eC2 f_is_deed_of (aCons (eC2 lenC (aCons (e2 ixD (eV 0) (eC (.int 0))) (aNil))) (aCons (eV 1) (aNil)))) [1]) (aNil))))
def f_is_good_plan : Fn := fn0 1 2 gcN b_is_good_plan
def b_need_plan : DS :=
    sIf (tyNot (tV (eC2 f_is_good_plan (aCons (eV 0) (aNil))))) (sNever) (sNil)
def f_need_plan : Fn := fn0 1 1 gcN b_need_plan
def b_is_plan : DS :=
    sRet (eC2 f_is_good_plan (aCons (eV 0) (aNil)))
def f_is_plan : Fn := fn0 1 1 gcN b_is_plan
def b_is_deed : DS :=
    sSeq (sExpr (eC2 f_need_plan (aCons (eV 0) (aNil))))
    (sRet (eC2 f_is_deed_of (aCons (eC2 lenC (aCons (e2 ixD (eV 0) (eC (.int 0))) (aNil))) (aCons (eV 1) (aNil)))))
def f_is_deed : Fn := fn0 2 2 gcN b_is_deed
def b_law_source : DS :=
    sSeq (sAsg (.nm 2) (eC (.int 0)))
    (sSeq (sIf (tV (e2 (ltD) (eV 1) (eC2 lenC (aCons (eV 0) (aNil))))) (sAsg (.nm 2) (eC2 absC (aCons (eC2 intC (aCons (e2 ixD (eV 0) (eV 1)) (aNil))) (aNil)))) (sNil))
    (sSeq (sIf (tV (e2 (ltD) (eV 2) (e2 powD (eC (.int 10)) (eC (.int 18))))) (sRet (eLstM (aCons (eC (.int 0)) (aCons (e2 addD (eC (.int 1)) (e2 modD (eC2 intC (aCons (e2 addD (e2 mulD (eV 2) (eC (.int 7919))) (e2 mulD (eC (.int 104729)) (eV 1))) (aNil))) (eC (.int 2147483646)))) (aNil))))) (sNil))
    (sRet (eLstM (aCons (eV 2) (aCons (e2 addD (eC (.int 1)) (e2 modD (eC2 intC (aCons (e2 addD (eV 2) (eV 1)) (aNil))) (eC (.int 2147483646)))) (aNil)))))))
def f_law_source : Fn := fn0 2 3 gcN b_law_source
def b_law_draw : DS :=
    sSeq (sIf (tV (e2 (gtD) (e2 ixD (eV 0) (eC (.int 0))) (eC (.int 0)))) (sSeq (sAsg (.nm 2) (e2 modD (eC2 intC (aCons (e2 ixD (eV 0) (eC (.int 0))) (aNil))) (eV 1)))
    (sSeq (sPut (eV 0) (eC (.int 0)) (e2 divD (e2 ixD (eV 0) (eC (.int 0))) (eV 1)))
    (sRet (eV 2)))) (sNil))
    (sSeq (sPut (eV 0) (eC (.int 1)) (e2 modD (eC2 intC (aCons (e2 mulD (e2 ixD (eV 0) (eC (.int 1))) (eC (.int 48271))) (aNil))) (eC (.int 2147483647))))
    (sRet (e2 modD (eC2 intC (aCons (e2 divD (e2 modD (eC2 intC (aCons (e2 mulD (e2 ixD (eV 0) (eC (.int 1))) (e2 ixD (eV 0) (eC (.int 1)))) (aNil))) (eC (.int 2147483629))) (eC (.int 64))) (aNil))) (eV 1))))
def f_law_draw : Fn := fn0 2 3 gcN b_law_draw
def b_law_of : DS :=
    sRet (e2 ixD (eV 1) (eC2 f_law_draw (aCons (eV 0) (aCons (eC2 lenC (aCons (eV 1) (aNil))) (aNil)))))
def f_law_of : Fn := fn0 2 2 gcN b_law_of
def b_law_deed : DS :=
    sSeq (sAsg (.nm 2) (eC2 f_law_of (aCons (eV 0) (aCons (eLst (aCons (eC (.str "turn")) (aCons (eC (.str "turn")) (aCons (eC (.str "turn")) (aCons (eC (.str "on")) (aCons (eC (.str "on")) (aCons (eC (.str "off")) (aCons (eC (.str "fetch")) (aCons (eC (.str "free")) (aNil)))))))))) (aNil)))))
    (sSeq (sIf (tV (e2 (eqD false) (eV 2) (eC (.str "turn")))) (sSeq (sPar [3, 4] (aCons (eC2 f_law_of (aCons (eV 0) (aCons (eLst (aCons (eC (.int 0)) (aCons (eC (.int 0)) (aCons (eC (.int 1)) (aCons (eC (.int 1)) (aCons (eC (.int 2)) (aCons (eC (.int 3)) (aCons (eC (.int 4)) (aNil))))))))) (aNil)))) (aCons (e2 subD (eC2 f_law_draw (aCons (eV 0) (aCons (eC (.int 26)) (aNil)))) (eC (.int 5))) (aNil))))
    (sSeq (sIf (tyAnd (tV (e2 (eqD false) (eV 3) (eC (.int 0)))) (tV (e2 (ltD) (eV 4) (eC (.int 1))))) (sAsg (.nm 4) (e2 addD (eC (.int 1)) (eC2 f_law_draw (aCons (eV 0) (aCons (eC (.int 3)) (aNil)))))) (sNil))
    (sRet (eTup (aCons (eV 2) (aCons (eV 3) (aCons (eV 4) (aNil)))))))) (sNil))
    (sSeq (sIf (tV (e2 (inD false) (eV 2) (eTup (aCons (eC (.str "on")) (aCons (eC (.str "fetch")) (aNil)))))) (sRet (eTup (aCons (eV 2) (aCons (eC2 f_law_draw (aCons (eV 0) (aCons (eV 1) (aNil)))) (aNil))))) (sNil))
    (sRet (eTup (aCons (eV 2) (aNil))))))
def f_law_deed : Fn := fn0 2 5 gcN b_law_deed
def b_law_plan : DS :=
    sSeq (sAsg (.nm 2) (eC2 tupleC (aCons (eLc (iArg rng1D (aCons (e2 addD (eC (.int 1)) (eC2 f_law_draw (aCons (eV 0) (aCons (eC (.int 4)) (aNil))))) (aNil))) (.nm 6) (tTrue) (e2 addD (eC (.int 1)) (eC2 f_law_draw (aCons (eV 0) (aCons (eC (.int 9)) (aNil))))) [6]) (aNil))))
    (sSeq (sAsg (.nm 3) (eTup (aNil)))
    (sSeq (sFor (iArg rng1D (aCons (eC2 f_law_draw (aCons (eV 0) (aCons (e2 addD (eV 1) (eC (.int 1))) (aNil)))) (aNil))) (.nm 4) (sSeq (sAsg (.nm 5) (eC2 f_law_deed (aCons (eV 0) (aCons (eC2 lenC (aCons (eV 2) (aNil))) (aNil)))))
    (sSeq (sIf (tyAnd (tV (e2 (eqD false) (eV 4) (eC (.int 0)))) (tV (e2 (gtD) (eC2 f_law_draw (aCons (eV 0) (aCons (eC (.int 3)) (aNil)))) (eC (.int 0))))) (sAsg (.nm 5) (eTup (aCons (eC (.str "on")) (aCons (eC (.int 0)) (aNil))))) (sNil))
    (sAsg (.nm 3) (e2 addD (eV 3) (eTup (aCons (eV 5) (aNil))))))))
    (sRet (eTup (aCons (eV 2) (aCons (eV 3) (aNil)))))))
def f_law_plan : Fn := fn0 2 7 gcN b_law_plan
def b_law_is_int : DS :=
    sRet (eAnd (eC2 isiC (aCons (eV 0) (aCons (eC (.ty "int")) (aNil)))) (eAnd (eNot (eC2 isiC (aCons (eV 0) (aCons (eC (.ty "bool")) (aNil))))) (eChain (eV 1) (eV 0) (eV 2))))
def f_law_is_int : Fn := fn0 3 3 gcN b_law_is_int
def b_law_is_deed : DS :=
    sSeq (sIf (tyOr (tyNot (tV (eC2 isiC (aCons (eV 1) (aCons (eC (.ty "tuple")) (aNil)))))) (tyOr (tV (e2 (eqD false) (eV 1) (eTup (aNil)))) (tyNot (tV (eC2 isiC (aCons (e2 ixD (eV 1) (eC (.int 0))) (aCons (eC (.ty "str")) (aNil)))))))) (sRet (eC (.bl false))) (sNil))
    (sSeq (sIf (tV (e2 (eqD false) (e2 ixD (eV 1) (eC (.int 0))) (eC (.str "turn")))) (sSeq (sIf (tyOr (tV (e2 (eqD true) (eC2 lenC (aCons (eV 1) (aNil))) (eC (.int 3)))) (tyNot (tV (eC2 f_law_is_int (aCons (e2 ixD (eV 1) (eC (.int 1))) (aCons (eC (.int 0)) (aCons (eC (.int 4)) (aNil)))))))) (sRet (eC (.bl false))) (sNil))
    (sRet (eAnd (eC2 f_law_is_int (aCons (e2 ixD (eV 1) (eC (.int 2))) (aCons (e1 negD (eC (.int 5))) (aCons (eC (.int 20)) (aNil))))) (eOr (e2 (gtD) (e2 ixD (eV 1) (eC (.int 1))) (eC (.int 0))) (e2 (gtD) (e2 ixD (eV 1) (eC (.int 2))) (eC (.int 0))))))) (sNil))
    (sSeq (sIf (tV (e2 (inD false) (e2 ixD (eV 1) (eC (.int 0))) (eTup (aCons (eC (.str "on")) (aCons (eC (.str "fetch")) (aNil)))))) (sRet (eAnd (e2 (eqD false) (eC2 lenC (aCons (eV 1) (aNil))) (eC (.int 2))) (eC2 f_law_is_int (aCons (e2 ixD (eV 1) (eC (.int 1))) (aCons (eC (.int 0)) (aCons (e2 subD (eV 0) (eC (.int 1))) (aNil))))))) (sNil))
    (sRet (e2 (inD false) (eV 1) (eTup (aCons (eTup (aCons (eC (.str "off")) (aNil))) (aCons (eTup (aCons (eC (.str "free")) (aNil))) (aNil))))))))
def f_law_is_deed : Fn := fn0 2 2 gcN b_law_is_deed
def b_law_is_plan : DS :=
    sSeq (sIf (tyOr (tyNot (tV (eC2 isiC (aCons (eV 0) (aCons (eC (.ty "tuple")) (aNil)))))) (tyOr (tV (e2 (eqD true) (eC2 lenC (aCons (eV 0) (aNil))) (eC (.int 2)))) (tyNot (tV (eC2 isiC (aCons (e2 ixD (eV 0) (eC (.int 0))) (aCons (eC (.ty "tuple")) (aNil)))))))) (sRet (eC (.bl false))) (sNil))
    (sSeq (sIf (tyOr (tyNot (tV (eChain (eC (.int 1)) (eC2 lenC (aCons (e2 ixD (eV 0) (eC (.int 0))) (aNil))) (eC (.int 4))))) (tyOr (tyNot (tV (eC2 isiC (aCons (e2 ixD (eV 0) (eC (.int 1))) (aCons (eC (.ty "tuple")) (aNil)))))) (tV (e2 (gtD) (eC2 lenC (aCons (e2 ixD (eV 0) (eC (.int 1))) (aNil))) (eC (.int 8)))))) (sRet (eC (.bl false))) (sNil))
    (sSeq (sIf (tV (e2 (eqD true) (eLc (iVal (e2 ixD (eV 0) (eC (.int 0)))) (.nm 1) (tyNot (tV (eC2 f_law_is_int (aCons (eV 1) (aCons (eC (.int 1)) (aCons (eC (.int 9)) (aNil))))))) (eV 1) [1]) (eLst (aNil)))) (sRet (eC (.bl false))) (sNil))
    (sRet (e2 (eqD false) (eLc (iVal (e2 ixD (eV 0) (eC (.int 1)))) (.nm 2) (tyNot (tV (eC2 f_law_is_deed (aCons (eC2 lenC (aCons (e2 ixD (eV 0) (eC (.int 0))) (aNil))) (aCons (eV 2) (aNil)))))) (eV 2) [2]) (eLst (aNil))))))
def f_law_is_plan : Fn := fn0 1 3 gcN b_law_is_plan
def b_law_odd : DS :=
    sSeq (sAsg (.nm 1) (eLst (aCons (eC .non) (aCons (eC (.bl true)) (aCons (eC (.bl false)) (aCons (eC (.int 0)) (aCons (eC (.int 1)) (aCons (eC (.int 3)) (aCons (eC (.int 4)) (aCons (eC (.int 5)) (aCons (eC (.int 9)) (aCons (eC (.int 10)) (aCons (eC (.int 20)) (aCons (eC (.int 21)) (aCons (e1 negD (eC (.int 1))) (aCons (e1 negD (eC (.int 5))) (aCons (e1 negD (eC (.int 6))) (aCons (eC (.str "")) (aCons (eC (.str "on")) (aCons (eC (.str "off")) (aCons (eC (.str "turn")) (aCons (eC (.str "free")) (aCons (eTup (aNil)) (aNil))))))))))))))))))))))))
    (sRet (eC2 f_law_of (aCons (eV 0) (aCons (e2 addD (eV 1) (eLst (aCons (eLst (aNil)) (aCons (eTup (aCons (eC (.str "off")) (aNil))) (aCons (eTup (aCons (eC (.str "on")) (aCons (eC (.int 0)) (aNil)))) (aCons (eTup (aCons (eC (.str "turn")) (aCons (eC (.int 1)) (aCons (eC (.int 0)) (aNil))))) (aCons (eLst (aCons (eC (.str "off")) (aNil))) (aCons (eTup (aCons (eC (.str "free")) (aCons (eC (.int 0)) (aNil)))) (aNil))))))))) (aNil)))))
def f_law_odd : Fn := fn0 1 2 gcN b_law_odd
def b_law_spoilt (self : Fn) : DS :=
    sSeq (sIf (tyOr (tyNot (tV (eC2 isiC (aCons (eV 1) (aCons (eC (.ty "tuple")) (aNil)))))) (tyOr (tV (e2 (eqD false) (eV 1) (eTup (aNil)))) (tV (e2 (eqD false) (eC2 f_law_draw (aCons (eV 0) (aCons (eC (.int 6)) (aNil)))) (eC (.int 0)))))) (sRet (eC2 f_law_odd (aCons (eV 0) (aNil)))) (sNil))
    (sSeq (sPar [2, 3] (aCons (eC2 f_law_draw (aCons (eV 0) (aCons (eC2 lenC (aCons (eV 1) (aNil))) (aNil)))) (aCons (eC2 f_law_draw (aCons (eV 0) (aCons (eC (.int 9)) (aNil)))) (aNil))))
    (sSeq (sIf (tV (e2 (eqD false) (eV 3) (eC (.int 0)))) (sRet (e2 addD (eSlice (eV 1) (oNone) (oSome (eV 2))) (eSlice (eV 1) (oSome (e2 addD (eV 2) (eC (.int 1)))) (oNone)))) (sNil))
    (sSeq (sIf (tV (e2 (eqD false) (eV 3) (eC (.int 1)))) (sRet (e2 addD (eSlice (eV 1) (oNone) (oSome (e2 addD (eV 2) (eC (.int 1))))) (eSlice (eV 1) (oSome (eV 2)) (oNone)))) (sNil))
    (sSeq (sIf (tV (e2 (eqD false) (eV 3) (eC (.int 2)))) (sRet (e2 addD (e2 addD (eSlice (eV 1) (oNone) (oSome (eV 2))) (eTup (aCons (eC2 f_law_odd (aCons (eV 0) (aNil))) (aNil)))) (eSlice (eV 1) (oSome (eV 2)) (oNone)))) (sNil))
    (sSeq (sIf (tV (e2 (eqD false) (eV 3) (eC (.int 3)))) (sRet (eC2 listC (aCons (eV 1) (aNil)))) (sNil))
    (sSeq (sIf (tyAnd (tV (eC2 isiC (aCons (e2 ixD (eV 1) (eV 2)) (aCons (eC (.ty "int")) (aNil))))) (tV (e2 (ltD) (eV 3) (eC (.int 6))))) (sRet (e2 addD (e2 addD (eSlice (eV 1) (oNone) (oSome (eV 2))) (eTup (aCons (e2 subD (e2 addD (e2 ixD (eV 1) (eV 2)) (eC2 f_law_draw (aCons (eV 0) (aCons (eC (.int 3)) (aNil))))) (eC (.int 1))) (aNil)))) (eSlice (eV 1) (oSome (e2 addD (eV 2) (eC (.int 1)))) (oNone)))) (sNil))
    (sRet (e2 addD (e2 addD (eSlice (eV 1) (oNone) (oSome (eV 2))) (eTup (aCons (eC2 self (aCons (eV 0) (aCons (e2 ixD (eV 1) (eV 2)) (aNil)))) (aNil)))) (eSlice (eV 1) (oSome (e2 addD (eV 2) (eC (.int 1)))) (oNone))))))))))
def fs_law_spoilt : Nat → Fn
  | 0 => fun _ _ => .stuck
  | n + 1 => fn0 2 4 gcN (b_law_spoilt (fs_law_spoilt n))
def f_law_spoilt : Fn := fs_law_spoilt 24
def b_law : DS :=
    sSeq (sAsg (.nm 1) (eTup (aCons (e2 mulD (eTup (aCons (eC (.int 9)) (aNil))) (eC (.int 4))) (aCons (e2 mulD (eTup (aCons (eTup (aCons (eC (.str "turn")) (aCons (eC (.int 4)) (aCons (eC (.int 20)) (aNil))))) (aNil))) (eC (.int 8))) (aNil)))))
    (sSeq (sFor (iArg rng1D (aCons (e2 addD (eC (.int 1)) (eC2 minC (aCons (eC2 lenC (aCons (eV 0) (aNil))) (aCons (eC (.int 10)) (aNil))))) (aNil))) (.nm 2) (sSeq (sAsg (.nm 3) (eC2 f_law_source (aCons (eV 0) (aCons (eV 2) (aNil)))))
    (sSeq (sAsg (.nm 4) (eC2 f_law_plan (aCons (eV 3) (aCons (eC (.int 8)) (aNil)))))
    (sFor (iVal (eLst (aCons (eV 4) (aCons (eV 4) (aCons (eC2 f_law_deed (aCons (eV 3) (aCons (eC2 lenC (aCons (e2 ixD (eV 4) (eC (.int 0))) (aNil))) (aNil)))) (aCons (eV 1) (aNil))))))) (.nm 5) (sFor (iArg rng1D (aCons (eC (.int 5)) (aNil))) (.nm 6) (sSeq (sIf (tV (e2 (eqD true) (eC2 f_is_plan (aCons (eV 5) (aNil))) (eC2 f_law_is_plan (aCons (eV 5) (aNil))))) (sRet (eC (.bl false))) (sNil))
    (sSeq (sIf (tV (e2 (eqD true) (eC2 f_is_deed (aCons (eV 4) (aCons (eV 5) (aNil)))) (eC2 f_law_is_deed (aCons (eC2 lenC (aCons (e2 ixD (eV 4) (eC (.int 0))) (aNil))) (aCons (eV 5) (aNil)))))) (sRet (eC (.bl false))) (sNil))
    (sAsg (.nm 5) (eC2 f_law_spoilt (aCons (eV 3) (aCons (eV 5) (aNil))))))))))))
    (sSeq (sAsg (.nm 7) (eTup (aCons (eTup (aCons (eC (.int 1)) (aCons (eC (.int 1)) (aNil)))) (aCons (eTup (aNil)) (aNil)))))
    (sSeq (sIf (tyOr (tV (eC2 f_is_plan (aCons (eTup (aCons (eTup (aCons (eC (.int 10)) (aNil))) (aCons (eTup (aNil)) (aNil)))) (aNil)))) (tyOr (tV (eC2 f_is_plan (aCons (eTup (aCons (e2 mulD (eTup (aCons (eC (.int 1)) (aNil))) (eC (.int 5))) (aCons (eTup (aNil)) (aNil)))) (aNil)))) (tyOr (tV (eC2 f_is_plan (aCons (eTup (aCons (eTup (aCons (eC (.int 1)) (aNil))) (aCons (e2 mulD (eTup (aCons (eTup (aCons (eC (.str "off")) (aNil))) (aNil))) (eC (.int 9))) (aNil)))) (aNil)))) (tV (eC2 f_is_plan (aCons (eTup (aCons (eTup (aNil)) (aCons (eTup (aNil)) (aNil)))) (aNil))))))) (sRet (eC (.bl false))) (sNil))
    (sSeq (sIf (tyOr (tV (eC2 f_is_deed (aCons (eV 7) (aCons (eTup (aCons (eC (.str "turn")) (aCons (eC (.int 0)) (aCons (eC (.int 0)) (aNil))))) (aNil))))) (tyOr (tV (eC2 f_is_deed (aCons (eV 7) (aCons (eTup (aCons (eC (.str "turn")) (aCons (eC (.int 5)) (aCons (eC (.int 0)) (aNil))))) (aNil))))) (tV (eC2 f_is_deed (aCons (eV 7) (aCons (eTup (aCons (eC (.str "turn")) (aCons (eC (.int 1)) (aCons (e1 negD (eC (.int 6))) (aNil))))) (aNil))))))) (sRet (eC (.bl false))) (sNil))
    (sSeq (sIf (tyOr (tV (eC2 f_is_deed (aCons (eV 7) (aCons (eTup (aCons (eC (.str "on")) (aCons (eC (.int 2)) (aNil)))) (aNil))))) (tyOr (tV (eC2 f_is_deed (aCons (eV 7) (aCons (eTup (aCons (eC (.str "turn")) (aCons (eC (.int 1)) (aCons (eC (.int 21)) (aNil))))) (aNil))))) (tV (eC2 f_is_deed (aCons (eV 7) (aCons (eTup (aCons (eC (.str "off")) (aCons (eC (.int 0)) (aNil)))) (aNil))))))) (sRet (eC (.bl false))) (sNil))
    (sRet (eAnd (eC2 f_is_plan (aCons (eV 1) (aNil))) (eAnd (eC2 f_is_deed (aCons (eV 7) (aCons (eTup (aCons (eC (.str "turn")) (aCons (eC (.int 4)) (aCons (e1 negD (eC (.int 5))) (aNil))))) (aNil)))) (eC2 f_is_deed (aCons (eV 7) (aCons (eTup (aCons (eC (.str "fetch")) (aCons (eC (.int 1)) (aNil)))) (aNil))))))))))))
def f_law : Fn := fn0 1 8 gcF b_law
end DL
set_option maxHeartbeats 4000000
/-! plain reasoning about denotations: no program, no heap -/
namespace DL
open PySem PySem.Spec PyProof.Rows L2
/-! ### what applying a combinator gives -/
section
variable {f g h : DE} {fa : DA} {t u : DT} {a b : DS} {env : Env} {st : Stt} {d : D}
@[simp] theorem eV_0 {e : Env} : eV 0 (some d :: e) st = .ok d st := rfl
@[simp] theorem eV_1 {x0 : Option D} {e : Env} : eV 1 (x0 :: some d :: e) st = .ok d st := rfl
@[simp] theorem eV_2 {x0 x1 : Option D} {e : Env} : eV 2 (x0 :: x1 :: some d :: e) st = .ok d st := rfl
@[simp] theorem eV_3 {x0 x1 x2 : Option D} {e : Env} : eV 3 (x0 :: x1 :: x2 :: some d :: e) st = .ok d st := rfl
@[simp] theorem eV_4 {x0 x1 x2 x3 : Option D} {e : Env} : eV 4 (x0 :: x1 :: x2 :: x3 :: some d :: e) st = .ok d st := rfl
@[simp] theorem eV_5 {x0 x1 x2 x3 x4 : Option D} {e : Env} : eV 5 (x0 :: x1 :: x2 :: x3 :: x4 :: some d :: e) st = .ok d st := rfl
@[simp] theorem eV_6 {x0 x1 x2 x3 x4 x5 : Option D} {e : Env} : eV 6 (x0 :: x1 :: x2 :: x3 :: x4 :: x5 :: some d :: e) st = .ok d st := rfl
@[simp] theorem eV_7 {x0 x1 x2 x3 x4 x5 x6 : Option D} {e : Env} : eV 7 (x0 :: x1 :: x2 :: x3 :: x4 :: x5 :: x6 :: some d :: e) st = .ok d st := rfl
@[simp] theorem eV_8 {x0 x1 x2 x3 x4 x5 x6 x7 : Option D} {e : Env} : eV 8 (x0 :: x1 :: x2 :: x3 :: x4 :: x5 :: x6 :: x7 :: some d :: e) st = .ok d st := rfl
@[simp] theorem eV_9 {x0 x1 x2 x3 x4 x5 x6 x7 x8 : Option D} {e : Env} : eV 9 (x0 :: x1 :: x2 :: x3 :: x4 :: x5 :: x6 :: x7 :: x8 :: some d :: e) st = .ok d st := rfl
@[simp] theorem eC_ap : eC d env st = .ok d st := rfl
@[simp] theorem aNil_ap : aNil env st = .ok [] st := rfl
@[simp] theorem aCons_ap : aCons f fa env st = (f env st).bind fun d st => (fa env st).bind fun ds st => .ok (d :: ds) st := rfl
@[simp] theorem eTup_ap : eTup fa env st = (fa env st).bind tupD := rfl
@[simp] theorem eLst_ap : eLst fa env st = (fa env st).bind lstD := rfl
@[simp] theorem eLstM_ap : eLstM fa env st = (fa env st).bind lstM := rfl
@[simp] theorem eC2_ap {c : Cal} : eC2 c fa env st = (fa env st).bind c := rfl
@[simp] theorem e2_ap {op : Op2} : e2 op f g env st = (f env st).bind fun x st => (g env st).bind fun y st => op x y st := rfl
@[simp] theorem e1_ap {op : D → Stt → Res D} : e1 op f env st = (f env st).bind op := rfl
@[simp] theorem tV_ap : tV f env st = (f env st).bind isBl := rfl
@[simp] theorem isBl_ap {k : Bool} : isBl (.bl k) st = .ok k st := rfl
@[simp] theorem eChain_ap : eChain f g h env st = (f env st).bind fun x st => (g env st).bind fun y st => (leD x y st).bind fun z st => (isBl z st).bind fun k st => if k = true then (h env st).bind fun w st => leD y w st else .ok (.bl false) st := rfl
@[simp] theorem eIsN_ap {neg : Bool} : eIsN neg f env st = (f env st).bind fun x st => .ok (.bl (if neg then !isNon x else isNon x)) st := rfl
@[simp] theorem tyAnd_ap : tyAnd t u env st = (t env st).bind fun k st => if k = true then u env st else .ok false st := rfl
@[simp] theorem tyOr_ap : tyOr t u env st = (t env st).bind fun k st => if k = true then .ok true st else u env st := rfl
@[simp] theorem tyNot_ap : tyNot t env st = (t env st).bind fun k st => .ok (!k) st := rfl
@[simp] theorem tTrue_ap : tTrue env st = .ok true st := rfl
@[simp] theorem eAnd_ap : eAnd f g env st = (f env st).bind fun x st => (isBl x st).bind fun k st => if k = true then g env st else .ok (.bl false) st := rfl
@[simp] theorem eOr_ap : eOr f g env st = (f env st).bind fun x st => (isBl x st).bind fun k st => if k = true then .ok (.bl true) st else g env st := rfl
@[simp] theorem eNot_ap : eNot f env st = (f env st).bind fun x st => (isBl x st).bind fun k st => .ok (.bl (!k)) st := rfl
@[simp] theorem eIf_ap : eIf t f g env st = (t env st).bind fun k st => if k = true then f env st else g env st := rfl
@[simp] theorem oNone_ap : oNone env st = .ok none st := rfl
@[simp] theorem eSlice_ap {l u : DO} : eSlice f l u env st = (f env st).bind fun x st => (l env st).bind fun lo st => (u env st).bind fun hi st => sliceD x lo hi st := rfl
theorem oSome_ap : oSome f env st = (f env st).bind fun d st => match d with
  | .int i => .ok (some i) st
  | _ => .stuck := rfl
@[simp] theorem sNil_ap : sNil env st = .nx env st := rfl
@[simp] theorem sRet_ap : sRet f env st = (f env st).then fun d st => .rt d st := rfl
@[simp] theorem sRetN_ap : sRetN env st = .rt .non st := rfl
@[simp] theorem sExpr_ap : sExpr f env st = (f env st).then fun _ st => .nx env st := rfl
@[simp] theorem sIf_ap : sIf t a b env st = (t env st).then fun k st => if k = true then a env st else b env st := rfl
@[simp] theorem sNever_ap : sNever env st = .stuck := rfl
@[simp] theorem sBreak_ap : sBreak env st = .bk env st := rfl
@[simp] theorem sCont_ap : sCont env st = .ct env st := rfl
def SR.nxt (r : SR) (k : Env → Stt → SR) : SR := match r with
  | .nx env st => k env st
  | r => r
@[simp] theorem sSeq_ap : sSeq a b env st = (a env st).nxt b := rfl
@[simp] theorem nxt_nx {k : Env → Stt → SR} : (SR.nx env st).nxt k = k env st := rfl
@[simp] theorem nxt_rt {k : Env → Stt → SR} : (SR.rt d st).nxt k = .rt d st := rfl
@[simp] theorem nxt_bk {k : Env → Stt → SR} : (SR.bk env st).nxt k = .bk env st := rfl
@[simp] theorem nxt_ct {k : Env → Stt → SR} : (SR.ct env st).nxt k = .ct env st := rfl
@[simp] theorem nxt_exc {x : Exn} {k : Env → Stt → SR} : (SR.exc x st).nxt k = .exc x st := rfl
@[simp] theorem nxt_stuck {k : Env → Stt → SR} : SR.stuck.nxt k = .stuck := rfl
theorem nxt_ite {c : Prop} [Decidable c] {x y : SR} {k : Env → Stt → SR} : (if c then x else y).nxt k = if c then x.nxt k else y.nxt k := by split <;> rfl
@[simp] theorem sAsg_nm {i : Nat} : sAsg (.nm i) f env st = (f env st).then fun d st => .nx (env.set i (some d)) st := rfl
@[simp] theorem sPar_ap {is : List Nat} : sPar is fa env st = (fa env st).then fun ds st => if ds.length = is.length then .nx ((is.zip ds).foldl (fun env p => env.set p.1 (some p.2)) env) st else .stuck := rfl
theorem sPut_ap : sPut f g h env st = (h env st).then fun v st => (f env st).then fun o st => (g env st).then fun i st => match setD o i v st with
  | some st => .nx env st
  | none => .stuck := rfl
@[simp] theorem endR_nx : endR (.nx env st) = .ok .non st := rfl
@[simp] theorem endR_rt : endR (.rt d st) = .ok d st := rfl
@[simp] theorem endR_exc {x : Exn} : endR (.exc x st) = .exc x st := rfl
theorem endR_ite {c : Prop} [Decidable c] {x y : SR} : endR (if c then x else y) = if c then endR x else endR y := by split <;> rfl
@[simp] theorem noX_ok : noX (.ok d st) = .ok d st := rfl
theorem noX_ite {c : Prop} [Decidable c] {x y : Res D} : noX (if c then x else y) = if c then noX x else noX y := by split <;> rfl
@[simp] theorem gcN_ap {n : Nat} {r : Res D} : gcN n r = r := rfl
theorem fn0_ap {np nn : Nat} {gc : Gc} {ds : List D} (h : ds.length = np) : fn0 np nn gc a ds st = noX (gc st.length (endR (a (ds.map some ++ List.replicate (nn - np) none) st))) := by
  unfold fn0 fnX; rw [if_pos h]
theorem fnX_ap {np nn : Nat} {gc : Gc} {ds : List D} (h : ds.length = np) : fnX np nn gc a ds st = gc st.length (endR (a (ds.map some ++ List.replicate (nn - np) none) st)) := by
  unfold fnX; rw [if_pos h]
@[simp] theorem tupD_ap {ds : List D} (h : ds.length ≤ 16777216) : tupD ds st = .ok (.tup ds) st := if_pos h
@[simp] theorem lstD_ap {ds : List D} (h : ds.length ≤ 16777216) : lstD ds st = .ok (.lst ds) st := if_pos h
end
section
variable {α β : Type} {c : Prop} [Decidable c] {st : Stt}
@[simp] theorem ite_ok {x y : α} : (if c then Res.ok x st else Res.ok y st) = Res.ok (if c then x else y) st := by split <;> rfl
@[simp] theorem ite_rt {x y : D} : (if c then SR.rt x st else SR.rt y st) = SR.rt (if c then x else y) st := by split <;> rfl
@[simp] theorem ite_bl {x y : Bool} : (if c then D.bl x else D.bl y) = D.bl (if c then x else y) := by split <;> rfl
theorem bind_ite {x y : Res α} {k : α → Stt → Res β} : (if c then x else y).bind k = if c then x.bind k else y.bind k := by split <;> rfl
theorem then_ite {x y : Res α} {k : α → Stt → SR} : (if c then x else y).then k = if c then x.then k else y.then k := by split <;> rfl
@[simp] theorem bind_bind {γ : Type} {x : Res α} {k : α → Stt → Res β} {l : β → Stt → Res γ} : (x.bind k).bind l = x.bind fun a st => (k a st).bind l := by cases x <;> rfl
@[simp] theorem bind_then {x : Res α} {k : α → Stt → Res β} {l : β → Stt → SR} : (x.bind k).then l = x.then fun a st => (k a st).then l := by cases x <;> rfl
@[simp] theorem then_nxt {x : Res α} {k : α → Stt → SR} {l : Env → Stt → SR} : (x.then k).nxt l = x.then fun a st => (k a st).nxt l := by cases x <;> rfl
end
/-! ### ints -/
section
variable {i j : Int} {st : Stt}
@[simp] theorem ltD_i : ltD (.int i) (.int j) st = .ok (.bl (decide (i < j))) st := rfl
@[simp] theorem leD_i : leD (.int i) (.int j) st = .ok (.bl (decide (i ≤ j))) st := rfl
@[simp] theorem gtD_i : gtD (.int i) (.int j) st = .ok (.bl (decide (j < i))) st := rfl
@[simp] theorem geD_i : geD (.int i) (.int j) st = .ok (.bl (decide (j ≤ i))) st := rfl
@[simp] theorem addD_i : addD (.int i) (.int j) st = .ok (.int (i + j)) st := rfl
@[simp] theorem subD_i : subD (.int i) (.int j) st = .ok (.int (i - j)) st := rfl
@[simp] theorem negD_i : negD (.int i) st = .ok (.int (-i)) st := rfl
@[simp] theorem mulD_i (h : MulOk i j) : mulD (.int i) (.int j) st = .ok (.int (i * j)) st := if_pos h
@[simp] theorem divD_i (h : DivOk j) : divD (.int i) (.int j) st = .ok (.int (i / j)) st := if_pos h
@[simp] theorem modD_i (h : 0 < j) : modD (.int i) (.int j) st = .ok (.int (i % j)) st := if_pos h
@[simp] theorem intC_i : intC [.int i] st = .ok (.int i) st := rfl
@[simp] theorem boolC_i : boolC [.int i] st = .ok (.bl (i != 0)) st := rfl
@[simp] theorem boolC_b {k : Bool} : boolC [.bl k] st = .ok (.bl k) st := rfl
@[simp] theorem absC_i : absC [.int i] st = .ok (.int (if i < 0 then -i else i)) st := rfl
@[simp] theorem minC_i : minC [.int i, .int j] st = .ok (.int (if j < i then j else i)) st := rfl
@[simp] theorem maxC_i : maxC [.int i, .int j] st = .ok (.int (if j > i then j else i)) st := rfl
@[simp] theorem eqD_i {neg : Bool} : eqD neg (.int i) (.int j) st = .ok (.bl (if neg then !(i == j) else i == j)) st := rfl
@[simp] theorem eqD_b {neg k l : Bool} : eqD neg (.bl k) (.bl l) st = .ok (.bl (if neg then !(k == l) else k == l)) st := rfl
end
@[simp] theorem sizeLine_eq : sizeLine = 16777216 := rfl
theorem mulOk_small {i j : Int} (h : -(2 ^ 64) < i) (h' : i < 2 ^ 64) : MulOk i j := .inl ⟨h, h'⟩
theorem mulOk_small' {i j : Int} (h : -(2 ^ 64) < j) (h' : j < 2 ^ 64) : MulOk i j := .inr (.inl ⟨h, h'⟩)
theorem divOk_small {j : Int} (h : 0 < j) (h' : j < 2 ^ 64) : DivOk j := ⟨h, by
  have : j.natAbs < 2 ^ 64 := by omega
  have h2 : j.natAbs.log2 < 64 := (Nat.log2_lt (by omega)).mpr this
  omega⟩
/-! ### sequences -/
section
variable {i : Int} {st : Stt} {xs ys : List D} {d : D}
@[simp] theorem len_tup : lenC [.tup xs] st = .ok (.int xs.length) st := rfl
@[simp] theorem len_lst : lenC [.lst xs] st = .ok (.int xs.length) st := rfl
@[simp] theorem len_scr {ns : List Int} : lenC [.scr ns] st = .ok (.int ns.length) st := rfl
theorem addD_tup (h : xs.length + ys.length ≤ 16777216) : addD (.tup xs) (.tup ys) st = .ok (.tup (xs ++ ys)) st := if_pos h
theorem addD_lst (h : xs.length + ys.length ≤ 16777216) : addD (.lst xs) (.lst ys) st = .ok (.lst (xs ++ ys)) st := if_pos h
@[simp] theorem tupC_lst : tupleC [.lst xs] st = .ok (.tup xs) st := rfl
@[simp] theorem tupC_tup : tupleC [.tup xs] st = .ok (.tup xs) st := rfl
@[simp] theorem lstC_tup : listC [.tup xs] st = .ok (.lst xs) st := rfl
@[simp] theorem lstC_lst : listC [.lst xs] st = .ok (.lst xs) st := rfl
theorem ix_tup : ixD (.tup xs) (.int i) st = match atI xs i with
  | some d => .ok d st
  | none => .stuck := rfl
theorem ix_lst : ixD (.lst xs) (.int i) st = match atI xs i with
  | some d => .ok d st
  | none => .stuck := rfl
theorem ix_scr {ns : List Int} : ixD (.scr ns) (.int i) st = match atI ns i with
  | some d => .ok (.int d) st
  | none => .stuck := rfl
theorem atI_lt {α : Type} {xs : List α} {n : Nat} (h : n < xs.length) : atI xs (n : Int) = some xs[n] := L2.atI_nat (by simp [h])
@[simp] theorem atI_0 {α : Type} {x : α} {xs : List α} : atI (x :: xs) 0 = some x := L2.atI_nat (j := 0) rfl
@[simp] theorem atI_1 {α : Type} {x y : α} {xs : List α} : atI (x :: y :: xs) 1 = some y := L2.atI_nat (j := 1) rfl
@[simp] theorem atI_2 {α : Type} {x y z : α} {xs : List α} : atI (x :: y :: z :: xs) 2 = some z := L2.atI_nat (j := 2) rfl
@[simp] theorem atI_3 {α : Type} {x y z u : α} {xs : List α} : atI (x :: y :: z :: u :: xs) 3 = some u := L2.atI_nat (j := 3) rfl
end
/-! ### types -/
def isIntT : D → Bool
  | .int _ => true
  | .bl _ => true
  | _ => false
def isBlT : D → Bool
  | .bl _ => true
  | _ => false
def isStrT : D → Bool
  | .str _ => true
  | _ => false
def isTupT : D → Bool
  | .tup _ => true
  | _ => false
def isLstT : D → Bool
  | .lst _ => true
  | _ => false
/-- values that need no store -/
def Pv : D → Prop
  | .non => True
  | .bl _ => True
  | .int _ => True
  | .str _ => True
  | .tup _ => True
  | .lst _ => True
  | _ => False
section
variable {d : D} {st : Stt}
theorem isi_int (h : Pv d) : isiC [d, .ty "int"] st = .ok (.bl (isIntT d)) st := by cases d <;> first | exact h.elim | rfl
theorem isi_bool (h : Pv d) : isiC [d, .ty "bool"] st = .ok (.bl (isBlT d)) st := by cases d <;> first | exact h.elim | rfl
theorem isi_str (h : Pv d) : isiC [d, .ty "str"] st = .ok (.bl (isStrT d)) st := by cases d <;> first | exact h.elim | rfl
theorem isi_tup (h : Pv d) : isiC [d, .ty "tuple"] st = .ok (.bl (isTupT d)) st := by cases d <;> first | exact h.elim | rfl
theorem isi_lst (h : Pv d) : isiC [d, .ty "list"] st = .ok (.bl (isLstT d)) st := by cases d <;> first | exact h.elim | rfl
end
/-! ### deep values: == reads them -/
mutual
/-- a value of depth at most n, no sequence of it longer than L -/
def Pn (L : Nat) : Nat → D → Prop
  | _, .non => True
  | _, .bl _ => True
  | _, .int _ => True
  | _, .str s => PyData.strOk s = true
  | 0, _ => False
  | n + 1, .tup xs => xs.length ≤ L ∧ Pns L n xs
  | n + 1, .lst xs => xs.length ≤ L ∧ Pns L n xs
  | _, _ => False
def Pns (L : Nat) : Nat → List D → Prop
  | _, [] => True
  | n, x :: xs => Pn L n x ∧ Pns L n xs
end
theorem Pn.pv {L n : Nat} {d : D} (h : Pn L n d) : Pv d := by
  cases d <;> first | trivial | (cases n <;> simp [Pn] at h)
mutual
theorem Pn.py {L : Nat} : ∀ (n : Nat) (d : D), Pn L n d → ∃ e, toPy d = some e ∧ e.canLay0 = true ∧ e.depth ≤ n
  | _, .non, _ => ⟨.none, rfl, rfl, Nat.zero_le _⟩
  | _, .bl _, _ => ⟨_, rfl, rfl, Nat.zero_le _⟩
  | _, .int _, _ => ⟨_, rfl, rfl, Nat.zero_le _⟩
  | n, .str s, h => ⟨.str s, rfl, by have h2 : PyData.strOk s = true := by { cases n <;> simpa [Pn] using h }; simpa [PyData.canLay0] using h2, Nat.zero_le _⟩
  | 0, .tup _, h => by simp [Pn] at h
  | 0, .lst _, h => by simp [Pn] at h
  | n + 1, .tup xs, h => by
    have h' : xs.length ≤ L ∧ Pns L n xs := by simpa [Pn] using h
    obtain ⟨es, h1, h2, h3⟩ := Pns.py n xs h'.2
    exact ⟨.tuple es, by simp [toPy, h1], by simpa [PyData.canLay0] using h2, by simpa [PyData.depth] using h3⟩
  | n + 1, .lst xs, h => by
    have h' : xs.length ≤ L ∧ Pns L n xs := by simpa [Pn] using h
    obtain ⟨es, h1, h2, h3⟩ := Pns.py n xs h'.2
    exact ⟨.list es, by simp [toPy, h1], by simpa [PyData.canLay0] using h2, by simpa [PyData.depth] using h3⟩
  | 0, .ty _, h => by simp [Pn] at h
  | n + 1, .ty _, h => by simp [Pn] at h
  | 0, .dct _, h => by simp [Pn] at h
  | n + 1, .dct _, h => by simp [Pn] at h
  | 0, .loc _, h => by simp [Pn] at h
  | n + 1, .loc _, h => by simp [Pn] at h
  | 0, .scr _, h => by simp [Pn] at h
  | n + 1, .scr _, h => by simp [Pn] at h
  | 0, .fn _, h => by simp [Pn] at h
  | n + 1, .fn _, h => by simp [Pn] at h
theorem Pns.py {L : Nat} : ∀ (n : Nat) (xs : List D), Pns L n xs → ∃ es, toPys xs = some es ∧ PyData.canLayAll0 es = true ∧ PyData.depthAll es ≤ n
  | _, [], _ => ⟨[], rfl, rfl, Nat.zero_le _⟩
  | n, x :: xs, h => by
    have h' : Pn L n x ∧ Pns L n xs := by simpa [Pns] using h
    obtain ⟨e, h1, h2, h3⟩ := Pn.py n x h'.1
    obtain ⟨es, h4, h5, h6⟩ := Pns.py n xs h'.2
    exact ⟨e :: es, by simp [toPys, h1, h4], by simp [PyData.canLayAll0, h2, h5], by simp [PyData.depthAll]; omega⟩
end
theorem Pns.all {L n : Nat} : ∀ {xs : List D}, Pns L n xs ↔ ∀ x ∈ xs, Pn L n x
  | [] => by simp [Pns]
  | x :: xs => by simp [Pns, Pns.all (xs := xs)]
theorem pn_tup {L n : Nat} {xs : List D} : Pn L (n + 1) (.tup xs) ↔ xs.length ≤ L ∧ ∀ x ∈ xs, Pn L n x := by simp [Pn, Pns.all]
theorem pn_lst {L n : Nat} {xs : List D} : Pn L (n + 1) (.lst xs) ↔ xs.length ≤ L ∧ ∀ x ∈ xs, Pn L n x := by simp [Pn, Pns.all]
theorem pn_str {L n : Nat} {s : Str} (h : PyData.strOk s = true) : Pn L n (.str s) := by cases n <;> simpa [Pn] using h
theorem Pn.str {L n : Nat} {s : Str} (h : Pn L n (.str s)) : PyData.strOk s = true := by cases n <;> simpa [Pn] using h
theorem pn_int {L n : Nat} {i : Int} : Pn L n (.int i) := by cases n <;> simp [Pn]
theorem pn_bl {L n : Nat} {i : Bool} : Pn L n (.bl i) := by cases n <;> simp [Pn]
theorem pn_non {L n : Nat} : Pn L n .non := by cases n <;> simp [Pn]
theorem Pn.mono {L L' : Nat} (hL : L ≤ L') : ∀ {n n' : Nat} {d : D}, n ≤ n' → Pn L n d → Pn L' n' d
  | 0, n', d, _, h => by
    cases d with
    | non => exact pn_non
    | bl _ => exact pn_bl
    | int _ => exact pn_int
    | str _ => exact pn_str h.str
    | _ => simp [Pn] at h
  | n + 1, 0, _, hn, _ => by omega
  | n + 1, n' + 1, d, hn, h => by
    cases d with
    | non => exact pn_non
    | bl _ => exact pn_bl
    | int _ => exact pn_int
    | str _ => exact pn_str h.str
    | tup xs =>
      rw [pn_tup] at h ⊢
      exact ⟨Nat.le_trans h.1 hL, fun x hx => (h.2 x hx).mono hL (by omega)⟩
    | lst xs =>
      rw [pn_lst] at h ⊢
      exact ⟨Nat.le_trans h.1 hL, fun x hx => (h.2 x hx).mono hL (by omega)⟩
    | _ => simp [Pn] at h
/-! ### lists built by walking -/
@[simp] theorem iVal_ap {f : DE} {env : Env} {st : Stt} : iVal f env st = (f env st).bind iterD := rfl
@[simp] theorem iterD_tup {xs : List D} {st : Stt} : iterD (.tup xs) st = .ok xs st := rfl
@[simp] theorem iterD_lst {xs : List D} {st : Stt} : iterD (.lst xs) st = .ok xs st := rfl
@[simp] theorem iArg_ap {k : List D → Stt → Res (List D)} {f : DA} {env : Env} {st : Stt} : iArg k f env st = (f env st).bind k := rfl
theorem rng1_ap {i : Int} {st : Stt} (h : -(2 ^ 62) ≤ i ∧ i < 2 ^ 62) : rng1D [.int i] st = .ok (rngL 0 i.toNat) st := if_pos h
theorem rng2_ap {i j : Int} {st : Stt} (h : -(2 ^ 62) ≤ i ∧ i < 2 ^ 62 ∧ -(2 ^ 62) ≤ j ∧ j < 2 ^ 62) : rng2D [.int i, .int j] st = .ok (rngL i (j - i).toNat) st := if_pos h
theorem lc_pure {i : Nat} {tt : DT} {el : DE} {env : Env} {st : Stt} {p : D → Bool} {g : D → D} : ∀ {xs acc : List D}, (∀ x ∈ xs, tt (env.set i (some x)) st = .ok (p x) st ∧ (p x = true → el (env.set i (some x)) st = .ok (g x) st)) → acc.length + xs.length ≤ sizeLine → lcD (.nm i) tt el env xs st acc = .ok (.lst (acc ++ (xs.filter p).map g)) st
  | [], acc, _, _ => by simp [lcD]
  | x :: xs, acc, h, hl => by
    obtain ⟨h1, h2⟩ := h x (by simp)
    simp only [lcD, Tg.set, h1]
    cases q : p x with
    | false =>
      simp only [q]
      rw [lc_pure (fun y hy => h y (List.mem_cons_of_mem _ hy)) (by simp at hl ⊢; omega)]
      simp [q]
    | true =>
      simp only [q]
      rw [h2 q]
      simp only
      rw [if_pos (by simp at hl ⊢; omega), lc_pure (fun y hy => h y (List.mem_cons_of_mem _ hy)) (by simp at hl ⊢; omega)]
      simp [q]
theorem eLc_ap {it : DI} {t : Tg} {tt : DT} {el : DE} {vs : List Nat} {env : Env} {st st1 : Stt} {xs : List D} (h : it env st = .ok xs st1) : eLc it t tt el vs env st = lcD t tt el (wipeE env vs) xs st1 [] := by
  unfold eLc; rw [h]
theorem eLc_ap0 {it : DI} {t : Tg} {tt : DT} {el : DE} {vs : List Nat} {env : Env} {st : Stt} {xs : List D} (h : it env st = .ok xs st) : eLc it t tt el vs env st = lcD t tt el (wipeE env vs) xs st [] := eLc_ap h
theorem all_map {st : Stt} {q : D → Bool} {xs : List D} : allC [.lst (xs.map fun x => .bl (q x))] st = .ok (.bl (xs.all q)) st := by
  have e : ∀ xs : List D, blsOf (xs.map fun x => D.bl (q x)) = some (xs.map q) := by
    intro xs
    induction xs with
    | nil => rfl
    | cons x xs ih => simp [blsOf, ih]
  show (match view st (.lst (xs.map fun x => .bl (q x))) with
    | .lst xs => match blsOf xs with
      | some ns => Res.ok (D.bl (ns.all id)) st
      | _ => .stuck
    | _ => .stuck) = _
  simp [view, e]
theorem any_map {st : Stt} {q : D → Bool} {xs : List D} : anyC [.lst (xs.map fun x => .bl (q x))] st = .ok (.bl (xs.any q)) st := by
  have e : ∀ xs : List D, blsOf (xs.map fun x => D.bl (q x)) = some (xs.map q) := by
    intro xs
    induction xs with
    | nil => rfl
    | cons x xs ih => simp [blsOf, ih]
  show (match view st (.lst (xs.map fun x => .bl (q x))) with
    | .lst xs => match blsOf xs with
      | some ns => Res.ok (D.bl (ns.any id)) st
      | _ => .stuck
    | _ => .stuck) = _
  simp [view, e]
/-! ### membership and equality of strs -/
theorem toPys_strs : ∀ (ws : List Str), toPys (ws.map D.str) = some (ws.map PyData.str)
  | [] => rfl
  | w :: ws => by simp [toPys, toPy, toPys_strs ws]
theorem strs_shaped {ws : List Str} (h : ws.all PyData.strOk = true) : SeqAt.shaped (.tuple (ws.map PyData.str)) = true ∧ SeqAt.shaped (.list (ws.map PyData.str)) = true := by
  have h1 : ∀ ws : List Str, ws.all PyData.strOk = true → PyData.canLayAll0 (ws.map PyData.str) = true := by
    intro ws
    induction ws with
    | nil => intro _; rfl
    | cons w ws ih => intro h; simp at h; simp [PyData.canLayAll0, PyData.canLay0, h.1]; exact ih (by simpa using h.2)
  have h2 : ∀ ws : List Str, PyData.depthAll (ws.map PyData.str) = 0 := by
    intro ws
    induction ws with
    | nil => rfl
    | cons w ws ih => simp [PyData.depthAll, PyData.depth, ih]
  constructor
  · simp [SeqAt.shaped, PyData.canLay0, h1 ws h, PyData.depth, h2]
  · simp [SeqAt.shaped, PyData.canLay0, h1 ws h, PyData.depth, h2]
theorem str_shaped {s : Str} (h : PyData.strOk s = true) : SeqAt.shaped (.str s) = true := by simp [SeqAt.shaped, PyData.canLay0, h, PyData.depth]
theorem any_strs (s : Str) : ∀ ws : List Str, ((ws.map PyData.str).any fun z => PyData.eqv z (.str s)) = ws.any (· == s)
  | [] => rfl
  | w :: ws => by simp [any_strs s ws, PyData.eqv]
theorem in_strs {neg : Bool} {s : Str} {ws : List Str} {st : Stt} (h : PyData.strOk s = true) (hw : ws.all PyData.strOk = true) : inD neg (.str s) (.tup (ws.map D.str)) st = .ok (.bl (if neg then !ws.any (· == s) else ws.any (· == s))) st := by
  simp only [inD, view, toPyV, toPy, toPys_strs, any_strs]
  rw [if_pos ⟨str_shaped h, (strs_shaped hw).1⟩]
theorem eq_str {neg : Bool} {s t : Str} {st : Stt} (h : PyData.strOk s = true) (ht : PyData.strOk t = true) : eqD neg (.str s) (.str t) st = .ok (.bl (if neg then !(s == t) else s == t)) st := by
  simp only [eqD, toPyV, toPy]
  rw [if_pos ⟨str_shaped h, str_shaped ht⟩]
  simp [PyData.eqv]
theorem eq_pn {neg : Bool} {L L' n m : Nat} {d e : D} {st : Stt} (hd : Pn L n d) (he : Pn L' m e) (hn : n ≤ 64) (hm : m ≤ 64) : ∃ x y, toPy d = some x ∧ toPy e = some y ∧ eqD neg d e st = .ok (.bl (if neg then !PyData.eqv x y else PyData.eqv x y)) st := by
  obtain ⟨x, h1, h2, h3⟩ := Pn.py n d hd
  obtain ⟨y, h4, h5, h6⟩ := Pn.py m e he
  refine ⟨x, y, h1, h4, ?_⟩
  have e1 : toPyV st d = some x := by rw [← h1]; cases d <;> first | rfl | (simp [toPy] at h1)
  have e2 : toPyV st e = some y := by rw [← h4]; cases e <;> first | rfl | (simp [toPy] at h4)
  simp only [eqD, e1, e2]
  rw [if_pos ⟨by simp [SeqAt.shaped, h2]; omega, by simp [SeqAt.shaped, h5]; omega⟩]
theorem in_pn {neg : Bool} {L L' n m : Nat} {d : D} {ys : List D} {st : Stt} (hd : Pn L n d) (he : Pn L' m (.tup ys)) (hn : n ≤ 64) (hm : m ≤ 64) : ∃ x es, toPy d = some x ∧ toPys ys = some es ∧ inD neg d (.tup ys) st = .ok (.bl (if neg then !es.any (fun z => PyData.eqv z x) else es.any fun z => PyData.eqv z x)) st := by
  obtain ⟨x, h1, h2, h3⟩ := Pn.py n d hd
  obtain ⟨y, h4, h5, h6⟩ := Pn.py m (.tup ys) he
  obtain ⟨es, h7, rfl⟩ : ∃ es, toPys ys = some es ∧ PyData.tuple es = y := by
    simp [toPy] at h4
    exact h4
  refine ⟨x, es, h1, h7, ?_⟩
  have e1 : toPyV st d = some x := by rw [← h1]; cases d <;> first | rfl | (simp [toPy] at h1)
  have e2 : inD neg d (.tup ys) st = (match toPyV st d, toPys ys with
      | some d, some ds => if SeqAt.shaped d = true ∧ SeqAt.shaped (.tuple ds) = true then .ok (.bl (if neg then !ds.any (fun z => PyData.eqv z d) else ds.any fun z => PyData.eqv z d)) st else .stuck
      | _, _ => .stuck) := by cases d <;> rfl
  rw [e2, e1, h7]
  dsimp only
  rw [if_pos ⟨by simp [SeqAt.shaped, h2]; omega, by simp [SeqAt.shaped, h5]; omega⟩]
theorem toPys_nil {xs : List D} {es : List PyData} (h : toPys xs = some es) : es.isEmpty = xs.isEmpty := by
  cases xs with
  | nil => cases h; rfl
  | cons x xs =>
    simp only [toPys] at h
    split at h
    · cases h; rfl
    · cases h
theorem eqvAll_nil (es : List PyData) : PyData.eqvAll es [] = es.isEmpty := by cases es <;> simp [PyData.eqvAll]
theorem eqvAll_nil' (es : List PyData) : PyData.eqvAll [] es = es.isEmpty := by cases es <;> simp [PyData.eqvAll]
theorem eq_tup_nil {neg : Bool} {L n : Nat} {xs : List D} {st : Stt} (hd : Pn L n (.tup xs)) (hn : n ≤ 64) : eqD neg (.tup xs) (.tup []) st = .ok (.bl (if neg then !xs.isEmpty else xs.isEmpty)) st := by
  obtain ⟨x, y, h1, h2, h3⟩ := eq_pn (neg := neg) (st := st) hd (show Pn L 1 (.tup []) from pn_tup.mpr ⟨Nat.zero_le _, fun _ h => nomatch h⟩) hn (by omega)
  rw [h3]
  obtain ⟨es, h4, rfl⟩ : ∃ es, toPys xs = some es ∧ PyData.tuple es = x := by simpa [toPy] using h1
  cases h2
  simp [PyData.eqv, eqvAll_nil, toPys_nil h4]
theorem eq_lst_nil {neg : Bool} {L n : Nat} {xs : List D} {st : Stt} (hd : Pn L n (.lst xs)) (hn : n ≤ 64) : eqD neg (.lst xs) (.lst []) st = .ok (.bl (if neg then !xs.isEmpty else xs.isEmpty)) st := by
  obtain ⟨x, y, h1, h2, h3⟩ := eq_pn (neg := neg) (st := st) hd (show Pn L 1 (.lst []) from pn_lst.mpr ⟨Nat.zero_le _, fun _ h => nomatch h⟩) hn (by omega)
  rw [h3]
  obtain ⟨es, h4, rfl⟩ : ∃ es, toPys xs = some es ∧ PyData.list es = x := by simpa [toPy] using h1
  cases h2
  simp [PyData.eqv, eqvAll_nil, toPys_nil h4]
/-! ### loops by an invariant -/
theorem for_idx {t : Tg} {b : DS} {I : Nat → Env → Stt → Prop} : ∀ {xs : List D} {m : Nat} {env : Env} {st : Stt}, (∀ (k : Nat) (x : D) (env : Env) (st : Stt), xs[k]? = some x → I (m + k) env st → ∃ env1 env' st', t.set x env = some env1 ∧ (b env1 st = .nx env' st' ∨ b env1 st = .ct env' st') ∧ I (m + k + 1) env' st') → I m env st → ∃ env' st', forD t b xs env st = .nx env' st' ∧ I (m + xs.length) env' st'
  | [], m, env, st, _, h => ⟨env, st, rfl, h⟩
  | x :: xs, m, env, st, hs, h => by
    obtain ⟨env1, env2, st2, h1, h2, h3⟩ := hs 0 x env st rfl h
    obtain ⟨env', st', h4, h5⟩ := for_idx (t := t) (b := b) (I := I) (xs := xs) (m := m + 1) (env := env2) (st := st2) (fun k y env st hk hI => by
      have := hs (k + 1) y env st (by simpa using hk) (by rw [show m + (k + 1) = m + 1 + k by omega]; exact hI)
      rw [show m + (k + 1) + 1 = m + 1 + k + 1 by omega] at this
      exact this) h3
    refine ⟨env', st', ?_, by rw [show m + (x :: xs).length = m + 1 + xs.length by simp; omega]; exact h5⟩
    rcases h2 with h2 | h2 <;> simp only [forD, h1, h2, h4]
theorem sFor_ok {it : DI} {t : Tg} {b : DS} {env : Env} {st st1 : Stt} {xs : List D} (h : it env st = .ok xs st1) : sFor it t b env st = forD t b xs env st1 := by unfold sFor; rw [h]
theorem rngL_get {lo : Int} {n k : Nat} {x : D} (h : (rngL lo n)[k]? = some x) : k < n ∧ x = .int (lo + (k : Nat)) := by
  unfold rngL at h
  rw [List.getElem?_map] at h
  cases q : (List.range n)[k]? with
  | none => rw [q] at h; cases h
  | some j =>
    rw [q] at h
    obtain ⟨h1, h2⟩ := List.getElem?_eq_some_iff.mp q
    simp at h1 h2
    subst h2
    exact ⟨h1, (Option.some.inj h).symm⟩
theorem rngL_length {lo : Int} {n : Nat} : (rngL lo n).length = n := by simp [rngL]
theorem lc_gen {i : Nat} {el : DE} {env : Env} {I : Stt → Prop} {P : D → Prop} : ∀ {xs acc : List D} {st : Stt}, (∀ x ∈ xs, ∀ st, I st → ∃ d st', el (env.set i (some x)) st = .ok d st' ∧ I st' ∧ P d) → acc.length + xs.length ≤ sizeLine → I st → ∃ ds st', lcD (.nm i) tTrue el env xs st acc = .ok (.lst (acc ++ ds)) st' ∧ ds.length = xs.length ∧ I st' ∧ ∀ d ∈ ds, P d
  | [], acc, st, _, _, h => ⟨[], st, by simp [lcD], rfl, h, fun _ h => nomatch h⟩
  | x :: xs, acc, st, hs, hl, h => by
    obtain ⟨d, st1, h1, h2, h3⟩ := hs x (by simp) st h
    obtain ⟨ds, st2, h4, h5, h6, h7⟩ := lc_gen (i := i) (el := el) (env := env) (I := I) (P := P) (xs := xs) (acc := acc ++ [d]) (st := st1) (fun y hy => hs y (List.mem_cons_of_mem _ hy)) (by simp at hl ⊢; omega) h2
    refine ⟨d :: ds, st2, ?_, by simp [h5], h6, fun e he => ?_⟩
    · simp only [lcD, Tg.set, tTrue, h1]
      rw [if_pos (by simp at hl ⊢; omega), h4]
      simp
    · rcases List.mem_cons.mp he with rfl | he
      · exact h3
      · exact h7 e he
/-! ### slices -/
theorem slice_tup {xs : List D} {lo hi : Option Int} {st : Stt} : sliceD (.tup xs) lo hi st = .ok (.tup (cut xs lo hi)) st := rfl
theorem slice_lst {xs : List D} {lo hi : Option Int} {st : Stt} : sliceD (.lst xs) lo hi st = .ok (.lst (cut xs lo hi)) st := rfl
theorem cut_to {α : Type} {xs : List α} {n : Nat} (h : n ≤ xs.length) : cut xs none (some (n : Int)) = xs.take n := by
  unfold cut
  rw [HT.sIx_nat, HT.sIx_none, Nat.min_eq_left h]
  simp
theorem cut_from {α : Type} {xs : List α} {n : Nat} (h : n ≤ xs.length) : cut xs (some (n : Int)) none = xs.drop n := by
  unfold cut
  rw [HT.sIx_nat, HT.sIx_none, Nat.min_eq_left h]
  rw [List.take_of_length_le (by simp)]
end DL
set_option maxHeartbeats 4000000
/-! the parts that all laws share: the source of draws, plans and deeds -/
namespace DL
open PySem PySem.Spec PyProof.Rows L2
/-! ### the source -/
def SrcO (ob : Ob) : Prop := ∃ a b : Int, ob = .lst [.int a, .int b] ∧ 0 ≤ a ∧ 0 ≤ b ∧ b < 2147483647
/-- one more draw from the source at p, nothing else touched -/
structure Drew (p : Nat) (st st' : Stt) : Prop where
  src : ∃ ob, st'[p]? = some ob ∧ SrcO ob
  len : st'.length = st.length
  oth : ∀ j, j ≠ p → st'[j]? = st[j]?
abbrev HasSrc (p : Nat) (st : Stt) : Prop := ∃ ob, st[p]? = some ob ∧ SrcO ob
theorem Drew.refl {p : Nat} {st : Stt} (h : HasSrc p st) : Drew p st st := ⟨h, rfl, fun _ _ => rfl⟩
theorem Drew.trans {p : Nat} {st st1 st2 : Stt} (h : Drew p st st1) (h' : Drew p st1 st2) : Drew p st st2 := ⟨h'.src, h'.len.trans h.len, fun j hj => (h'.oth j hj).trans (h.oth j hj)⟩
theorem drew_set {p : Nat} {st : Stt} {ob ob' : Ob} (h : st[p]? = some ob) (h' : SrcO ob') : Drew p st (st.set p ob') := by
  have hp : p < st.length := by
    by_cases q : p < st.length
    · exact q
    · rw [List.getElem?_eq_none (by omega)] at h; cases h
  exact ⟨⟨ob', by simp [hp], h'⟩, by simp, fun j hj => by rw [List.getElem?_set_ne (by omega)]⟩
@[simp] theorem ix_loc0 {p : Nat} {st : Stt} {a b : D} (h : st[p]? = some (.lst [a, b])) : ixD (.loc p) (.int 0) st = .ok a st := by
  show (match view st (.loc p), (D.int 0) with
    | .tup xs, .int i => _
    | .lst xs, .int i => _
    | .scr ns, .int i => _
    | .dct kvs, y => _
    | _, _ => _) = _
  simp [view, h]
@[simp] theorem ix_loc1 {p : Nat} {st : Stt} {a b : D} (h : st[p]? = some (.lst [a, b])) : ixD (.loc p) (.int 1) st = .ok b st := by
  show (match view st (.loc p), (D.int 1) with
    | .tup xs, .int i => _
    | .lst xs, .int i => _
    | .scr ns, .int i => _
    | .dct kvs, y => _
    | _, _ => _) = _
  simp [view, h]
theorem set_loc0 {p : Nat} {st : Stt} {a b v : D} (h : st[p]? = some (.lst [a, b])) : setD (.loc p) (.int 0) v st = some (st.set p (.lst [v, b])) := by
  simp [setD, h, ixN]
theorem set_loc1 {p : Nat} {st : Stt} {a b v : D} (h : st[p]? = some (.lst [a, b])) : setD (.loc p) (.int 1) v st = some (st.set p (.lst [a, v])) := by
  simp [setD, h, ixN]
theorem draw_ok {p : Nat} {st : Stt} {m : Int} (h : HasSrc p st) (h0 : 0 < m) (h1 : m < 2 ^ 64) : ∃ (r : Int) (st' : Stt), f_law_draw [.loc p, .int m] st = .ok (.int r) st' ∧ 0 ≤ r ∧ r < m ∧ Drew p st st' := by
  obtain ⟨ob, hp, a, b, rfl, ha, hb, hb'⟩ := h
  have hl : p < st.length := by
    by_cases q : p < st.length
    · exact q
    · rw [List.getElem?_eq_none (by omega)] at hp; cases hp
  by_cases q : 0 < a
  · refine ⟨a % m, st.set p (.lst [.int (a / m), .int b]), ?_, Int.emod_nonneg _ (by omega), Int.emod_lt_of_pos _ h0, drew_set hp ⟨_, _, rfl, Int.ediv_nonneg ha (by omega), hb, hb'⟩⟩
    simp [f_law_draw, b_law_draw, fn0_ap, ix_loc0 hp, q, modD_i h0, sPut_ap, divD_i (divOk_small h0 h1), set_loc0 hp]
  · have e : a = 0 := by omega
    subst e
    have hb2 : 0 ≤ b * 48271 % 2147483647 := Int.emod_nonneg _ (by omega)
    have hb3 : b * 48271 % 2147483647 < 2147483647 := Int.emod_lt_of_pos _ (by omega)
    generalize hc : b * 48271 % 2147483647 = c at hb2 hb3
    have hp2 : (st.set p (.lst [.int 0, .int c]))[p]? = some (.lst [.int 0, .int c]) := by simp [hl]
    refine ⟨c * c % 2147483629 / 64 % m, st.set p (.lst [.int 0, .int c]), ?_, Int.emod_nonneg _ (by omega), Int.emod_lt_of_pos _ h0, drew_set hp ⟨_, _, rfl, by omega, hb2, hb3⟩⟩
    simp [f_law_draw, b_law_draw, fn0_ap, ix_loc0 hp, ix_loc1 hp, modD_i h0, sPut_ap, set_loc1 hp, mulD_i (mulOk_small' (i := b) (j := 48271) (by omega) (by omega)), modD_i (j := 2147483647) (by omega), hc, ix_loc1 hp2, mulD_i (mulOk_small (i := c) (j := c) (by omega) (by omega)), modD_i (j := 2147483629) (by omega), divD_i (divOk_small (j := 64) (by omega) (by omega))]
theorem of_ok {p : Nat} {st : Stt} {xs : List D} (h : HasSrc p st) (h0 : 0 < xs.length) (h1 : xs.length < 2 ^ 60) (i : D) (hi : i = .tup xs ∨ i = .lst xs) : ∃ d st', f_law_of [.loc p, i] st = .ok d st' ∧ d ∈ xs ∧ Drew p st st' := by
  obtain ⟨r, st', e, r0, r1, dr⟩ := draw_ok (m := xs.length) h (by omega) (by omega)
  have hr : r.toNat < xs.length := by omega
  have hr2 : ((r.toNat : Nat) : Int) = r := by omega
  refine ⟨xs[r.toNat], st', ?_, List.getElem_mem hr, dr⟩
  have ha := atI_lt hr
  rw [hr2] at ha
  rcases hi with rfl | rfl
  · simp [f_law_of, b_law_of, fn0_ap, e, ix_tup, ha]
  · simp [f_law_of, b_law_of, fn0_ap, e, ix_lst, ha]
theorem src_ok {ns : List Int} {k : Nat} {st : Stt} : ∃ ob, f_law_source [.scr ns, .int k] st = .ok (.loc st.length) (st ++ [ob]) ∧ SrcO ob := by
  have key : ∀ c : Int, 0 ≤ c → ∃ ob, (∀ e : Env, noX (endR (((sSeq (sIf (tV (e2 (ltD) (eV 2) (e2 powD (eC (.int 10)) (eC (.int 18))))) (sRet (eLstM (aCons (eC (.int 0)) (aCons (e2 addD (eC (.int 1)) (e2 modD (eC2 intC (aCons (e2 addD (e2 mulD (eV 2) (eC (.int 7919))) (e2 mulD (eC (.int 104729)) (eV 1))) (aNil))) (eC (.int 2147483646)))) (aNil))))) (sNil))
    (sRet (eLstM (aCons (eV 2) (aCons (e2 addD (eC (.int 1)) (e2 modD (eC2 intC (aCons (e2 addD (eV 2) (eV 1)) (aNil))) (eC (.int 2147483646)))) (aNil)))))) [some (.scr ns), some (.int k), some (.int c)] st))) = .ok (.loc st.length) (st ++ [ob])) ∧ SrcO ob := by
    intro c hc
    have hpow : powD (.int 10) (.int 18) st = .ok (.int 1000000000000000000) st := by
      show (if PowOk 10 18 then Res.ok (D.int (10 ^ (18 : Int).toNat)) st else .stuck) = _
      rw [if_pos (by decide)]; rfl
    by_cases q : c < 1000000000000000000
    · have hm := Int.emod_nonneg (c * 7919 + 104729 * k) (b := 2147483646) (by omega)
      have hm2 := Int.emod_lt_of_pos (c * 7919 + 104729 * k) (b := 2147483646) (by omega)
      refine ⟨_, fun e => ?_, 0, 1 + (c * 7919 + 104729 * k) % 2147483646, rfl, by omega, by omega, by omega⟩
      simp [hpow, q, mulD_i (mulOk_small' (i := c) (j := 7919) (by omega) (by omega)), mulD_i (mulOk_small (i := 104729) (j := (k : Int)) (by omega) (by omega)), modD_i (j := 2147483646) (by omega), lstM, sizeLine]
    · have hm := Int.emod_nonneg (c + k) (b := 2147483646) (by omega)
      have hm2 := Int.emod_lt_of_pos (c + k) (b := 2147483646) (by omega)
      refine ⟨_, fun e => ?_, c, 1 + (c + k) % 2147483646, rfl, by omega, by omega, by omega⟩
      simp [hpow, q, modD_i (j := 2147483646) (by omega), lstM, sizeLine]
  by_cases q : k < ns.length
  · obtain ⟨ob, h1, h2⟩ := key (if ns[k] < 0 then -ns[k] else ns[k]) (by split <;> omega)
    refine ⟨ob, ?_, h2⟩
    rw [← h1 []]
    have ha := atI_lt q
    simp [f_law_source, b_law_source, fn0_ap, ix_scr, ha, q]
  · obtain ⟨ob, h1, h2⟩ := key 0 (by omega)
    refine ⟨ob, ?_, h2⟩
    rw [← h1 []]
    simp [f_law_source, b_law_source, fn0_ap, q]
/-! ### deeds and plans drawn -/
def isI (a b : Int) : D → Bool
  | .int i => decide (a ≤ i) && decide (i ≤ b)
  | _ => false
def turnB : List D → Bool
  | [_, a, b] => isI 0 4 a && isI (-5) 20 b && (match a, b with
    | .int i, .int j => decide (0 < i) || decide (0 < j)
    | _, _ => false)
  | _ => false
def onB (g : Int) : List D → Bool
  | [_, a] => isI 0 (g - 1) a
  | _ => false
/-- a deed for a plan of g groups -/
def deedB (g : Int) : D → Bool
  | .tup (.str w :: r) => if w = ("turn" : Str) then turnB (.str w :: r) else if w = ("on" : Str) ∨ w = ("fetch" : Str) then onB g (.str w :: r) else decide (r = []) && (w == ("off" : Str) || w == ("free" : Str))
  | _ => false
def wtsB (xs : List D) : Bool := decide (1 ≤ (xs.length : Int)) && decide ((xs.length : Int) ≤ 4) && xs.all (isI 1 9)
def planB : D → Bool
  | .tup [.tup ws, .tup ds] => wtsB ws && decide ((ds.length : Int) ≤ 8) && ds.all (deedB ws.length)
  | _ => false
theorem ok_turn : PyData.strOk ("turn" : Str) = true := by decide +kernel
theorem ok_on : PyData.strOk ("on" : Str) = true := by decide +kernel
theorem ok_off : PyData.strOk ("off" : Str) = true := by decide +kernel
theorem ok_fetch : PyData.strOk ("fetch" : Str) = true := by decide +kernel
theorem ok_free : PyData.strOk ("free" : Str) = true := by decide +kernel
theorem ne_ws : ("on" : Str) ≠ "turn" ∧ ("off" : Str) ≠ "turn" ∧ ("fetch" : Str) ≠ "turn" ∧ ("free" : Str) ≠ "turn" ∧ ("off" : Str) ≠ "on" ∧ ("off" : Str) ≠ "fetch" ∧ ("free" : Str) ≠ "on" ∧ ("free" : Str) ≠ "fetch" ∧ ("fetch" : Str) ≠ "on" ∧ ("off" : Str) ≠ "free" := by decide +kernel
theorem deed_gen {p : Nat} {st : Stt} {g : Int} (h : HasSrc p st) (h0 : 0 < g) (h1 : g < 2 ^ 60) : ∃ d st', f_law_deed [.loc p, .int g] st = .ok d st' ∧ Drew p st st' ∧ deedB g d = true ∧ Pn 3 1 d := by
  obtain ⟨n1, n2, n3, n4, n5, n6, n7, n8, n9, n10⟩ := ne_ws
  obtain ⟨d, s1, e1, hd, r1⟩ := of_ok (xs := [.str "turn", .str "turn", .str "turn", .str "on", .str "on", .str "off", .str "fetch", .str "free"]) h (by simp) (by simp) _ (.inr rfl)
  have hw : d = .str "turn" ∨ (d = .str "on" ∨ d = .str "fetch") ∨ (d = .str "off" ∨ d = .str "free") := by
    simp at hd
    rcases hd with q | q | q | q | q <;> simp [q]
  rcases hw with rfl | hw | hw
  · have eq1 : ∀ st, eqD false (.str "turn") (.str "turn") st = .ok (.bl true) st := fun st => by rw [eq_str ok_turn ok_turn]; simp
    obtain ⟨a, s2, e2, ha, r2⟩ := of_ok (xs := [.int 0, .int 0, .int 1, .int 1, .int 2, .int 3, .int 4]) r1.src (by simp) (by simp) _ (.inr rfl)
    obtain ⟨a, rfl, a0, a4⟩ : ∃ i : Int, a = .int i ∧ 0 ≤ i ∧ i ≤ 4 := by
      simp at ha
      rcases ha with q | q | q | q | q <;> exact ⟨_, q, by omega, by omega⟩
    obtain ⟨b, s3, e3, b0, b1, r3⟩ := draw_ok (m := 26) r2.src (by omega) (by omega)
    have hp : ∀ x y : Int, Pn 3 1 (.tup [.str "turn", .int x, .int y]) := fun x y => by simp [pn_tup, pn_str ok_turn, pn_int]
    by_cases q1 : a = 0 ∧ b - 5 < 1
    · obtain ⟨q0, q1⟩ := q1
      subst q0
      obtain ⟨c, s4, e4, c0, c1, r4⟩ := draw_ok (m := 3) r3.src (by omega) (by omega)
      refine ⟨.tup [.str "turn", .int 0, .int (1 + c)], s4, ?_, ((r1.trans r2).trans r3).trans r4, ?_, hp _ _⟩
      · simp [f_law_deed, b_law_deed, fn0_ap, e1, eq1, e2, e3, q1, e4]
      · simp [deedB, turnB, isI]; omega
    · refine ⟨.tup [.str "turn", .int a, .int (b - 5)], s3, ?_, (r1.trans r2).trans r3, ?_, hp _ _⟩
      · by_cases q0 : a = 0
        · subst q0
          have q2 : ¬ b - 5 < 1 := fun z => q1 ⟨rfl, z⟩
          simp [f_law_deed, b_law_deed, fn0_ap, e1, eq1, e2, e3, q2]
        · simp [f_law_deed, b_law_deed, fn0_ap, e1, eq1, e2, e3, q0]
      · simp [deedB, turnB, isI]; omega
  · obtain ⟨c, s4, e4, c0, c1, r4⟩ := draw_ok (m := g) r1.src (by omega) (by omega)
    obtain ⟨w, rfl, hw, ho, hn⟩ : ∃ w, d = .str w ∧ (w = ("on" : Str) ∨ w = ("fetch" : Str)) ∧ PyData.strOk w = true ∧ w ≠ ("turn" : Str) := by
      rcases hw with rfl | rfl
      · exact ⟨_, rfl, .inl rfl, ok_on, n1⟩
      · exact ⟨_, rfl, .inr rfl, ok_fetch, n3⟩
    have eq1 : ∀ st, eqD false (.str w) (.str "turn") st = .ok (.bl false) st := fun st => by rw [eq_str ho ok_turn]; simp [hn]
    have in1 : ∀ st, inD false (.str w) (.tup [.str "on", .str "fetch"]) st = .ok (.bl true) st := fun st => by
      have := in_strs (neg := false) (st := st) (ws := ["on", "fetch"]) ho (by simp [ok_on, ok_fetch])
      simp only [List.map_cons, List.map_nil] at this
      rw [this]
      rcases hw with rfl | rfl <;> simp
    refine ⟨.tup [.str w, .int c], s4, ?_, r1.trans r4, ?_, by simp [pn_tup, pn_str ho, pn_int]⟩
    · simp [f_law_deed, b_law_deed, fn0_ap, e1, eq1, in1, e4]
    · simp [deedB, hn, hw, onB, isI]; omega
  · obtain ⟨w, rfl, hw, ho, hn, h2, h3⟩ : ∃ w, d = .str w ∧ (w = ("off" : Str) ∨ w = ("free" : Str)) ∧ PyData.strOk w = true ∧ w ≠ ("turn" : Str) ∧ w ≠ ("on" : Str) ∧ w ≠ ("fetch" : Str) := by
      rcases hw with rfl | rfl
      · exact ⟨_, rfl, .inl rfl, ok_off, n2, n5, n6⟩
      · exact ⟨_, rfl, .inr rfl, ok_free, n4, n7, n8⟩
    have eq1 : ∀ st, eqD false (.str w) (.str "turn") st = .ok (.bl false) st := fun st => by rw [eq_str ho ok_turn]; simp [hn]
    have in1 : ∀ st, inD false (.str w) (.tup [.str "on", .str "fetch"]) st = .ok (.bl false) st := fun st => by
      have := in_strs (neg := false) (st := st) (ws := ["on", "fetch"]) ho (by simp [ok_on, ok_fetch])
      simp only [List.map_cons, List.map_nil] at this
      rw [this]
      simp [Ne.symm h2, Ne.symm h3]
    refine ⟨.tup [.str w], s1, ?_, r1, ?_, by simp [pn_tup, pn_str ho]⟩
    · simp [f_law_deed, b_law_deed, fn0_ap, e1, eq1, in1]
    · simp [deedB, hn, h2, h3]
      rcases hw with rfl | rfl <;> simp
theorem plan_gen {p : Nat} {st : Stt} {m : Nat} (h : HasSrc p st) (h1 : m < 1000) : ∃ ws ds st', f_law_plan [.loc p, .int m] st = .ok (.tup [.tup ws, .tup ds]) st' ∧ Drew p st st' ∧ wtsB ws = true ∧ ds.length ≤ m ∧ ds.all (deedB ws.length) = true ∧ (∀ w ∈ ws, ∃ i : Int, w = .int i) ∧ ∀ d ∈ ds, Pn 3 1 d := by
  obtain ⟨c, s1, e1, c0, c1, r1⟩ := draw_ok (m := 4) h (by omega) (by omega)
  obtain ⟨ws, s2, e2, l2, r2, hws⟩ := lc_gen (i := 6) (el := e2 addD (eC (.int 1)) (eC2 f_law_draw (aCons (eV 0) (aCons (eC (.int 9)) (aNil))))) (env := [some (.loc p), some (.int m), none, none, none, none, none]) (I := Drew p st) (P := fun d => ∃ i : Int, d = .int i ∧ 1 ≤ i ∧ i ≤ 9) (xs := rngL 0 (1 + c).toNat) (acc := []) (st := s1)
    (fun x _ st1 hI => by
      obtain ⟨q, s3, e3, q0, q1, r3⟩ := draw_ok (m := 9) hI.src (by omega) (by omega)
      exact ⟨.int (1 + q), s3, by simp [e3], hI.trans r3, 1 + q, rfl, by omega, by omega⟩) (by rw [rngL_length]; simp; omega) r1
  have hb : ∀ w ∈ ws, isI 1 9 w = true := fun w hw => by
    obtain ⟨i, rfl, h1, h2⟩ := hws w hw
    simp [isI, h1, h2]
  rw [rngL_length] at l2
  have hw : wtsB ws = true := by
    have : ws.all (isI 1 9) = true := List.all_eq_true.mpr hb
    unfold wtsB
    rw [this]; simp; omega
  simp only [List.nil_append] at e2
  obtain ⟨k, s3, e3, k0, k1, r3⟩ := draw_ok (m := m + 1) r2.src (by omega) (by omega)
  have rk : rng1D [.int k] s3 = .ok (rngL 0 k.toNat) s3 := rng1_ap (by omega)
  have rc : rng1D [.int (1 + c)] s1 = .ok (rngL 0 (1 + c).toNat) s1 := rng1_ap (by omega)
  have hg : (0 : Int) < ws.length ∧ (ws.length : Int) < 2 ^ 60 := by omega
  let body : DS := (sSeq (sAsg (.nm 5) (eC2 f_law_deed (aCons (eV 0) (aCons (eC2 lenC (aCons (eV 2) (aNil))) (aNil)))))
    (sSeq (sIf (tyAnd (tV (DL.e2 (eqD false) (eV 4) (eC (.int 0)))) (tV (DL.e2 (gtD) (eC2 f_law_draw (aCons (eV 0) (aCons (eC (.int 3)) (aNil)))) (eC (.int 0))))) (sAsg (.nm 5) (eTup (aCons (eC (.str "on")) (aCons (eC (.int 0)) (aNil))))) (sNil))
    (sAsg (.nm 3) (DL.e2 addD (eV 3) (eTup (aCons (eV 5) (aNil)))))))
  obtain ⟨env4, s4, e4, ds, a4, a5, rfl, l4, hd, hp, r4⟩ := for_idx (t := .nm 4) (b := body) (I := fun n env st1 => ∃ ds x4 x5, env = [some (.loc p), some (.int m), some (.tup ws), some (.tup ds), x4, x5, none] ∧ ds.length = n ∧ ds.all (deedB ws.length) = true ∧ (∀ d ∈ ds, Pn 3 1 d) ∧ Drew p st st1)
    (xs := rngL 0 k.toNat) (m := 0) (env := [some (.loc p), some (.int m), some (.tup ws), some (.tup []), none, none, none]) (st := s3)
    (fun n x env st1 hx hI => by
      obtain ⟨ds, x4, x5, rfl, ln, hd, hp, r⟩ := hI
      obtain ⟨hn, rfl⟩ := rngL_get hx
      obtain ⟨d, s5, e5, r5, g5, p5⟩ := deed_gen (g := ws.length) r.src hg.1 hg.2
      by_cases q : n = 0
      · subst q
        obtain ⟨z, s6, e6, z0, z1, r6⟩ := draw_ok (m := 3) r5.src (by omega) (by omega)
        by_cases q2 : 0 < z
        · refine ⟨_, _, s6, rfl, .inl (by simp [body, e5, e6, q2]; rw [addD_tup (by simp; omega)]; rfl), _, _, _, rfl, ?_, ?_, ?_, (r.trans r5).trans r6⟩
          · rw [List.length_append, ln]; rfl
          · simp [hd, deedB, onB, isI, ne_ws.1]; omega
          · intro d' hd'
            simp at hd'
            rcases hd' with hd' | rfl
            · exact hp d' hd'
            · simp [pn_tup, pn_str ok_on, pn_int]
        · refine ⟨_, _, s6, rfl, .inl (by simp [body, e5, e6, q2]; rw [addD_tup (by simp; omega)]; rfl), _, _, _, rfl, ?_, ?_, ?_, (r.trans r5).trans r6⟩
          · rw [List.length_append, ln]; rfl
          · simp [hd, g5]
          · intro d' hd'
            simp at hd'
            rcases hd' with hd' | rfl
            · exact hp d' hd'
            · exact p5
      · have q' : ((0 + (n : Int)) == 0) = false := by simp [q]
        refine ⟨_, _, s5, rfl, .inl (by simp [body, e5, q]; rw [addD_tup (by simp; omega)]; rfl), _, _, _, rfl, ?_, ?_, ?_, r.trans r5⟩
        · simp; omega
        · simp [hd, g5]
        · intro d' hd'
          simp at hd'
          rcases hd' with hd' | rfl
          · exact hp d' hd'
          · exact p5) ⟨[], none, none, rfl, rfl, rfl, (fun _ h => nomatch h), r2.trans r3⟩
  rw [rngL_length] at l4
  refine ⟨ws, ds, s4, ?_, r4, hw, by omega, hd, fun w hw => by obtain ⟨i, h1, _⟩ := hws w hw; exact ⟨i, h1⟩, hp⟩
  have f1 := sFor_ok (it := iArg rng1D (aCons (eC2 f_law_draw (aCons (eV 0) (aCons (DL.e2 addD (eV 1) (eC (.int 1))) (aNil)))) (aNil))) (t := .nm 4) (b := body) (env := [some (.loc p), some (.int m), some (.tup ws), some (.tup []), none, none, none]) (st := s2) (st1 := s3) (xs := rngL 0 k.toNat) (by simp [e3, rk])
  have f2 := eLc_ap (it := iArg rng1D (aCons (DL.e2 addD (eC (.int 1)) (eC2 f_law_draw (aCons (eV 0) (aCons (eC (.int 4)) (aNil))))) (aNil))) (t := .nm 6) (tt := tTrue) (el := DL.e2 addD (eC (.int 1)) (eC2 f_law_draw (aCons (eV 0) (aCons (eC (.int 9)) (aNil))))) (vs := [6]) (env := [some (.loc p), some (.int m), none, none, none, none, none]) (st := st) (st1 := s1) (xs := rngL 0 (1 + c).toNat) (by simp [e1, rc])
  rw [show wipeE [some (.loc p), some (.int m), none, none, none, none, none] [6] = [some (.loc p), some (.int m), none, none, none, none, none] from rfl, e2] at f2
  rw [e4] at f1
  simp only [body] at f1
  simp only [f_law_plan, b_law_plan]
  rw [fn0_ap (by rfl)]
  simp only [sSeq_ap, sAsg_nm, eC2_ap, aCons_ap, aNil_ap]
  simp only [List.map_cons, List.map_nil, List.cons_append, List.nil_append, List.replicate, f2]
  simp [f1]
end DL
set_option maxHeartbeats 4000000
namespace DL
open PySem PySem.Spec PyProof.Rows L2
/-! ### what the program and the law recognize -/
theorem number_ok {d : D} {a b : Int} {st : Stt} (h : Pv d) : f_is_number [d, .int a, .int b] st = .ok (.bl (isI a b d)) st := by
  cases d <;> first
    | exact h.elim
    | simp [f_is_number, b_is_number, fn0_ap, isi_int (d := .int _) trivial, isi_bool (d := .int _) trivial, isi_int h, isi_bool h, isIntT, isBlT, isI]
    | (simp [f_is_number, b_is_number, fn0_ap, isi_int (d := .int _) trivial, isi_bool (d := .int _) trivial, isi_int h, isi_bool h, isIntT, isBlT, isI]; split <;> simp_all)
theorem lawint_ok {d : D} {a b : Int} {st : Stt} (h : Pv d) : f_law_is_int [d, .int a, .int b] st = .ok (.bl (isI a b d)) st := number_ok h
theorem tuple_ok {xs : List D} {a b : Int} {st : Stt} : f_is_tuple [.tup xs, .int a, .int b] st = .ok (.bl (decide (a ≤ xs.length) && decide ((xs.length : Int) ≤ b))) st := by
  simp [f_is_tuple, b_is_tuple, fn0_ap, isi_tup (d := .tup xs) trivial, isTupT]
theorem tuple_no {d : D} {a b : Int} {st : Stt} (h : Pv d) (h2 : isTupT d = false) : f_is_tuple [d, .int a, .int b] st = .ok (.bl false) st := by
  simp [f_is_tuple, b_is_tuple, fn0_ap, isi_tup h, h2]
def isW (ws : List Str) : D → Bool
  | .str s => ws.any (· == s)
  | _ => false
theorem word_ok {L n : Nat} {d : D} {ws : List Str} {st : Stt} (h : Pn L n d) (hw : ws.all PyData.strOk = true) : f_is_word [d, .tup (ws.map D.str)] st = .ok (.bl (isW ws d)) st := by
  have hp := h.pv
  cases d with
  | str s =>
    have hs : PyData.strOk s = true := by exact h.str
    simp [f_is_word, b_is_word, fn0_ap, isi_str hp, isStrT, in_strs hs hw, isW]
  | _ => simp [f_is_word, b_is_word, fn0_ap, isi_str hp, isStrT, isW]
theorem turn_ok {L n : Nat} {x y z : D} {st : Stt} (hy : Pn L n y) (hz : Pn L n z) : f_is_turn [.tup [x, y, z]] st = .ok (.bl (turnB [x, y, z])) st := by
  have h1 := hy.pv
  have h2 := hz.pv
  by_cases q1 : isI 0 4 y = true
  · by_cases q2 : isI (-5) 20 z = true
    · cases y <;> try (simp [isI] at q1; done)
      cases z <;> try (simp [isI] at q2; done)
      simp [f_is_turn, b_is_turn, fn0_ap, ix_tup, number_ok h1, number_ok h2, turnB, q1, q2]
    · simp [f_is_turn, b_is_turn, fn0_ap, ix_tup, number_ok h1, number_ok h2, turnB, q1, q2]
  · simp [f_is_turn, b_is_turn, fn0_ap, ix_tup, number_ok h1, number_ok h2, turnB, q1]
theorem turn_no {xs : List D} {st : Stt} (h : xs.length ≠ 3) : f_is_turn [.tup xs] st = .ok (.bl false) st := by
  have e : ((xs.length : Int) == 3) = false := by simp; omega
  simp [f_is_turn, b_is_turn, fn0_ap, e]
theorem turnB_no {xs : List D} (h : xs.length ≠ 3) : turnB xs = false := by
  unfold turnB
  split
  · simp at h
  · rfl
theorem deedB_len {g : Int} {xs : List D} (h : 3 < xs.length) : deedB g (.tup xs) = false := by
  unfold deedB
  split
  · rename_i w r e
    cases e
    split
    · exact turnB_no (by omega)
    · split
      · cases r with
        | nil => simp at h
        | cons a r => cases r with
          | nil => simp at h
          | cons b r => rfl
      · cases r with
        | nil => simp at h
        | cons a r => rfl
  · rfl
theorem deed_ok {L n : Nat} {d : D} {g : Int} {st : Stt} (h : Pn L n d) : f_is_deed_of [.int g, d] st = .ok (.bl (deedB g d)) st := by
  have hp := h.pv
  by_cases ht : isTupT d = true
  · cases d <;> try (simp [isTupT] at ht; done)
    rename_i xs
    cases n with
    | zero => simp [Pn] at h
    | succ n =>
    have hx := (pn_tup.mp h).2
    by_cases hl : 1 ≤ (xs.length : Int) ∧ (xs.length : Int) ≤ 3
    · obtain ⟨x, r, rfl⟩ : ∃ x r, xs = x :: r := by
        cases xs with
        | nil => simp at hl
        | cons x r => exact ⟨x, r, rfl⟩
      have hx0 := hx x (by simp)
      have ha : ∀ (ws : List Str) (hw : ws.all PyData.strOk = true), f_is_word [x, .tup (ws.map D.str)] st = .ok (.bl (isW ws x)) st := fun ws hw => word_ok hx0 hw
      have w1 := ha ["turn"] (by decide +kernel)
      have w2 := ha ["on", "fetch"] (by decide +kernel)
      have w3 := ha ["off", "free"] (by decide +kernel)
      simp only [List.map_cons, List.map_nil] at w1 w2 w3
      have l1 : (decide (1 ≤ ((x :: r).length : Int)) && decide (((x :: r).length : Int) ≤ 3)) = true := by simp [hl]; simp at hl; omega
      have lt : f_is_tuple [.tup (x :: r), .int 1, .int 3] st = .ok (.bl true) st := by rw [tuple_ok, l1]
      by_cases q1 : isW ["turn"] x = true
      · obtain ⟨w, rfl, rfl⟩ : ∃ w, x = .str w ∧ w = ("turn" : Str) := by
          cases x <;> simp [isW] at q1
          exact ⟨_, rfl, q1.symm⟩
        have e : deedB g (.tup (.str "turn" :: r)) = turnB (.str "turn" :: r) := by simp [deedB]
        rw [e]
        by_cases q2 : r.length = 2
        · obtain ⟨a, b, rfl⟩ : ∃ a b, r = [a, b] := by
            match r, q2 with
            | [a, b], _ => exact ⟨a, b, rfl⟩
          simp [f_is_deed_of, b_is_deed_of, fn0_ap, lt, ix_tup, w1, q1, turn_ok (st := st) (x := .str "turn") (hx a (by simp)) (hx b (by simp))]
        · rw [turnB_no (by simp; omega)]
          simp [f_is_deed_of, b_is_deed_of, fn0_ap, lt, ix_tup, w1, q1, turn_no (st := st) (xs := .str "turn" :: r) (by simp; omega)]
      · by_cases q2 : isW ["on", "fetch"] x = true
        · obtain ⟨w, rfl, hw⟩ : ∃ w, x = .str w ∧ (w = ("on" : Str) ∨ w = ("fetch" : Str)) := by
            cases x <;> simp [isW] at q2
            exact ⟨_, rfl, by rcases q2 with q2 | q2 <;> simp [q2]⟩
          have hn : ¬ w = ("turn" : Str) := by
            rcases hw with rfl | rfl <;> decide +kernel
          have e : deedB g (.tup (.str w :: r)) = onB g (.str w :: r) := by simp [deedB, hn, hw]
          rw [e]
          match r with
          | [] => simp [f_is_deed_of, b_is_deed_of, fn0_ap, lt, ix_tup, w1, w2, q1, q2, onB]
          | [a] => simp [f_is_deed_of, b_is_deed_of, fn0_ap, lt, ix_tup, w1, w2, q1, q2, onB, number_ok (hx a (by simp)).pv]
          | a :: b :: r => 
            have e2 : ((r.length : Int) + 1 + 1 + 1 == 2) = false := by simp; omega
            simp [f_is_deed_of, b_is_deed_of, fn0_ap, lt, ix_tup, w1, w2, q1, q2, onB, e2]
        · have e : deedB g (.tup (x :: r)) = (isW ["off", "free"] x && decide (((x :: r).length : Int) = 1)) := by
            cases x <;> try (simp [deedB, isW]; done)
            rename_i w
            simp [isW] at q1 q2
            have n1 : ¬ w = ("turn" : Str) := fun z => q1 z.symm
            have n2 : ¬ (w = ("on" : Str) ∨ w = ("fetch" : Str)) := by rintro (z | z); exact q2.1 z.symm; exact q2.2 z.symm
            simp only [deedB, if_neg n1, if_neg n2, isW]
            have c1 : (w == ("off" : Str)) = (("off" : Str) == w) := by rw [Bool.eq_iff_iff, beq_iff_eq, beq_iff_eq]; exact eq_comm
            have c2 : (w == ("free" : Str)) = (("free" : Str) == w) := by rw [Bool.eq_iff_iff, beq_iff_eq, beq_iff_eq]; exact eq_comm
            rw [c1, c2, Bool.and_comm]
            cases r <;> simp
            omega
          rw [e]
          simp [f_is_deed_of, b_is_deed_of, fn0_ap, lt, ix_tup, w1, w2, w3, q1, q2]
          cases isW ["off", "free"] x <;> simp
          rw [Bool.eq_iff_iff]; simp
    · have l1 : (decide (1 ≤ (xs.length : Int)) && decide ((xs.length : Int) ≤ 3)) = false := by
        rw [Bool.eq_false_iff]; simpa using hl
      have lt : f_is_tuple [.tup xs, .int 1, .int 3] st = .ok (.bl false) st := by rw [tuple_ok, l1]
      have e : deedB g (.tup xs) = false := by
        by_cases q : xs = []
        · subst q; rfl
        · have : xs.length ≠ 0 := fun z => q (List.length_eq_zero_iff.mp z)
          exact deedB_len (by omega)
      rw [e]
      simp [f_is_deed_of, b_is_deed_of, fn0_ap, lt]
  · have e : deedB g d = false := by
      cases d <;> first | rfl | (simp [isTupT] at ht)
    rw [e]
    simp [f_is_deed_of, b_is_deed_of, fn0_ap, tuple_no hp (by simpa using ht)]
theorem law_deed_ok {L n : Nat} {d : D} {g : Int} {st : Stt} (h : Pn L n d) (hn : n ≤ 64) : f_law_is_deed [.int g, d] st = .ok (.bl (deedB g d)) st := by
  have hp := h.pv
  by_cases ht : isTupT d = true
  · cases d <;> try (simp [isTupT] at ht; done)
    rename_i xs
    cases n with
    | zero => simp [Pn] at h
    | succ n =>
    have hx := (pn_tup.mp h).2
    have hnil := eq_tup_nil (neg := false) (st := st) h hn
    cases xs with
    | nil =>
      have e : deedB g (.tup []) = false := rfl
      rw [e]
      simp [f_law_is_deed, b_law_is_deed, fn0_ap, isi_tup hp, isTupT, hnil]
    | cons x r =>
      have hx0 := hx x (by simp)
      by_cases hs : isStrT x = true
      · cases x <;> try (simp [isStrT] at hs; done)
        rename_i w
        have hw := hx0.str
        have i1 := isi_str (st := st) (d := .str w) trivial
        have q1 := eq_str (neg := false) (st := st) hw (show PyData.strOk ("turn" : Str) = true by decide +kernel)
        have q2 := in_strs (neg := false) (st := st) hw (show (["on", "fetch"] : List Str).all PyData.strOk = true by decide +kernel)
        simp only [List.map_cons, List.map_nil] at q2
        by_cases p1 : w = ("turn" : Str)
        · subst p1
          have e : deedB g (.tup (.str "turn" :: r)) = turnB (.str "turn" :: r) := by simp [deedB]
          rw [e]
          by_cases p2 : r.length = 2
          · obtain ⟨a, b, rfl⟩ : ∃ a b, r = [a, b] := by
              match r, p2 with
              | [a, b], _ => exact ⟨a, b, rfl⟩
            have ha := (hx a (by simp)).pv
            have hb := (hx b (by simp)).pv
            by_cases z1 : isI 0 4 a = true
            · by_cases z2 : isI (-5) 20 b = true
              · cases a <;> try (simp [isI] at z1; done)
                cases b <;> try (simp [isI] at z2; done)
                simp [f_law_is_deed, b_law_is_deed, fn0_ap, isi_tup hp, isTupT, hnil, ix_tup, i1, isStrT, q1, lawint_ok ha, lawint_ok hb, z1, z2, turnB]
              · simp [f_law_is_deed, b_law_is_deed, fn0_ap, isi_tup hp, isTupT, hnil, ix_tup, i1, isStrT, q1, lawint_ok ha, lawint_ok hb, z1, z2, turnB]
            · simp [f_law_is_deed, b_law_is_deed, fn0_ap, isi_tup hp, isTupT, hnil, ix_tup, i1, isStrT, q1, lawint_ok ha, lawint_ok hb, z1, turnB]
          · rw [turnB_no (by simp; omega)]
            have e2 : ((r.length : Int) + 1 == 3) = false := by simp; omega
            simp [f_law_is_deed, b_law_is_deed, fn0_ap, isi_tup hp, isTupT, hnil, ix_tup, i1, isStrT, q1, e2]
        · by_cases p2 : w = ("on" : Str) ∨ w = ("fetch" : Str)
          · have e : deedB g (.tup (.str w :: r)) = onB g (.str w :: r) := by simp [deedB, p1, p2]
            have p3 : (["on", "fetch"] : List Str).any (· == w) = true := by rcases p2 with rfl | rfl <;> simp
            rw [p3] at q2
            rw [e]
            match r with
            | [] => simp [f_law_is_deed, b_law_is_deed, fn0_ap, isi_tup hp, isTupT, hnil, ix_tup, i1, isStrT, q1, p1, q2, onB]
            | [a] => simp [f_law_is_deed, b_law_is_deed, fn0_ap, isi_tup hp, isTupT, hnil, ix_tup, i1, isStrT, q1, p1, q2, onB, lawint_ok (hx a (by simp)).pv]
            | a :: b :: r =>
              have e2 : ((r.length : Int) + 1 + 1 + 1 == 2) = false := by simp; omega
              simp [f_law_is_deed, b_law_is_deed, fn0_ap, isi_tup hp, isTupT, hnil, ix_tup, i1, isStrT, q1, p1, q2, onB, e2]
          · have e : deedB g (.tup (.str w :: r)) = (decide (r = []) && (w == ("off" : Str) || w == ("free" : Str))) := by simp [deedB, p1, p2]
            have p3 : (["on", "fetch"] : List Str).any (· == w) = false := by
              simp
              exact ⟨fun z => p2 (.inl z.symm), fun z => p2 (.inr z.symm)⟩
            rw [p3] at q2
            have o1 : PyData.strOk ("off" : Str) = true := by decide +kernel
            have o2 : PyData.strOk ("free" : Str) = true := by decide +kernel
            have two : Pn 2 2 (.tup [.tup [.str ("off" : Str)], .tup [.str ("free" : Str)]]) := by simp [pn_tup, pn_str o1, pn_str o2]
            obtain ⟨x, es, z1, z2, z3⟩ := in_pn (neg := false) (st := st) h two hn (by omega)
            obtain ⟨ys, z4, rfl⟩ : ∃ ys, toPys (.str w :: r) = some ys ∧ PyData.tuple ys = x := by simpa [toPy] using z1
            obtain ⟨rs, z5, rfl⟩ : ∃ rs, toPys r = some rs ∧ PyData.str w :: rs = ys := by
              simp only [toPys, toPy] at z4
              split at z4
              · rename_i a b c d
                cases c; cases z4
                exact ⟨_, d, rfl⟩
              · cases z4
            have z6 := toPys_nil z5
            have z7 : es = [.tuple [.str ("off" : Str)], .tuple [.str ("free" : Str)]] := by
              simp [toPys, toPy] at z2; exact z2.symm
            subst z7
            have c1 : (w == ("off" : Str)) = (("off" : Str) == w) := by rw [Bool.eq_iff_iff, beq_iff_eq, beq_iff_eq]; exact eq_comm
            have c2 : (w == ("free" : Str)) = (("free" : Str) == w) := by rw [Bool.eq_iff_iff, beq_iff_eq, beq_iff_eq]; exact eq_comm
            rw [e, c1, c2]
            simp only [List.any_cons, List.any_nil, PyData.eqv, PyData.eqvAll, eqvAll_nil', z6] at z3
            simp [f_law_is_deed, b_law_is_deed, fn0_ap, isi_tup hp, isTupT, hnil, ix_tup, i1, isStrT, q1, p1, q2, z3]
            cases r <;> simp
      · have e : deedB g (.tup (x :: r)) = false := by
          cases x <;> first | rfl | (simp [isStrT] at hs)
        rw [e]
        simp [f_law_is_deed, b_law_is_deed, fn0_ap, isi_tup hp, isTupT, hnil, ix_tup, isi_str hx0.pv, hs]
  · have e : deedB g d = false := by
      cases d <;> first | rfl | (simp [isTupT] at ht)
    rw [e]
    simp [f_law_is_deed, b_law_is_deed, fn0_ap, isi_tup hp, ht]
/-! ### whole plans -/
theorem weights_ok {L n : Nat} {xs : List D} {st : Stt} (h : Pn L n (.tup xs)) : f_are_weights [.tup xs] st = .ok (.bl (wtsB xs)) st := by
  cases n with
  | zero => simp [Pn] at h
  | succ n =>
  have hx := (pn_tup.mp h).2
  by_cases hl : 1 ≤ (xs.length : Int) ∧ (xs.length : Int) ≤ 4
  · have l1 : (decide (1 ≤ (xs.length : Int)) && decide ((xs.length : Int) ≤ 4)) = true := by simpa using hl
    have lt : f_is_tuple [.tup xs, .int 1, .int 4] st = .ok (.bl true) st := by rw [tuple_ok, l1]
    have lc := lc_pure (i := 1) (tt := tTrue) (el := eC2 f_is_number (aCons (eV 1) (aCons (eC (.int 1)) (aCons (eC (.int 9)) (aNil))))) (env := [some (.tup xs), none]) (st := st) (p := fun _ => true) (g := fun x => .bl (isI 1 9 x)) (xs := xs) (acc := [])
      (fun x hx' => ⟨rfl, fun _ => by simp [number_ok (hx x hx').pv]⟩) (by simp; omega)
    simp at lc
    simp [f_are_weights, b_are_weights, fn0_ap, lt, eLc_ap0 (xs := xs) (it := iVal (eV 0)) (st := st) (env := [some (.tup xs), none]) (by simp), wipeE, lc, all_map, wtsB, hl]
  · have l1 : (decide (1 ≤ (xs.length : Int)) && decide ((xs.length : Int) ≤ 4)) = false := by
      rw [Bool.eq_false_iff]; simpa using hl
    have lt : f_is_tuple [.tup xs, .int 1, .int 4] st = .ok (.bl false) st := by rw [tuple_ok, l1]
    simp [f_are_weights, b_are_weights, fn0_ap, lt, wtsB, l1]
theorem weights_no {d : D} {st : Stt} (h : Pv d) (h2 : isTupT d = false) : f_are_weights [d] st = .ok (.bl false) st := by
  simp [f_are_weights, b_are_weights, fn0_ap, tuple_no h h2]
theorem good_ok {L n : Nat} {d : D} {st : Stt} (h : Pn L n d) : f_is_good_plan [d] st = .ok (.bl (planB d)) st := by
  have hp := h.pv
  by_cases ht : isTupT d = true
  · cases d <;> try (simp [isTupT] at ht; done)
    rename_i xs
    cases n with
    | zero => simp [Pn] at h
    | succ n =>
    have hx := (pn_tup.mp h).2
    by_cases hl : xs.length = 2
    · obtain ⟨a, b, rfl⟩ : ∃ a b, xs = [a, b] := by
        match xs, hl with
        | [a, b], _ => exact ⟨a, b, rfl⟩
      have lt : f_is_tuple [.tup [a, b], .int 2, .int 2] st = .ok (.bl true) st := by rw [tuple_ok]; rfl
      have ha := hx a (by simp)
      have hb := hx b (by simp)
      by_cases ta : isTupT a = true
      · cases a <;> try (simp [isTupT] at ta; done)
        rename_i ws
        have wo := weights_ok (st := st) ha
        by_cases tb : isTupT b = true
        · cases b <;> try (simp [isTupT] at tb; done)
          rename_i ds
          cases n with
          | zero => simp [Pn] at hb
          | succ n =>
          have hd := (pn_tup.mp hb).2
          have ld : f_is_tuple [.tup ds, .int 0, .int 8] st = .ok (.bl (decide ((ds.length : Int) ≤ 8))) st := by rw [tuple_ok]; simp
          by_cases l8 : (ds.length : Int) ≤ 8
          · have lc := lc_pure (i := 1) (tt := tTrue) (el := eC2 f_is_deed_of (aCons (eC2 lenC (aCons (e2 ixD (eV 0) (eC (.int 0))) (aNil))) (aCons (eV 1) (aNil)))) (env := [some (.tup [.tup ws, .tup ds]), none]) (st := st) (p := fun _ => true) (g := fun x => .bl (deedB ws.length x)) (xs := ds) (acc := [])
              (fun x hx' => ⟨rfl, fun _ => by simp [deed_ok (hd x hx'), ix_tup]⟩) (by simp; omega)
            simp at lc
            by_cases q : wtsB ws = true
            · simp [f_is_good_plan, b_is_good_plan, fn0_ap, lt, ix_tup, wo, ld, l8, q, eLc_ap0 (xs := ds) (it := iVal (e2 ixD (eV 0) (eC (.int 1)))) (st := st) (env := [some (.tup [.tup ws, .tup ds]), none]) (by simp [ix_tup]), wipeE, lc, all_map, planB]
            · simp [f_is_good_plan, b_is_good_plan, fn0_ap, lt, ix_tup, wo, ld, l8, q, planB]
          · by_cases q : wtsB ws = true
            · simp [f_is_good_plan, b_is_good_plan, fn0_ap, lt, ix_tup, wo, ld, l8, q, planB]
            · simp [f_is_good_plan, b_is_good_plan, fn0_ap, lt, ix_tup, wo, ld, l8, q, planB]
        · have e : planB (.tup [.tup ws, b]) = false := by cases b <;> first | rfl | (simp [isTupT] at tb)
          rw [e]
          by_cases q : wtsB ws = true
          · simp [f_is_good_plan, b_is_good_plan, fn0_ap, lt, ix_tup, wo, q, tuple_no hb.pv (by simpa using tb)]
          · simp [f_is_good_plan, b_is_good_plan, fn0_ap, lt, ix_tup, wo, q]
      · have e : planB (.tup [a, b]) = false := by cases a <;> first | rfl | (simp [isTupT] at ta)
        rw [e]
        simp [f_is_good_plan, b_is_good_plan, fn0_ap, lt, ix_tup, weights_no ha.pv (by simpa using ta)]
    · have l1 : (decide (2 ≤ (xs.length : Int)) && decide ((xs.length : Int) ≤ 2)) = false := by
        rw [Bool.eq_false_iff]; simp; omega
      have lt : f_is_tuple [.tup xs, .int 2, .int 2] st = .ok (.bl false) st := by rw [tuple_ok, l1]
      have e : planB (.tup xs) = false := by
        match xs, hl with
        | [], _ => rfl
        | [_], _ => simp [planB]
        | _ :: _ :: _ :: _, _ => simp [planB]
      rw [e]
      simp [f_is_good_plan, b_is_good_plan, fn0_ap, lt]
  · have e : planB d = false := by
      cases d <;> first | rfl | (simp [isTupT] at ht)
    rw [e]
    simp [f_is_good_plan, b_is_good_plan, fn0_ap, tuple_no hp (by simpa using ht)]
theorem tt_tup {xs : List D} : isTupT (.tup xs) = true := rfl
theorem plan_ok {L n : Nat} {d : D} {st : Stt} (h : Pn L n d) : f_is_plan [d] st = .ok (.bl (planB d)) st := by
  simp [f_is_plan, b_is_plan, fn0_ap, good_ok h]
theorem planB_parts {d : D} (h : planB d = true) : ∃ ws ds, d = .tup [.tup ws, .tup ds] ∧ wtsB ws = true ∧ (ds.length : Int) ≤ 8 ∧ ds.all (deedB ws.length) = true := by
  unfold planB at h
  split at h
  · rename_i ws ds
    simp at h
    exact ⟨ws, ds, rfl, h.1.1, h.1.2, by simpa using h.2⟩
  · cases h
theorem need_ok {L n : Nat} {d : D} {st : Stt} (h : Pn L n d) (hb : planB d = true) : f_need_plan [d] st = .ok .non st := by
  simp [f_need_plan, b_need_plan, fn0_ap, good_ok h, hb]
theorem isdeed_ok {L n m : Nat} {ws ds : List D} {v : D} {st : Stt} (h : Pn L n (.tup [.tup ws, .tup ds])) (hb : planB (.tup [.tup ws, .tup ds]) = true) (hv : Pn L m v) : f_is_deed [.tup [.tup ws, .tup ds], v] st = .ok (.bl (deedB ws.length v)) st := by
  simp [f_is_deed, b_is_deed, fn0_ap, need_ok h hb, ix_tup, deed_ok hv]
theorem filter_none {xs : List D} {q : D → Bool} : (xs.filter fun x => !q x).isEmpty = xs.all q := by
  induction xs with
  | nil => rfl
  | cons x xs ih =>
    cases h : q x
    · simp [h]
    · simp [h]; simpa using ih
theorem pns_filter {L n : Nat} {xs : List D} {q : D → Bool} (h : Pn L (n + 1) (.tup xs)) : Pn L (n + 1) (.lst (xs.filter q)) := by
  rw [pn_tup] at h
  rw [pn_lst]
  exact ⟨Nat.le_trans (List.length_filter_le _ _) h.1, fun x hx => h.2 x ((List.mem_filter.mp hx).1)⟩
theorem law_plan_ok {L n : Nat} {d : D} {st : Stt} (h : Pn L n d) (hn : n ≤ 64) : f_law_is_plan [d] st = .ok (.bl (planB d)) st := by
  have hp := h.pv
  by_cases ht : isTupT d = true
  · cases d <;> try (simp [isTupT] at ht; done)
    rename_i xs
    cases n with
    | zero => simp [Pn] at h
    | succ n =>
    have hx := (pn_tup.mp h).2
    by_cases hl : xs.length = 2
    · obtain ⟨a, b, rfl⟩ : ∃ a b, xs = [a, b] := by
        match xs, hl with
        | [a, b], _ => exact ⟨a, b, rfl⟩
      have ha := hx a (by simp)
      have hb := hx b (by simp)
      by_cases ta : isTupT a = true
      · cases a <;> try (simp [isTupT] at ta; done)
        rename_i ws
        have ia := isi_tup (st := st) ha.pv
        by_cases l4 : (decide (1 ≤ (ws.length : Int)) && decide ((ws.length : Int) ≤ 4)) = true
        · have l4' : 1 ≤ (ws.length : Int) ∧ (ws.length : Int) ≤ 4 := by simpa using l4
          by_cases tb : isTupT b = true
          · cases b <;> try (simp [isTupT] at tb; done)
            rename_i ds
            cases n with
            | zero => simp [Pn] at hb
            | succ n =>
            have hd := (pn_tup.mp hb).2
            have hw := (pn_tup.mp ha).2
            have ib := isi_tup (st := st) hb.pv
            by_cases l8 : (ds.length : Int) ≤ 8
            · have l8' : ¬ (8 : Int) < ds.length := by omega
              have lc := lc_pure (i := 1) (tt := tyNot (tV (eC2 f_law_is_int (aCons (eV 1) (aCons (eC (.int 1)) (aCons (eC (.int 9)) (aNil))))))) (el := eV 1) (env := [some (.tup [.tup ws, .tup ds]), none, none]) (st := st) (p := fun x => !isI 1 9 x) (g := id) (xs := ws) (acc := [])
                (fun x hx' => ⟨by simp [lawint_ok (hw x hx').pv], fun _ => by simp⟩) (by simp; omega)
              simp at lc
              have lc2 := lc_pure (i := 2) (tt := tyNot (tV (eC2 f_law_is_deed (aCons (eC2 lenC (aCons (e2 ixD (eV 0) (eC (.int 0))) (aNil))) (aCons (eV 2) (aNil)))))) (el := eV 2) (env := [some (.tup [.tup ws, .tup ds]), none, none]) (st := st) (p := fun x => !deedB ws.length x) (g := id) (xs := ds) (acc := [])
                (fun x hx' => ⟨by simp [law_deed_ok (hd x hx') (by omega), ix_tup], fun _ => by simp⟩) (by simp; omega)
              simp at lc2
              have v1 := eq_lst_nil (neg := true) (st := st) (pns_filter (q := fun x => !isI 1 9 x) ha) (by omega)
              have v2 := eq_lst_nil (neg := false) (st := st) (pns_filter (q := fun x => !deedB ws.length x) hb) (by omega)
              rw [filter_none] at v1 v2
              by_cases q : ws.all (isI 1 9) = true
              · simp [f_law_is_plan, b_law_is_plan, fn0_ap, isi_tup hp, isTupT, ia, ib, ix_tup, l4', l8', eLc_ap0 (xs := ws) (it := iVal (e2 ixD (eV 0) (eC (.int 0)))) (st := st) (env := [some (.tup [.tup ws, .tup ds]), none, none]) (by simp [ix_tup]), wipeE, lc, v1, q, eLc_ap0 (xs := ds) (it := iVal (e2 ixD (eV 0) (eC (.int 1)))) (st := st) (env := [some (.tup [.tup ws, .tup ds]), none, none]) (by simp [ix_tup]), lc2, v2, planB, wtsB, l8]
              · simp [f_law_is_plan, b_law_is_plan, fn0_ap, isi_tup hp, isTupT, ia, ib, ix_tup, l4', l8', eLc_ap0 (xs := ws) (it := iVal (e2 ixD (eV 0) (eC (.int 0)))) (st := st) (env := [some (.tup [.tup ws, .tup ds]), none, none]) (by simp [ix_tup]), wipeE, lc, v1, q, planB, wtsB, l8]
            · have l8' : (8 : Int) < ds.length := by omega
              simp [f_law_is_plan, b_law_is_plan, fn0_ap, isi_tup hp, isTupT, ia, ib, ix_tup, l4', l8', planB, wtsB, l8]
          · have e : planB (.tup [.tup ws, b]) = false := by cases b <;> first | rfl | (simp [isTupT] at tb)
            rw [e]
            simp [f_law_is_plan, b_law_is_plan, fn0_ap, isi_tup hp, tt_tup, ia, ix_tup, l4', isi_tup hb.pv, tb]
        · have e : planB (.tup [.tup ws, b]) = false := by
            have l4'' : wtsB ws = false := by simp only [wtsB]; rw [Bool.eq_false_iff.mpr l4]; rfl
            cases b <;> first | rfl | (simp [planB, l4''])
          rw [e]
          simp at l4
          by_cases q : 1 ≤ (ws.length : Int)
          · have q2 : ¬ (ws.length : Int) ≤ 4 := by omega
            simp [f_law_is_plan, b_law_is_plan, fn0_ap, isi_tup hp, isTupT, ia, ix_tup, q, q2]
          · simp [f_law_is_plan, b_law_is_plan, fn0_ap, isi_tup hp, isTupT, ia, ix_tup, q]
      · have e : planB (.tup [a, b]) = false := by cases a <;> first | rfl | (simp [isTupT] at ta)
        rw [e]
        simp [f_law_is_plan, b_law_is_plan, fn0_ap, isi_tup hp, tt_tup, ix_tup, isi_tup ha.pv, ta]
    · have e : planB (.tup xs) = false := by
        match xs, hl with
        | [], _ => rfl
        | [_], _ => simp [planB]
        | _ :: _ :: _ :: _, _ => simp [planB]
      have v2 : ((xs.length : Int) == 2) = false := by simp; omega
      rw [e]
      simp [f_law_is_plan, b_law_is_plan, fn0_ap, isi_tup hp, isTupT, v2]
  · have e : planB d = false := by
      cases d <;> first | rfl | (simp [isTupT] at ht)
    rw [e]
    simp [f_law_is_plan, b_law_is_plan, fn0_ap, isi_tup hp, ht]
/-! ### odd and spoilt values -/
theorem odd_ok {p : Nat} {st : Stt} (h : HasSrc p st) : ∃ d st', f_law_odd [.loc p] st = .ok d st' ∧ Drew p st st' ∧ Pn 3 1 d := by
  obtain ⟨d, s1, e1, hd, r1⟩ := of_ok (xs := [.non, .bl true, .bl false, .int 0, .int 1, .int 3, .int 4, .int 5, .int 9, .int 10, .int 20, .int 21, .int (-1), .int (-5), .int (-6), .str "", .str "on", .str "off", .str "turn", .str "free", .tup [], .lst [], .tup [.str "off"], .tup [.str "on", .int 0], .tup [.str "turn", .int 1, .int 0], .lst [.str "off"], .tup [.str "free", .int 0]]) h (by simp) (by simp) _ (.inr rfl)
  refine ⟨d, s1, ?_, r1, ?_⟩
  · simp [f_law_odd, b_law_odd, fn0_ap, addD_lst, e1]
  · have o0 : PyData.strOk ("" : Str) = true := by decide +kernel
    have all : ∀ x ∈ ([.non, .bl true, .bl false, .int 0, .int 1, .int 3, .int 4, .int 5, .int 9, .int 10, .int 20, .int 21, .int (-1), .int (-5), .int (-6), .str "", .str "on", .str "off", .str "turn", .str "free", .tup [], .lst [], .tup [.str "off"], .tup [.str "on", .int 0], .tup [.str "turn", .int 1, .int 0], .lst [.str "off"], .tup [.str "free", .int 0]] : List D), Pn 3 1 x := by
      simp [pn_non, pn_bl, pn_int, pn_str, o0, ok_on, ok_off, ok_turn, ok_free, pn_tup, pn_lst]
    exact all d hd
theorem pn_take {L n k : Nat} {xs : List D} (h : ∀ x ∈ xs, Pn L n x) : ∀ x ∈ xs.take k, Pn L n x := fun x hx => h x (List.mem_of_mem_take hx)
theorem pn_drop {L n k : Nat} {xs : List D} (h : ∀ x ∈ xs, Pn L n x) : ∀ x ∈ xs.drop k, Pn L n x := fun x hx => h x (List.mem_of_mem_drop hx)
theorem spoilt_ok {p L : Nat} (hL : 3 ≤ L) (hL2 : L < 1000) : ∀ (f n : Nat) (d : D) (st : Stt), n < f → f ≤ 24 → HasSrc p st → Pn L n d → ∃ d' st', fs_law_spoilt f [.loc p, d] st = .ok d' st' ∧ Drew p st st' ∧ Pn (L + 1) (n + 1) d'
  | 0, n, d, st, hf, _, _, _ => by omega
  | f + 1, n, d, st, hf, hf2, h, hd => by
    have hp := hd.pv
    by_cases ht : isTupT d = true
    · cases d <;> try (simp [isTupT] at ht; done)
      rename_i xs
      cases n with
      | zero => simp [Pn] at hd
      | succ n =>
      obtain ⟨hlen, hx⟩ := pn_tup.mp hd
      have hnil := eq_tup_nil (neg := false) (st := st) hd (by omega)
      by_cases q0 : xs = []
      · obtain ⟨o, so, eo, ro, po⟩ := odd_ok h
        refine ⟨o, so, ?_, ro, po.mono (by omega) (by omega)⟩
        subst q0
        simp [fs_law_spoilt, b_law_spoilt, fn0_ap, isi_tup hp, tt_tup, hnil, eo]
      · have hl0 : 0 < xs.length := List.length_pos_iff.mpr q0
        obtain ⟨z, s1, e1, z0, z1, r1⟩ := draw_ok (m := 6) h (by omega) (by omega)
        by_cases q1 : z = 0
        · subst q1
          obtain ⟨o, so, eo, ro, po⟩ := odd_ok r1.src
          refine ⟨o, so, ?_, r1.trans ro, po.mono (by omega) (by omega)⟩
          simp [fs_law_spoilt, b_law_spoilt, fn0_ap, isi_tup hp, tt_tup, hnil, q0, e1, eo]
        · obtain ⟨a', s2, e2, a0, a1, r2⟩ := draw_ok (m := xs.length) r1.src (by omega) (by omega)
          obtain ⟨a, rfl⟩ := Int.eq_ofNat_of_zero_le a0
          have ha : a < xs.length := by omega
          obtain ⟨k, s3, e3, k0, k1, r3⟩ := draw_ok (m := 9) r2.src (by omega) (by omega)
          have r13 := (r1.trans r2).trans r3
          have hix : ∀ st, ixD (.tup xs) (.int a) st = .ok xs[a] st := fun st => by rw [ix_tup, atI_lt ha]
          have he : Pn L n xs[a] := hx _ (List.getElem_mem ha)
          have a1' : ((a : Int) + 1) = ((a + 1 : Nat) : Int) := rfl
          have sl1 : ∀ st, sliceD (.tup xs) none (some (a : Int)) st = .ok (.tup (xs.take a)) st := fun st => by rw [slice_tup, cut_to (by omega)]
          have sl2 : ∀ st, sliceD (.tup xs) (some ((a : Int) + 1)) none st = .ok (.tup (xs.drop (a + 1))) st := fun st => by rw [slice_tup, a1', cut_from (by omega)]
          have sl3 : ∀ st, sliceD (.tup xs) none (some ((a : Int) + 1)) st = .ok (.tup (xs.take (a + 1))) st := fun st => by rw [slice_tup, a1', cut_to (by omega)]
          have sl4 : ∀ st, sliceD (.tup xs) (some (a : Int)) none st = .ok (.tup (xs.drop a)) st := fun st => by rw [slice_tup, cut_from (by omega)]
          have ad : ∀ (ys zs : List D) st, ys.length + zs.length ≤ 16777216 → addD (.tup ys) (.tup zs) st = .ok (.tup (ys ++ zs)) st := fun ys zs st h => addD_tup h
          have fin : ∀ (i j : Nat) (ys : List D), i ≤ j + 1 → (i ≤ j ∨ ys = []) → ys.length ≤ 1 → (∀ y ∈ ys, Pn (L + 1) (n + 1) y) → Pn (L + 1) (n + 1 + 1) (.tup (xs.take i ++ ys ++ xs.drop j)) := by
            intro i j ys h1 h1' h2 h3
            rw [pn_tup]
            refine ⟨?_, fun y hy => ?_⟩
            · rcases h1' with h1' | h1'
              · simp; omega
              · subst h1'; simp; omega
            · simp at hy
              rcases hy with hy | hy | hy
              · exact (pn_take hx y hy).mono (by omega) (by omega)
              · exact h3 y hy
              · exact (pn_drop hx y hy).mono (by omega) (by omega)
          have one : ∀ y : D, Pn (L + 1) (n + 1) y → ∀ z ∈ [y], Pn (L + 1) (n + 1) z := fun y hy z hz => by simp at hz; rw [hz]; exact hy
          by_cases m0 : k = 0
          · subst m0
            refine ⟨.tup (xs.take a ++ xs.drop (a + 1)), s3, ?_, r13, by have := fin a (a + 1) [] (by omega) (.inl (by omega)) (by simp) (fun _ h => nomatch h); simpa using this⟩
            simp [fs_law_spoilt, b_law_spoilt, fn0_ap, isi_tup hp, tt_tup, hnil, q0, e1, q1, e2, e3, oSome_ap, sl1, sl2]
            rw [ad _ _ _ (by simp; omega)]; rfl
          by_cases m1 : k = 1
          · subst m1
            refine ⟨.tup (xs.take (a + 1) ++ xs.drop a), s3, ?_, r13, by have := fin (a + 1) a [] (by omega) (.inr rfl) (by simp) (fun _ h => nomatch h); simpa using this⟩
            simp [fs_law_spoilt, b_law_spoilt, fn0_ap, isi_tup hp, tt_tup, hnil, q0, e1, q1, e2, e3, oSome_ap, sl3, sl4]
            rw [ad _ _ _ (by simp; omega)]; rfl
          by_cases m2 : k = 2
          · subst m2
            obtain ⟨o, so, eo, ro, po⟩ := odd_ok r3.src
            refine ⟨.tup (xs.take a ++ [o] ++ xs.drop a), so, ?_, r13.trans ro, fin a a [o] (by omega) (.inl (by omega)) (by simp) (one _ (po.mono (by omega) (by omega)))⟩
            simp [fs_law_spoilt, b_law_spoilt, fn0_ap, isi_tup hp, tt_tup, hnil, q0, e1, q1, e2, e3, oSome_ap, sl1, sl4, eo]
            rw [ad _ _ _ (by simp; omega)]
            simp
            rw [ad _ _ _ (by simp; omega)]
            simp
          by_cases m3 : k = 3
          · subst m3
            refine ⟨.lst xs, s3, ?_, r13, by rw [pn_lst]; exact ⟨by omega, fun x h => (hx x h).mono (by omega) (by omega)⟩⟩
            simp [fs_law_spoilt, b_law_spoilt, fn0_ap, isi_tup hp, tt_tup, hnil, q0, e1, q1, e2, e3]
          have b0 : (k == 0) = false := by simp [m0]
          have ii := isi_int (st := s3) he.pv
          by_cases m6 : isIntT xs[a] = true ∧ k < 6
          · obtain ⟨c, s4, e4, c0, c1, r4⟩ := draw_ok (m := 3) r3.src (by omega) (by omega)
            obtain ⟨i, hi⟩ : ∃ i : Int, ∀ st, addD xs[a] (.int c) st = .ok (.int i) st := by
              revert m6
              generalize xs[a] = y
              rintro ⟨m6, _⟩
              cases y <;> try (simp [isIntT] at m6; done)
              · exact ⟨_, fun st => rfl⟩
              · exact ⟨_, fun st => rfl⟩
            refine ⟨.tup (xs.take a ++ [.int (i - 1)] ++ xs.drop (a + 1)), s4, ?_, r13.trans r4, fin a (a + 1) [_] (by omega) (.inl (by omega)) (by simp) (one _ pn_int)⟩
            simp [fs_law_spoilt, b_law_spoilt, fn0_ap, isi_tup hp, tt_tup, hnil, q0, e1, q1, e2, e3, oSome_ap, sl1, sl2, m0, m1, m2, m3, hix, ii, m6.1, m6.2, e4, hi]
            rw [ad _ _ _ (by simp; omega)]
            simp
            rw [ad _ _ _ (by simp; omega)]
            simp
          · obtain ⟨o, so, eo, ro, po⟩ := spoilt_ok hL hL2 f n xs[a] s3 (by omega) (by omega) r3.src he
            refine ⟨.tup (xs.take a ++ [o] ++ xs.drop (a + 1)), so, ?_, r13.trans ro, fin a (a + 1) [o] (by omega) (.inl (by omega)) (by simp) (one _ po)⟩
            by_cases m5 : isIntT xs[a] = true
            · have m7 : ¬ k < 6 := fun z => m6 ⟨m5, z⟩
              simp [fs_law_spoilt, b_law_spoilt, fn0_ap, isi_tup hp, tt_tup, hnil, q0, e1, q1, e2, e3, oSome_ap, sl1, sl2, m0, m1, m2, m3, hix, ii, m5, m7, eo]
              rw [ad _ _ _ (by simp; omega)]
              simp
              rw [ad _ _ _ (by simp; omega)]
              simp
            · simp [fs_law_spoilt, b_law_spoilt, fn0_ap, isi_tup hp, tt_tup, hnil, q0, e1, q1, e2, e3, oSome_ap, sl1, sl2, m0, m1, m2, m3, hix, ii, m5, eo]
              rw [ad _ _ _ (by simp; omega)]
              simp
              rw [ad _ _ _ (by simp; omega)]
              simp
    · obtain ⟨o, so, eo, ro, po⟩ := odd_ok h
      refine ⟨o, so, ?_, ro, po.mono (by omega) (by omega)⟩
      simp [fs_law_spoilt, b_law_spoilt, fn0_ap, isi_tup hp, ht, eo]
/-! ### the law -/
def kb3 : DS := (sSeq (sIf (tV (e2 (eqD true) (eC2 f_is_plan (aCons (eV 5) (aNil))) (eC2 f_law_is_plan (aCons (eV 5) (aNil))))) (sRet (eC (.bl false))) (sNil))
    (sSeq (sIf (tV (e2 (eqD true) (eC2 f_is_deed (aCons (eV 4) (aCons (eV 5) (aNil)))) (eC2 f_law_is_deed (aCons (eC2 lenC (aCons (e2 ixD (eV 4) (eC (.int 0))) (aNil))) (aCons (eV 5) (aNil)))))) (sRet (eC (.bl false))) (sNil))
    (sAsg (.nm 5) (eC2 f_law_spoilt (aCons (eV 3) (aCons (eV 5) (aNil)))))))
theorem turns_ok {p : Nat} {st : Stt} {ws ds : List D} {v : D} {a0 a1 a2 x6 x7 : Option D} (h : HasSrc p st) (hP : Pn 8 3 (.tup [.tup ws, .tup ds])) (hb : planB (.tup [.tup ws, .tup ds]) = true) (hv : Pn 8 3 v) :
    ∃ v' y6 st', sFor (iArg rng1D (aCons (eC (.int 5)) (aNil))) (.nm 6) kb3 [a0, a1, a2, some (.loc p), some (.tup [.tup ws, .tup ds]), some v, x6, x7] st = .nx [a0, a1, a2, some (.loc p), some (.tup [.tup ws, .tup ds]), some v', y6, x7] st' ∧ HasSrc p st' := by
  have r5 : rng1D [.int 5] st = .ok (rngL 0 5) st := rng1_ap (by omega)
  rw [sFor_ok (xs := rngL 0 5) (st1 := st) (by simp [r5])]
  obtain ⟨env', st', h1, v', y6, rfl, _, hs⟩ := for_idx (t := .nm 6) (b := kb3) (I := fun n env st => ∃ v y, env = [a0, a1, a2, some (.loc p), some (.tup [.tup ws, .tup ds]), some v, y, x7] ∧ Pn (8 + n) (3 + n) v ∧ HasSrc p st) (xs := rngL 0 5) (m := 0) (env := [a0, a1, a2, some (.loc p), some (.tup [.tup ws, .tup ds]), some v, x6, x7]) (st := st)
    (fun n x env st hx hI => by
      obtain ⟨v, y, rfl, pv, hs⟩ := hI
      obtain ⟨hn, rfl⟩ := rngL_get hx
      obtain ⟨v2, s2, e2, r2, p2⟩ := spoilt_ok (L := 8 + (0 + n)) (by omega) (by omega) 24 _ v st (by omega) (by omega) hs pv
      have e2' : f_law_spoilt [.loc p, v] st = .ok v2 s2 := e2
      have q1 := plan_ok (st := st) pv
      have q2 := law_plan_ok (st := st) pv (by omega)
      have q3 := isdeed_ok (st := st) (hP.mono (L' := 8 + (0 + n)) (n' := 3) (by omega) (by omega)) hb pv
      have q4 := law_deed_ok (st := st) (g := ws.length) pv (by omega)
      refine ⟨_, _, s2, rfl, .inl ?_, v2, some (.int (0 + (n : Int))), rfl, p2, r2.src⟩
      simp [kb3, q1, q2, q3, q4, ix_tup, e2']) ⟨v, x6, rfl, hv, h⟩
  exact ⟨v', y6, st', h1, hs⟩
def kb2 : DS := (sFor (iArg rng1D (aCons (eC (.int 5)) (aNil))) (.nm 6) kb3)
def kb1 : DS := (sSeq (sAsg (.nm 3) (eC2 f_law_source (aCons (eV 0) (aCons (eV 2) (aNil)))))
    (sSeq (sAsg (.nm 4) (eC2 f_law_plan (aCons (eV 3) (aCons (eC (.int 8)) (aNil)))))
    (sFor (iVal (eLst (aCons (eV 4) (aCons (eV 4) (aCons (eC2 f_law_deed (aCons (eV 3) (aCons (eC2 lenC (aCons (e2 ixD (eV 4) (eC (.int 0))) (aNil))) (aNil)))) (aCons (eV 1) (aNil))))))) (.nm 5) kb2)))
theorem pnP {ws ds : List D} (hw : wtsB ws = true) (l : ds.length ≤ 8) (hi : ∀ w ∈ ws, ∃ i : Int, w = .int i) (hp : ∀ d ∈ ds, Pn 3 1 d) : Pn 8 3 (.tup [.tup ws, .tup ds]) := by
  have hl : ws.length ≤ 4 := by unfold wtsB at hw; simp at hw; omega
  rw [pn_tup]
  refine ⟨by simp, fun x hx => ?_⟩
  simp at hx
  rcases hx with rfl | rfl
  · rw [pn_tup]
    exact ⟨by omega, fun w hw => by obtain ⟨i, rfl⟩ := hi w hw; exact pn_int⟩
  · rw [pn_tup]
    exact ⟨l, fun d hd => (hp d hd).mono (by omega) (by omega)⟩
def mostD : D := .tup [.tup [.int 9, .int 9, .int 9, .int 9], .tup (List.replicate 8 (.tup [.str "turn", .int 4, .int 20]))]
theorem pn_most : Pn 8 3 mostD := by simp [mostD, pn_tup, pn_int, pn_str ok_turn]
theorem row_ok {ns : List Int} {k : Nat} {st : Stt} {x2 x3 x4 x5 x6 x7 : Option D} : ∃ y3 y4 y5 y6 st', kb1 [some (.scr ns), some mostD, some (.int k), x3, x4, x5, x6, x7] st = .nx [some (.scr ns), some mostD, some (.int k), y3, y4, y5, y6, x7] st' := by
  obtain ⟨ob, e0, ho⟩ := src_ok (ns := ns) (k := k) (st := st)
  have hs : HasSrc st.length (st ++ [ob]) := ⟨ob, by simp, ho⟩
  generalize st ++ [ob] = st1 at e0 hs
  generalize st.length = p at e0 hs
  obtain ⟨ws, ds, s2, e2, r2, hw, hl, hd, hi, hp⟩ := plan_gen (m := 8) hs (by omega)
  have hP := pnP hw hl hi hp
  have hB : planB (.tup [.tup ws, .tup ds]) = true := by simp [planB, hw, hd]; omega
  have hg : (0 : Int) < ws.length ∧ (ws.length : Int) < 2 ^ 60 := by unfold wtsB at hw; simp at hw; omega
  obtain ⟨d, s3, e3, r3, hd3, p3⟩ := deed_gen (g := ws.length) r2.src hg.1 hg.2
  obtain ⟨env', s4, e4, v', y6, rfl, hs4⟩ := for_idx (t := .nm 5) (b := kb2) (I := fun n env st => ∃ v y, env = [some (.scr ns), some mostD, some (.int k), some (.loc p), some (.tup [.tup ws, .tup ds]), v, y, x7] ∧ HasSrc p st)
    (xs := [.tup [.tup ws, .tup ds], .tup [.tup ws, .tup ds], d, mostD]) (m := 0) (env := [some (.scr ns), some mostD, some (.int k), some (.loc p), some (.tup [.tup ws, .tup ds]), x5, x6, x7]) (st := s3)
    (fun n x env st hx hI => by
      obtain ⟨v, y, rfl, h⟩ := hI
      have hv : Pn 8 3 x := by
        have hm := List.mem_of_getElem? hx
        simp at hm
        rcases hm with rfl | rfl | rfl
        · exact hP
        · exact p3.mono (by omega) (by omega)
        · exact pn_most
      obtain ⟨v2, y2, s5, e5, h5⟩ := turns_ok (a0 := some (.scr ns)) (a1 := some mostD) (a2 := some (.int k)) (x6 := y) (x7 := x7) h hP hB hv
      exact ⟨_, _, s5, rfl, .inl e5, _, _, rfl, h5⟩) ⟨x5, x6, rfl, r3.src⟩
  refine ⟨some (.loc p), some (.tup [.tup ws, .tup ds]), v', y6, s4, ?_⟩
  have e2' : f_law_plan [.loc p, .int 8] st1 = .ok (.tup [.tup ws, .tup ds]) s2 := e2
  simp [kb1, e0, e2']
  rw [sFor_ok (xs := [.tup [.tup ws, .tup ds], .tup [.tup ws, .tup ds], d, mostD]) (st1 := s3) (by simp [ix_tup, e3]), e4]
theorem rows_ok {ns : List Int} {n : Nat} {st : Stt} : ∃ y2 y3 y4 y5 y6 st', forD (.nm 2) kb1 (rngL 0 n) [some (.scr ns), some mostD, none, none, none, none, none, none] st = .nx [some (.scr ns), some mostD, y2, y3, y4, y5, y6, none] st' := by
  obtain ⟨env', st', h1, y2, y3, y4, y5, y6, rfl⟩ := for_idx (t := .nm 2) (b := kb1) (I := fun n env st => ∃ y2 y3 y4 y5 y6, env = [some (.scr ns), some mostD, y2, y3, y4, y5, y6, none])
    (xs := rngL 0 n) (m := 0) (env := [some (.scr ns), some mostD, none, none, none, none, none, none]) (st := st)
    (fun k x env st hx hI => by
      obtain ⟨y2, y3, y4, y5, y6, rfl⟩ := hI
      obtain ⟨hn, rfl⟩ := rngL_get hx
      obtain ⟨z3, z4, z5, z6, s', e⟩ := row_ok (ns := ns) (k := k) (st := st) (x2 := none) (x3 := y3) (x4 := y4) (x5 := y5) (x6 := y6) (x7 := none)
      refine ⟨_, _, s', rfl, .inl ?_, some (.int k), z3, z4, z5, z6, rfl⟩
      rw [← e]
      simp) ⟨none, none, none, none, none, rfl⟩
  exact ⟨y2, y3, y4, y5, y6, st', h1⟩
theorem mul_tup {xs : List D} {k : Int} {st : Stt} (h : xs ≠ [] ∧ 2 ≤ k ∧ k ≤ 1000 ∧ xs.length ≤ 1000) : mulD (.tup xs) (.int k) st = .ok (.tup (List.replicate k.toNat xs).flatten) st := if_pos h
theorem law_body {ns : List Int} {st : Stt} (hn : ns.length ≤ 63) : ∃ st', b_law [some (.scr ns), none, none, none, none, none, none, none] st = .rt (.bl true) st' := by
  obtain ⟨n, hn1, hn2⟩ : ∃ n : Nat, (1 + if (10 : Int) < ns.length then 10 else (ns.length : Int)) = (n : Int) ∧ n ≤ 11 := by
    by_cases q : (10 : Int) < ns.length
    · exact ⟨11, by rw [if_pos q]; rfl, by omega⟩
    · exact ⟨1 + ns.length, by rw [if_neg q]; omega, by omega⟩
  have hr : ∀ st, rng1D [.int (n : Int)] st = .ok (rngL 0 n) st := fun st => rng1_ap (by omega)
  obtain ⟨y2, y3, y4, y5, y6, s1, e1⟩ := rows_ok (ns := ns) (n := n) (st := st)
  refine ⟨s1, ?_⟩
  have f1 := sFor_ok (it := (iArg rng1D (aCons (e2 addD (eC (.int 1)) (eC2 minC (aCons (eC2 lenC (aCons (eV 0) (aNil))) (aCons (eC (.int 10)) (aNil))))) (aNil)))) (t := .nm 2) (b := kb1) (env := [some (.scr ns), some mostD, none, none, none, none, none, none]) (st := st) (st1 := st) (xs := rngL 0 n) (by simp; rw [hn1]; exact hr st)
  rw [e1] at f1
  simp only [kb1, kb2, kb3] at f1
  have m1 : ∀ st, mulD (.tup [.int 9]) (.int 4) st = .ok (.tup [.int 9, .int 9, .int 9, .int 9]) st := fun st => mul_tup (by simp)
  have m2 : ∀ st, mulD (.tup [.tup [.str "turn", .int 4, .int 20]]) (.int 8) st = .ok (.tup (List.replicate 8 (.tup [.str "turn", .int 4, .int 20]))) st := fun st => mul_tup (by simp)
  have m3 : ∀ st, mulD (.tup [.int 1]) (.int 5) st = .ok (.tup [.int 1, .int 1, .int 1, .int 1, .int 1]) st := fun st => mul_tup (by simp)
  have m4 : ∀ st, mulD (.tup [.tup [.str "off"]]) (.int 9) st = .ok (.tup (List.replicate 9 (.tup [.str "off"]))) st := fun st => mul_tup (by simp)
  have hm : D.tup [.tup [.int 9, .int 9, .int 9, .int 9], .tup (List.replicate 8 (.tup [.str "turn", .int 4, .int 20]))] = mostD := rfl
  have p1 : ∀ st, f_is_plan [.tup [.tup [.int 10], .tup []]] st = .ok (.bl false) st := fun st => by
    rw [plan_ok (L := 9) (n := 3) (by simp [pn_tup, pn_int])]; simp [planB, wtsB, isI]
  have p2 : ∀ st, f_is_plan [.tup [.tup [.int 1, .int 1, .int 1, .int 1, .int 1], .tup []]] st = .ok (.bl false) st := fun st => by
    rw [plan_ok (L := 9) (n := 3) (by simp [pn_tup, pn_int])]; simp [planB, wtsB, isI]
  have p3 : ∀ st, f_is_plan [.tup [.tup [.int 1], .tup (List.replicate 9 (.tup [.str "off"]))]] st = .ok (.bl false) st := fun st => by
    rw [plan_ok (L := 9) (n := 3) (by simp [pn_tup, pn_int, pn_str ok_off])]; simp [planB, wtsB, isI]
  have p4 : ∀ st, f_is_plan [.tup [.tup [], .tup []]] st = .ok (.bl false) st := fun st => by
    rw [plan_ok (L := 9) (n := 3) (by simp [pn_tup, pn_int])]; simp [planB, wtsB, isI]
  have p5 : ∀ st, f_is_plan [mostD] st = .ok (.bl true) st := fun st => by
    rw [plan_ok pn_most]; simp [mostD, planB, wtsB, isI, deedB, turnB]
  have one : planB (.tup [.tup [.int 1, .int 1], .tup []]) = true := by simp [planB, wtsB, isI]
  have pone : Pn 9 3 (.tup [.tup [.int 1, .int 1], .tup []]) := by simp [pn_tup, pn_int]
  have dd : ∀ v st, Pn 9 3 v → f_is_deed [.tup [.tup [.int 1, .int 1], .tup []], v] st = .ok (.bl (deedB 2 v)) st := fun v st hv => isdeed_ok pone one hv
  obtain ⟨n1, n2, n3, n4, n5, n6, n7, n8, n9, n10⟩ := ne_ws
  have d1 : ∀ st, f_is_deed [.tup [.tup [.int 1, .int 1], .tup []], .tup [.str "turn", .int 0, .int 0]] st = .ok (.bl false) st := fun st => by rw [dd _ _ (by simp [pn_tup, pn_int, pn_str ok_turn])]; simp [deedB, turnB, isI]
  have d2 : ∀ st, f_is_deed [.tup [.tup [.int 1, .int 1], .tup []], .tup [.str "turn", .int 5, .int 0]] st = .ok (.bl false) st := fun st => by rw [dd _ _ (by simp [pn_tup, pn_int, pn_str ok_turn])]; simp [deedB, turnB, isI]
  have d3 : ∀ st, f_is_deed [.tup [.tup [.int 1, .int 1], .tup []], .tup [.str "turn", .int 1, .int (-6)]] st = .ok (.bl false) st := fun st => by rw [dd _ _ (by simp [pn_tup, pn_int, pn_str ok_turn])]; simp [deedB, turnB, isI]
  have d4 : ∀ st, f_is_deed [.tup [.tup [.int 1, .int 1], .tup []], .tup [.str "on", .int 2]] st = .ok (.bl false) st := fun st => by rw [dd _ _ (by simp [pn_tup, pn_int, pn_str ok_on])]; simp [deedB, onB, isI, n1]
  have d5 : ∀ st, f_is_deed [.tup [.tup [.int 1, .int 1], .tup []], .tup [.str "turn", .int 1, .int 21]] st = .ok (.bl false) st := fun st => by rw [dd _ _ (by simp [pn_tup, pn_int, pn_str ok_turn])]; simp [deedB, turnB, isI]
  have d6 : ∀ st, f_is_deed [.tup [.tup [.int 1, .int 1], .tup []], .tup [.str "off", .int 0]] st = .ok (.bl false) st := fun st => by rw [dd _ _ (by simp [pn_tup, pn_int, pn_str ok_off])]; simp [deedB, n2, n5, n6]
  have d7 : ∀ st, f_is_deed [.tup [.tup [.int 1, .int 1], .tup []], .tup [.str "turn", .int 4, .int (-5)]] st = .ok (.bl true) st := fun st => by rw [dd _ _ (by simp [pn_tup, pn_int, pn_str ok_turn])]; simp [deedB, turnB, isI]
  have d8 : ∀ st, f_is_deed [.tup [.tup [.int 1, .int 1], .tup []], .tup [.str "fetch", .int 1]] st = .ok (.bl true) st := fun st => by rw [dd _ _ (by simp [pn_tup, pn_int, pn_str ok_fetch])]; simp [deedB, onB, isI, n3]
  simp only [b_law]
  simp [m1, m2, m3, m4, -List.reduceReplicate]
  rw [hm, f1]
  simp [m1, m2, m3, m4, p1, p2, p3, p4, p5, d1, d2, d3, d4, d5, d6, d7, d8, -List.reduceReplicate]
theorem law_true : ∀ ns : List Int, ns.length ≤ 63 → f_law [.scr ns] [] = .ok (.bl true) [] := fun ns hn => by
  obtain ⟨st', e⟩ := law_body (st := []) hn
  rw [show f_law = fn0 1 8 gcF b_law from rfl, fn0_ap (by rfl)]
  simp only [List.map_cons, List.map_nil, List.cons_append, List.nil_append, List.replicate]
  rw [e]
  simp [gcF, frz, bel]
end DL
set_option maxHeartbeats 4000000
/-! each def's body does what its denotation says -/
namespace DL
open PySem PySem.Spec PyProof.Rows L2
def topS (i : Nat) : Stmt := PySem.Challenge.pw_topwheel_k01_values_recognized.main.body.getD i (.Pass ⟨0, 0, 0, 0⟩)
structure Tx (K : PySem.W.Frag) (mg : Str → Option Value) : Prop where
  b_abs : mg "abs" = none
  b_all : mg "all" = none
  b_bool : mg "bool" = none
  b_int : mg "int" = none
  b_isinstance : mg "isinstance" = none
  b_len : mg "len" = none
  b_list : mg "list" = none
  b_min : mg "min" = none
  b_range : mg "range" = none
  b_str : mg "str" = none
  b_tuple : mg "tuple" = none

section
variable {P : Program} {w : World} {K : PySem.W.Frag} {mg : Str → Option Value} {base : Heap}
abbrev s_is_number : Stmt := topS 4
theorem sc_is_number : FnScope ["value", "least", "most"] ["value", "least", "most"] (defScope s_is_number) := ⟨rfl, rfl, rfl, by decide +kernel, rfl, by decide +kernel, by decide +kernel⟩
theorem okf_is_number {f : Addr} {fd : FuncData} (T : Tx K mg) (F : FunD K "is_number" "is_number" (defArgs s_is_number) (defBody s_is_number) (defScope s_is_number) [] [] f fd)  : FnOk P w K mg base CX0 1 f fd ["value", "least", "most"] (spD K mg 3 f_is_number) := by
  show FnOk P w K mg base CX0 1 f fd _ (spD K mg 3 (fn0 3 3 gcN b_is_number))
  refine okD0 (k := 0) (np := 3) (nn := 3) (g := gcN) (b := b_is_number) F sc_is_number (by decide) (by decide) gcN_ok ?_
  intro cdv A outer s H E hr
  have hu := hu65 hr
  have hpo := PassesOwn.never (M := model P w) (A := A.deeper (envOfC "is_number" (defScope s_is_number) s.heap.objs.size f cdv)) (env := envOfC "is_number" (defScope s_is_number) s.heap.objs.size f cdv)
  have hlv : ∀ j, j ≤ 0 → j ≤ 0 := fun j h => h
  exact pdb_one (pds_ret (pd_and (pd_callB call_isi snd_isi rfl T.b_isinstance PyProof.Rows.boot_isinstance (pda_cons (pd_v 0) (pda_cons (pd_ty rfl T.b_int PyProof.Rows.boot_int) (pda_nil)))) (pd_and (pd_not (pd_callB call_isi snd_isi rfl T.b_isinstance PyProof.Rows.boot_isinstance (pda_cons (pd_v 0) (pda_cons (pd_ty rfl T.b_bool PyProof.Rows.boot_bool) (pda_nil))))) (pd_one (pd_chain (pd_v 1) (pd_v 0) (pd_v 2))))))
theorem ok_is_number (T : Tx K mg) (F : FnAt K mg "is_number" s_is_number)  : Df P w K mg base CX0 1 "is_number" 3 f_is_number := by
  obtain ⟨f, fd, F, gm⟩ := F
  exact ⟨f, fd, ["value", "least", "most"], gm, F.kp, F.bindsN (fun _ _ _ _ _ _ us hl => match us, hl with | [_, _, _], _ => rfl), okf_is_number T F ⟩
abbrev s_is_tuple : Stmt := topS 5
theorem sc_is_tuple : FnScope ["value", "least", "most"] ["value", "least", "most"] (defScope s_is_tuple) := ⟨rfl, rfl, rfl, by decide +kernel, rfl, by decide +kernel, by decide +kernel⟩
theorem okf_is_tuple {f : Addr} {fd : FuncData} (T : Tx K mg) (F : FunD K "is_tuple" "is_tuple" (defArgs s_is_tuple) (defBody s_is_tuple) (defScope s_is_tuple) [] [] f fd)  : FnOk P w K mg base CX0 1 f fd ["value", "least", "most"] (spD K mg 3 f_is_tuple) := by
  show FnOk P w K mg base CX0 1 f fd _ (spD K mg 3 (fn0 3 3 gcN b_is_tuple))
  refine okD0 (k := 0) (np := 3) (nn := 3) (g := gcN) (b := b_is_tuple) F sc_is_tuple (by decide) (by decide) gcN_ok ?_
  intro cdv A outer s H E hr
  have hu := hu65 hr
  have hpo := PassesOwn.never (M := model P w) (A := A.deeper (envOfC "is_tuple" (defScope s_is_tuple) s.heap.objs.size f cdv)) (env := envOfC "is_tuple" (defScope s_is_tuple) s.heap.objs.size f cdv)
  have hlv : ∀ j, j ≤ 0 → j ≤ 0 := fun j h => h
  exact pdb_one (pds_ret (pd_and (pd_callB call_isi snd_isi rfl T.b_isinstance PyProof.Rows.boot_isinstance (pda_cons (pd_v 0) (pda_cons (pd_ty rfl T.b_tuple PyProof.Rows.boot_tuple) (pda_nil)))) (pd_one (pd_chain (pd_v 1) (pd_callB call_lenA snd_len rfl T.b_len PySem.boot_len (pda_cons (pd_v 0) (pda_nil))) (pd_v 2)))))
theorem ok_is_tuple (T : Tx K mg) (F : FnAt K mg "is_tuple" s_is_tuple)  : Df P w K mg base CX0 1 "is_tuple" 3 f_is_tuple := by
  obtain ⟨f, fd, F, gm⟩ := F
  exact ⟨f, fd, ["value", "least", "most"], gm, F.kp, F.bindsN (fun _ _ _ _ _ _ us hl => match us, hl with | [_, _, _], _ => rfl), okf_is_tuple T F ⟩
abbrev s_is_word : Stmt := topS 6
theorem sc_is_word : FnScope ["value", "words"] ["value", "words"] (defScope s_is_word) := ⟨rfl, rfl, rfl, by decide +kernel, rfl, by decide +kernel, by decide +kernel⟩
theorem okf_is_word {f : Addr} {fd : FuncData} (T : Tx K mg) (F : FunD K "is_word" "is_word" (defArgs s_is_word) (defBody s_is_word) (defScope s_is_word) [] [] f fd)  : FnOk P w K mg base CX0 1 f fd ["value", "words"] (spD K mg 2 f_is_word) := by
  show FnOk P w K mg base CX0 1 f fd _ (spD K mg 2 (fn0 2 2 gcN b_is_word))
  refine okD0 (k := 0) (np := 2) (nn := 2) (g := gcN) (b := b_is_word) F sc_is_word (by decide) (by decide) gcN_ok ?_
  intro cdv A outer s H E hr
  have hu := hu65 hr
  have hpo := PassesOwn.never (M := model P w) (A := A.deeper (envOfC "is_word" (defScope s_is_word) s.heap.objs.size f cdv)) (env := envOfC "is_word" (defScope s_is_word) s.heap.objs.size f cdv)
  have hlv : ∀ j, j ≤ 0 → j ≤ 0 := fun j h => h
  exact pdb_one (pds_ret (pd_and (pd_callB call_isi snd_isi rfl T.b_isinstance PyProof.Rows.boot_isinstance (pda_cons (pd_v 0) (pda_cons (pd_ty rfl T.b_str PyProof.Rows.boot_str) (pda_nil)))) (pd_one (pd_in hu (pd_v 0) (pd_v 1)))))
theorem ok_is_word (T : Tx K mg) (F : FnAt K mg "is_word" s_is_word)  : Df P w K mg base CX0 1 "is_word" 2 f_is_word := by
  obtain ⟨f, fd, F, gm⟩ := F
  exact ⟨f, fd, ["value", "words"], gm, F.kp, F.bindsN (fun _ _ _ _ _ _ us hl => match us, hl with | [_, _], _ => rfl), okf_is_word T F ⟩
abbrev s_is_turn : Stmt := topS 7
theorem sc_is_turn : FnScope ["value"] ["value"] (defScope s_is_turn) := ⟨rfl, rfl, rfl, by decide +kernel, rfl, by decide +kernel, by decide +kernel⟩
theorem okf_is_turn {f : Addr} {fd : FuncData} (T : Tx K mg) (F : FunD K "is_turn" "is_turn" (defArgs s_is_turn) (defBody s_is_turn) (defScope s_is_turn) [] [] f fd) (h_is_number : Df P w K mg base CX0 1 "is_number" 3 f_is_number) : FnOk P w K mg base CX0 2 f fd ["value"] (spD K mg 1 f_is_turn) := by
  show FnOk P w K mg base CX0 2 f fd _ (spD K mg 1 (fn0 1 1 gcN b_is_turn))
  refine okD0 (k := 1) (np := 1) (nn := 1) (g := gcN) (b := b_is_turn) F sc_is_turn (by decide) (by decide) gcN_ok ?_
  intro cdv A outer s H E hr
  have hu := hu65 hr
  have hpo := PassesOwn.never (M := model P w) (A := A.deeper (envOfC "is_turn" (defScope s_is_turn) s.heap.objs.size f cdv)) (env := envOfC "is_turn" (defScope s_is_turn) s.heap.objs.size f cdv)
  have hlv : ∀ j, j ≤ 1 → j ≤ 1 := fun j h => h
  exact pdb_cons (pds_if (PDW.t (pdw_or (pdt_ne hu (pd_callB call_lenA snd_len rfl T.b_len PySem.boot_len (pda_cons (pd_v 0) (pda_nil))) (pd_int)) (pdw_or (pdt_not (pdt_val (pd_call h_is_number (hr.mono (hlv _ (by decide))) fn0_noexc fn0_len (pda_cons (pd_ix hu (pd_v 0) (pd_int)) (pda_cons (pd_int) (pda_cons (pd_int) (pda_nil))))))) (pdw_or1 (pdt_not (pdt_val (pd_call h_is_number (hr.mono (hlv _ (by decide))) fn0_noexc fn0_len (pda_cons (pd_ix hu (pd_v 0) (pd_int)) (pda_cons (pd_neg (pd_int)) (pda_cons (pd_int) (pda_nil))))))))))) (pdb_one (pds_ret (pd_bl))) (pdb_nil))
      (pdb_one (pds_ret (pd_or (pd_gt (pd_ix hu (pd_v 0) (pd_int)) (pd_int)) (pd_one (pd_gt (pd_ix hu (pd_v 0) (pd_int)) (pd_int))))))
theorem ok_is_turn (T : Tx K mg) (F : FnAt K mg "is_turn" s_is_turn) (h_is_number : Df P w K mg base CX0 1 "is_number" 3 f_is_number) : Df P w K mg base CX0 2 "is_turn" 1 f_is_turn := by
  obtain ⟨f, fd, F, gm⟩ := F
  exact ⟨f, fd, ["value"], gm, F.kp, F.bindsN (fun _ _ _ _ _ _ us hl => match us, hl with | [_], _ => rfl), okf_is_turn T F h_is_number⟩
abbrev s_is_deed_of : Stmt := topS 8
theorem sc_is_deed_of : FnScope ["groups", "value"] ["groups", "value"] (defScope s_is_deed_of) := ⟨rfl, rfl, rfl, by decide +kernel, rfl, by decide +kernel, by decide +kernel⟩
theorem okf_is_deed_of {f : Addr} {fd : FuncData} (T : Tx K mg) (F : FunD K "is_deed_of" "is_deed_of" (defArgs s_is_deed_of) (defBody s_is_deed_of) (defScope s_is_deed_of) [] [] f fd) (h_is_word : Df P w K mg base CX0 1 "is_word" 2 f_is_word) (h_is_tuple : Df P w K mg base CX0 1 "is_tuple" 3 f_is_tuple) (h_is_turn : Df P w K mg base CX0 2 "is_turn" 1 f_is_turn) (h_is_number : Df P w K mg base CX0 1 "is_number" 3 f_is_number) : FnOk P w K mg base CX0 3 f fd ["groups", "value"] (spD K mg 2 f_is_deed_of) := by
  show FnOk P w K mg base CX0 3 f fd _ (spD K mg 2 (fn0 2 2 gcN b_is_deed_of))
  refine okD0 (k := 2) (np := 2) (nn := 2) (g := gcN) (b := b_is_deed_of) F sc_is_deed_of (by decide) (by decide) gcN_ok ?_
  intro cdv A outer s H E hr
  have hu := hu65 hr
  have hpo := PassesOwn.never (M := model P w) (A := A.deeper (envOfC "is_deed_of" (defScope s_is_deed_of) s.heap.objs.size f cdv)) (env := envOfC "is_deed_of" (defScope s_is_deed_of) s.heap.objs.size f cdv)
  have hlv : ∀ j, j ≤ 2 → j ≤ 2 := fun j h => h
  exact pdb_cons (pds_if (pdt_not (pdt_val (pd_call h_is_tuple (hr.mono (hlv _ (by decide))) fn0_noexc fn0_len (pda_cons (pd_v 1) (pda_cons (pd_int) (pda_cons (pd_int) (pda_nil))))))) (pdb_one (pds_ret (pd_bl))) (pdb_nil))
      (pdb_cons (pds_if (pdt_val (pd_call h_is_word (hr.mono (hlv _ (by decide))) fn0_noexc fn0_len (pda_cons (pd_ix hu (pd_v 1) (pd_int)) (pda_cons (pd_tup (pda_cons (pd_str) (pda_nil))) (pda_nil))))) (pdb_one (pds_ret (pd_call h_is_turn (hr.mono (hlv _ (by decide))) fn0_noexc fn0_len (pda_cons (pd_v 1) (pda_nil))))) (pdb_nil))
      (pdb_cons (pds_if (pdt_val (pd_call h_is_word (hr.mono (hlv _ (by decide))) fn0_noexc fn0_len (pda_cons (pd_ix hu (pd_v 1) (pd_int)) (pda_cons (pd_tup (pda_cons (pd_str) (pda_cons (pd_str) (pda_nil)))) (pda_nil))))) (pdb_one (pds_ret (pd_and (pd_eq hu (pd_callB call_lenA snd_len rfl T.b_len PySem.boot_len (pda_cons (pd_v 1) (pda_nil))) (pd_int)) (pd_one (pd_call h_is_number (hr.mono (hlv _ (by decide))) fn0_noexc fn0_len (pda_cons (pd_ix hu (pd_v 1) (pd_int)) (pda_cons (pd_int) (pda_cons (pd_sub (pd_v 0) (pd_int)) (pda_nil))))))))) (pdb_nil))
      (pdb_one (pds_ret (pd_and (pd_call h_is_word (hr.mono (hlv _ (by decide))) fn0_noexc fn0_len (pda_cons (pd_ix hu (pd_v 1) (pd_int)) (pda_cons (pd_tup (pda_cons (pd_str) (pda_cons (pd_str) (pda_nil)))) (pda_nil)))) (pd_one (pd_eq hu (pd_callB call_lenA snd_len rfl T.b_len PySem.boot_len (pda_cons (pd_v 1) (pda_nil))) (pd_int))))))))
theorem ok_is_deed_of (T : Tx K mg) (F : FnAt K mg "is_deed_of" s_is_deed_of) (h_is_word : Df P w K mg base CX0 1 "is_word" 2 f_is_word) (h_is_tuple : Df P w K mg base CX0 1 "is_tuple" 3 f_is_tuple) (h_is_turn : Df P w K mg base CX0 2 "is_turn" 1 f_is_turn) (h_is_number : Df P w K mg base CX0 1 "is_number" 3 f_is_number) : Df P w K mg base CX0 3 "is_deed_of" 2 f_is_deed_of := by
  obtain ⟨f, fd, F, gm⟩ := F
  exact ⟨f, fd, ["groups", "value"], gm, F.kp, F.bindsN (fun _ _ _ _ _ _ us hl => match us, hl with | [_, _], _ => rfl), okf_is_deed_of T F h_is_word h_is_tuple h_is_turn h_is_number⟩
abbrev s_are_weights : Stmt := topS 9
theorem sc_are_weights : FnScope ["value", "weight"] ["value"] (defScope s_are_weights) := ⟨rfl, rfl, rfl, by decide +kernel, rfl, by decide +kernel, by decide +kernel⟩
theorem okf_are_weights {f : Addr} {fd : FuncData} (T : Tx K mg) (F : FunD K "are_weights" "are_weights" (defArgs s_are_weights) (defBody s_are_weights) (defScope s_are_weights) [] [] f fd) (h_is_tuple : Df P w K mg base CX0 1 "is_tuple" 3 f_is_tuple) (h_is_number : Df P w K mg base CX0 1 "is_number" 3 f_is_number) : FnOk P w K mg base CX0 2 f fd ["value"] (spD K mg 1 f_are_weights) := by
  show FnOk P w K mg base CX0 2 f fd _ (spD K mg 1 (fn0 1 2 gcN b_are_weights))
  refine okD0 (k := 1) (np := 1) (nn := 2) (g := gcN) (b := b_are_weights) F sc_are_weights (by decide) (by decide) gcN_ok ?_
  intro cdv A outer s H E hr
  have hu := hu65 hr
  have hpo := PassesOwn.never (M := model P w) (A := A.deeper (envOfC "are_weights" (defScope s_are_weights) s.heap.objs.size f cdv)) (env := envOfC "are_weights" (defScope s_are_weights) s.heap.objs.size f cdv)
  have hlv : ∀ j, j ≤ 1 → j ≤ 1 := fun j h => h
  exact pdb_one (pds_ret (pd_and (pd_call h_is_tuple (hr.mono (hlv _ (by decide))) fn0_noexc fn0_len (pda_cons (pd_v 0) (pda_cons (pd_int) (pda_cons (pd_int) (pda_nil))))) (pd_one (pd_callB (cr_all rfl) snd_all rfl T.b_all PyProof.Rows.boot_all (pda_cons (pd_lc (own := [("weight", 1)]) rfl sc_are_weights.nd (pdi_val (pd_v 0)) (blkOk_by (show blkC ["value", "weight"] (defScope s_are_weights) _ _ = true from by decide +kernel)) (fun _ _ _ _ _ => pdg_n 1 sc_are_weights.nd) (fun _ _ _ _ _ => pdts_nil) (fun _ _ _ _ _ => pd_call h_is_number (hr.mono (hlv _ (by decide))) fn0_noexc fn0_len (pda_cons (pd_v 1) (pda_cons (pd_int) (pda_cons (pd_int) (pda_nil)))))) (pda_nil))))))
theorem ok_are_weights (T : Tx K mg) (F : FnAt K mg "are_weights" s_are_weights) (h_is_tuple : Df P w K mg base CX0 1 "is_tuple" 3 f_is_tuple) (h_is_number : Df P w K mg base CX0 1 "is_number" 3 f_is_number) : Df P w K mg base CX0 2 "are_weights" 1 f_are_weights := by
  obtain ⟨f, fd, F, gm⟩ := F
  exact ⟨f, fd, ["value"], gm, F.kp, F.bindsN (fun _ _ _ _ _ _ us hl => match us, hl with | [_], _ => rfl), okf_are_weights T F h_is_tuple h_is_number⟩
abbrev s_is_good_plan : Stmt := topS 10
theorem sc_is_good_plan : FnScope ["value", "deed"] ["value"] (defScope s_is_good_plan) := ⟨rfl, rfl, rfl, by decide +kernel, rfl, by decide +kernel, by decide +kernel⟩
theorem okf_is_good_plan {f : Addr} {fd : FuncData} (T : Tx K mg) (F : FunD K "is_good_plan" "is_good_plan" (defArgs s_is_good_plan) (defBody s_is_good_plan) (defScope s_is_good_plan) [] [] f fd) (h_is_tuple : Df P w K mg base CX0 1 "is_tuple" 3 f_is_tuple) (h_are_weights : Df P w K mg base CX0 2 "are_weights" 1 f_are_weights) (h_is_deed_of : Df P w K mg base CX0 3 "is_deed_of" 2 f_is_deed_of) : FnOk P w K mg base CX0 4 f fd ["value"] (spD K mg 1 f_is_good_plan) := by
  show FnOk P w K mg base CX0 4 f fd _ (spD K mg 1 (fn0 1 2 gcN b_is_good_plan))
  refine okD0 (k := 3) (np := 1) (nn := 2) (g := gcN) (b := b_is_good_plan) F sc_is_good_plan (by decide) (by decide) gcN_ok ?_
  intro cdv A outer s H E hr
  have hu := hu65 hr
  have hpo := PassesOwn.never (M := model P w) (A := A.deeper (envOfC "is_good_plan" (defScope s_is_good_plan) s.heap.objs.size f cdv)) (env := envOfC "is_good_plan" (defScope s_is_good_plan) s.heap.objs.size f cdv)
  have hlv : ∀ j, j ≤ 3 → j ≤ 3 := fun j h => h
  exact pdb_cons (pds_if (PDW.t (pdw_or (pdt_not (pdt_val (pd_call h_is_tuple (hr.mono (hlv _ (by decide))) fn0_noexc fn0_len (pda_cons (pd_v 0) (pda_cons (pd_int) (pda_cons (pd_int) (pda_nil))))))) (pdw_or (pdt_not (pdt_val (pd_call h_are_weights (hr.mono (hlv _ (by decide))) fn0_noexc fn0_len (pda_cons (pd_ix hu (pd_v 0) (pd_int)) (pda_nil))))) (pdw_or1 (pdt_not (pdt_val (pd_call h_is_tuple (hr.mono (hlv _ (by decide))) fn0_noexc fn0_len (pda_cons (pd_ix hu (pd_v 0) (pd_int)) (pda_cons (pd_int) (pda_cons (pd_int) (pda_nil))))))))))) (pdb_one (pds_ret (pd_bl))) (pdb_nil))
      (pdb_one (pds_ret (pd_callB (cr_all rfl) snd_all rfl T.b_all PyProof.Rows.boot_all (pda_cons (pd_lc (own := [("deed", 1)]) rfl sc_is_good_plan.nd (pdi_val (pd_ix hu (pd_v 0) (pd_int))) (blkOk_by (show blkC ["value", "deed"] (defScope s_is_good_plan) _ _ = true from by decide +kernel)) (fun _ _ _ _ _ => pdg_n 1 sc_is_good_plan.nd) (fun _ _ _ _ _ => pdts_nil) (fun _ _ _ _ _ => pd_call h_is_deed_of (hr.mono (hlv _ (by decide))) fn0_noexc fn0_len (pda_cons (pd_callB call_lenA snd_len rfl T.b_len PySem.boot_len (pda_cons (pd_ix hu (pd_v 0) (pd_int)) (pda_nil))) (pda_cons (pd_v 1) (pda_nil))))) (pda_nil)))))
theorem ok_is_good_plan (T : Tx K mg) (F : FnAt K mg "is_good_plan" s_is_good_plan) (h_is_tuple : Df P w K mg base CX0 1 "is_tuple" 3 f_is_tuple) (h_are_weights : Df P w K mg base CX0 2 "are_weights" 1 f_are_weights) (h_is_deed_of : Df P w K mg base CX0 3 "is_deed_of" 2 f_is_deed_of) : Df P w K mg base CX0 4 "is_good_plan" 1 f_is_good_plan := by
  obtain ⟨f, fd, F, gm⟩ := F
  exact ⟨f, fd, ["value"], gm, F.kp, F.bindsN (fun _ _ _ _ _ _ us hl => match us, hl with | [_], _ => rfl), okf_is_good_plan T F h_is_tuple h_are_weights h_is_deed_of⟩
abbrev s_need_plan : Stmt := topS 11
theorem sc_need_plan : FnScope ["value"] ["value"] (defScope s_need_plan) := ⟨rfl, rfl, rfl, by decide +kernel, rfl, by decide +kernel, by decide +kernel⟩
theorem okf_need_plan {f : Addr} {fd : FuncData} (T : Tx K mg) (F : FunD K "need_plan" "need_plan" (defArgs s_need_plan) (defBody s_need_plan) (defScope s_need_plan) [] [] f fd) (h_is_good_plan : Df P w K mg base CX0 4 "is_good_plan" 1 f_is_good_plan) : FnOk P w K mg base CX0 5 f fd ["value"] (spD K mg 1 f_need_plan) := by
  show FnOk P w K mg base CX0 5 f fd _ (spD K mg 1 (fn0 1 1 gcN b_need_plan))
  refine okD0 (k := 4) (np := 1) (nn := 1) (g := gcN) (b := b_need_plan) F sc_need_plan (by decide) (by decide) gcN_ok ?_
  intro cdv A outer s H E hr
  have hu := hu65 hr
  have hpo := PassesOwn.never (M := model P w) (A := A.deeper (envOfC "need_plan" (defScope s_need_plan) s.heap.objs.size f cdv)) (env := envOfC "need_plan" (defScope s_need_plan) s.heap.objs.size f cdv)
  have hlv : ∀ j, j ≤ 4 → j ≤ 4 := fun j h => h
  exact pdb_one (pds_if (pdt_not (pdt_val (pd_call h_is_good_plan (hr.mono (hlv _ (by decide))) fn0_noexc fn0_len (pda_cons (pd_v 0) (pda_nil))))) (pdb_one (pds_never)) (pdb_nil))
theorem ok_need_plan (T : Tx K mg) (F : FnAt K mg "need_plan" s_need_plan) (h_is_good_plan : Df P w K mg base CX0 4 "is_good_plan" 1 f_is_good_plan) : Df P w K mg base CX0 5 "need_plan" 1 f_need_plan := by
  obtain ⟨f, fd, F, gm⟩ := F
  exact ⟨f, fd, ["value"], gm, F.kp, F.bindsN (fun _ _ _ _ _ _ us hl => match us, hl with | [_], _ => rfl), okf_need_plan T F h_is_good_plan⟩
abbrev s_is_plan : Stmt := topS 12
theorem sc_is_plan : FnScope ["value"] ["value"] (defScope s_is_plan) := ⟨rfl, rfl, rfl, by decide +kernel, rfl, by decide +kernel, by decide +kernel⟩
theorem okf_is_plan {f : Addr} {fd : FuncData} (T : Tx K mg) (F : FunD K "is_plan" "is_plan" (defArgs s_is_plan) (defBody s_is_plan) (defScope s_is_plan) [] [] f fd) (h_is_good_plan : Df P w K mg base CX0 4 "is_good_plan" 1 f_is_good_plan) : FnOk P w K mg base CX0 5 f fd ["value"] (spD K mg 1 f_is_plan) := by
  show FnOk P w K mg base CX0 5 f fd _ (spD K mg 1 (fn0 1 1 gcN b_is_plan))
  refine okD0 (k := 4) (np := 1) (nn := 1) (g := gcN) (b := b_is_plan) F sc_is_plan (by decide) (by decide) gcN_ok ?_
  intro cdv A outer s H E hr
  have hu := hu65 hr
  have hpo := PassesOwn.never (M := model P w) (A := A.deeper (envOfC "is_plan" (defScope s_is_plan) s.heap.objs.size f cdv)) (env := envOfC "is_plan" (defScope s_is_plan) s.heap.objs.size f cdv)
  have hlv : ∀ j, j ≤ 4 → j ≤ 4 := fun j h => h
  exact pdb_one (pds_ret (pd_call h_is_good_plan (hr.mono (hlv _ (by decide))) fn0_noexc fn0_len (pda_cons (pd_v 0) (pda_nil))))
theorem ok_is_plan (T : Tx K mg) (F : FnAt K mg "is_plan" s_is_plan) (h_is_good_plan : Df P w K mg base CX0 4 "is_good_plan" 1 f_is_good_plan) : Df P w K mg base CX0 5 "is_plan" 1 f_is_plan := by
  obtain ⟨f, fd, F, gm⟩ := F
  exact ⟨f, fd, ["value"], gm, F.kp, F.bindsN (fun _ _ _ _ _ _ us hl => match us, hl with | [_], _ => rfl), okf_is_plan T F h_is_good_plan⟩
abbrev s_is_deed : Stmt := topS 13
theorem sc_is_deed : FnScope ["plan", "value"] ["plan", "value"] (defScope s_is_deed) := ⟨rfl, rfl, rfl, by decide +kernel, rfl, by decide +kernel, by decide +kernel⟩
theorem okf_is_deed {f : Addr} {fd : FuncData} (T : Tx K mg) (F : FunD K "is_deed" "is_deed" (defArgs s_is_deed) (defBody s_is_deed) (defScope s_is_deed) [] [] f fd) (h_need_plan : Df P w K mg base CX0 5 "need_plan" 1 f_need_plan) (h_is_deed_of : Df P w K mg base CX0 3 "is_deed_of" 2 f_is_deed_of) : FnOk P w K mg base CX0 6 f fd ["plan", "value"] (spD K mg 2 f_is_deed) := by
  show FnOk P w K mg base CX0 6 f fd _ (spD K mg 2 (fn0 2 2 gcN b_is_deed))
  refine okD0 (k := 5) (np := 2) (nn := 2) (g := gcN) (b := b_is_deed) F sc_is_deed (by decide) (by decide) gcN_ok ?_
  intro cdv A outer s H E hr
  have hu := hu65 hr
  have hpo := PassesOwn.never (M := model P w) (A := A.deeper (envOfC "is_deed" (defScope s_is_deed) s.heap.objs.size f cdv)) (env := envOfC "is_deed" (defScope s_is_deed) s.heap.objs.size f cdv)
  have hlv : ∀ j, j ≤ 5 → j ≤ 5 := fun j h => h
  exact pdb_cons (pds_expr (pd_call h_need_plan (hr.mono (hlv _ (by decide))) fn0_noexc fn0_len (pda_cons (pd_v 0) (pda_nil))))
      (pdb_one (pds_ret (pd_call h_is_deed_of (hr.mono (hlv _ (by decide))) fn0_noexc fn0_len (pda_cons (pd_callB call_lenA snd_len rfl T.b_len PySem.boot_len (pda_cons (pd_ix hu (pd_v 0) (pd_int)) (pda_nil))) (pda_cons (pd_v 1) (pda_nil))))))
theorem ok_is_deed (T : Tx K mg) (F : FnAt K mg "is_deed" s_is_deed) (h_need_plan : Df P w K mg base CX0 5 "need_plan" 1 f_need_plan) (h_is_deed_of : Df P w K mg base CX0 3 "is_deed_of" 2 f_is_deed_of) : Df P w K mg base CX0 6 "is_deed" 2 f_is_deed := by
  obtain ⟨f, fd, F, gm⟩ := F
  exact ⟨f, fd, ["plan", "value"], gm, F.kp, F.bindsN (fun _ _ _ _ _ _ us hl => match us, hl with | [_, _], _ => rfl), okf_is_deed T F h_need_plan h_is_deed_of⟩
abbrev s_law_source : Stmt := topS 15
theorem sc_law_source : FnScope ["_law_script", "_law_k", "_law_cell"] ["_law_script", "_law_k"] (defScope s_law_source) := ⟨rfl, rfl, rfl, by decide +kernel, rfl, by decide +kernel, by decide +kernel⟩
theorem okf_law_source {f : Addr} {fd : FuncData} (T : Tx K mg) (F : FunD K "_law_source" "_law_source" (defArgs s_law_source) (defBody s_law_source) (defScope s_law_source) [] [] f fd)  : FnOk P w K mg base CX0 1 f fd ["_law_script", "_law_k"] (spD K mg 2 f_law_source) := by
  show FnOk P w K mg base CX0 1 f fd _ (spD K mg 2 (fn0 2 3 gcN b_law_source))
  refine okD0 (k := 0) (np := 2) (nn := 3) (g := gcN) (b := b_law_source) F sc_law_source (by decide) (by decide) gcN_ok ?_
  intro cdv A outer s H E hr
  have hu := hu65 hr
  have hpo := PassesOwn.never (M := model P w) (A := A.deeper (envOfC "_law_source" (defScope s_law_source) s.heap.objs.size f cdv)) (env := envOfC "_law_source" (defScope s_law_source) s.heap.objs.size f cdv)
  have hlv : ∀ j, j ≤ 0 → j ≤ 0 := fun j h => h
  exact pdb_cons (pds_set (i := 2) sc_law_source.nd (pd_int))
      (pdb_cons (pds_if (pdt_lt (pd_v 1) (pd_callB call_lenA snd_len rfl T.b_len PySem.boot_len (pda_cons (pd_v 0) (pda_nil)))) (pdb_one (pds_set (i := 2) sc_law_source.nd (pd_callB call_abs snd_abs rfl T.b_abs PyProof.Rows.boot_abs (pda_cons (pd_callT call_int1 snd_int rfl T.b_int PyProof.Rows.boot_int (pda_cons (pd_ix hu (pd_v 0) (pd_v 1)) (pda_nil))) (pda_nil))))) (pdb_nil))
      (pdb_cons (pds_if (pdt_lt (pd_v 2) (pd_pow (pd_int) (pd_int))) (pdb_one (pds_ret (pd_lstM (pda_cons (pd_int) (pda_cons (pd_add (pd_int) (pd_mod (pd_callT call_int1 snd_int rfl T.b_int PyProof.Rows.boot_int (pda_cons (pd_add (pd_mul (pd_v 2) (pd_int)) (pd_mul (pd_int) (pd_v 1))) (pda_nil))) (pd_int))) (pda_nil)))))) (pdb_nil))
      (pdb_one (pds_ret (pd_lstM (pda_cons (pd_v 2) (pda_cons (pd_add (pd_int) (pd_mod (pd_callT call_int1 snd_int rfl T.b_int PyProof.Rows.boot_int (pda_cons (pd_add (pd_v 2) (pd_v 1)) (pda_nil))) (pd_int))) (pda_nil))))))))
theorem ok_law_source (T : Tx K mg) (F : FnAt K mg "_law_source" s_law_source)  : Df P w K mg base CX0 1 "_law_source" 2 f_law_source := by
  obtain ⟨f, fd, F, gm⟩ := F
  exact ⟨f, fd, ["_law_script", "_law_k"], gm, F.kp, F.bindsN (fun _ _ _ _ _ _ us hl => match us, hl with | [_, _], _ => rfl), okf_law_source T F ⟩
abbrev s_law_draw : Stmt := topS 16
theorem sc_law_draw : FnScope ["_law_source_here", "_law_many", "_law_found"] ["_law_source_here", "_law_many"] (defScope s_law_draw) := ⟨rfl, rfl, rfl, by decide +kernel, rfl, by decide +kernel, by decide +kernel⟩
theorem okf_law_draw {f : Addr} {fd : FuncData} (T : Tx K mg) (F : FunD K "_law_draw" "_law_draw" (defArgs s_law_draw) (defBody s_law_draw) (defScope s_law_draw) [] [] f fd)  : FnOk P w K mg base CX0 1 f fd ["_law_source_here", "_law_many"] (spD K mg 2 f_law_draw) := by
  show FnOk P w K mg base CX0 1 f fd _ (spD K mg 2 (fn0 2 3 gcN b_law_draw))
  refine okD0 (k := 0) (np := 2) (nn := 3) (g := gcN) (b := b_law_draw) F sc_law_draw (by decide) (by decide) gcN_ok ?_
  intro cdv A outer s H E hr
  have hu := hu65 hr
  have hpo := PassesOwn.never (M := model P w) (A := A.deeper (envOfC "_law_draw" (defScope s_law_draw) s.heap.objs.size f cdv)) (env := envOfC "_law_draw" (defScope s_law_draw) s.heap.objs.size f cdv)
  have hlv : ∀ j, j ≤ 0 → j ≤ 0 := fun j h => h
  exact pdb_cons (pds_if (pdt_gt (pd_ix hu (pd_v 0) (pd_int)) (pd_int)) (pdb_cons (pds_set (i := 2) sc_law_draw.nd (pd_mod (pd_callT call_int1 snd_int rfl T.b_int PyProof.Rows.boot_int (pda_cons (pd_ix hu (pd_v 0) (pd_int)) (pda_nil))) (pd_v 1)))
      (pdb_cons (pds_put hu (pd_v 0) (pd_int) (pd_div (pd_ix hu (pd_v 0) (pd_int)) (pd_v 1)))
      (pdb_one (pds_ret (pd_v 2))))) (pdb_nil))
      (pdb_cons (pds_put hu (pd_v 0) (pd_int) (pd_mod (pd_callT call_int1 snd_int rfl T.b_int PyProof.Rows.boot_int (pda_cons (pd_mul (pd_ix hu (pd_v 0) (pd_int)) (pd_int)) (pda_nil))) (pd_int)))
      (pdb_one (pds_ret (pd_mod (pd_callT call_int1 snd_int rfl T.b_int PyProof.Rows.boot_int (pda_cons (pd_div (pd_mod (pd_callT call_int1 snd_int rfl T.b_int PyProof.Rows.boot_int (pda_cons (pd_mul (pd_ix hu (pd_v 0) (pd_int)) (pd_ix hu (pd_v 0) (pd_int))) (pda_nil))) (pd_int)) (pd_int)) (pda_nil))) (pd_v 1)))))
theorem ok_law_draw (T : Tx K mg) (F : FnAt K mg "_law_draw" s_law_draw)  : Df P w K mg base CX0 1 "_law_draw" 2 f_law_draw := by
  obtain ⟨f, fd, F, gm⟩ := F
  exact ⟨f, fd, ["_law_source_here", "_law_many"], gm, F.kp, F.bindsN (fun _ _ _ _ _ _ us hl => match us, hl with | [_, _], _ => rfl), okf_law_draw T F ⟩
abbrev s_law_of : Stmt := topS 17
theorem sc_law_of : FnScope ["_law_source_here", "_law_items"] ["_law_source_here", "_law_items"] (defScope s_law_of) := ⟨rfl, rfl, rfl, by decide +kernel, rfl, by decide +kernel, by decide +kernel⟩
theorem okf_law_of {f : Addr} {fd : FuncData} (T : Tx K mg) (F : FunD K "_law_of" "_law_of" (defArgs s_law_of) (defBody s_law_of) (defScope s_law_of) [] [] f fd) (h_law_draw : Df P w K mg base CX0 1 "_law_draw" 2 f_law_draw) : FnOk P w K mg base CX0 2 f fd ["_law_source_here", "_law_items"] (spD K mg 2 f_law_of) := by
  show FnOk P w K mg base CX0 2 f fd _ (spD K mg 2 (fn0 2 2 gcN b_law_of))
  refine okD0 (k := 1) (np := 2) (nn := 2) (g := gcN) (b := b_law_of) F sc_law_of (by decide) (by decide) gcN_ok ?_
  intro cdv A outer s H E hr
  have hu := hu65 hr
  have hpo := PassesOwn.never (M := model P w) (A := A.deeper (envOfC "_law_of" (defScope s_law_of) s.heap.objs.size f cdv)) (env := envOfC "_law_of" (defScope s_law_of) s.heap.objs.size f cdv)
  have hlv : ∀ j, j ≤ 1 → j ≤ 1 := fun j h => h
  exact pdb_one (pds_ret (pd_ix hu (pd_v 1) (pd_call h_law_draw (hr.mono (hlv _ (by decide))) fn0_noexc fn0_len (pda_cons (pd_v 0) (pda_cons (pd_callB call_lenA snd_len rfl T.b_len PySem.boot_len (pda_cons (pd_v 1) (pda_nil))) (pda_nil))))))
theorem ok_law_of (T : Tx K mg) (F : FnAt K mg "_law_of" s_law_of) (h_law_draw : Df P w K mg base CX0 1 "_law_draw" 2 f_law_draw) : Df P w K mg base CX0 2 "_law_of" 2 f_law_of := by
  obtain ⟨f, fd, F, gm⟩ := F
  exact ⟨f, fd, ["_law_source_here", "_law_items"], gm, F.kp, F.bindsN (fun _ _ _ _ _ _ us hl => match us, hl with | [_, _], _ => rfl), okf_law_of T F h_law_draw⟩
abbrev s_law_deed : Stmt := topS 18
theorem sc_law_deed : FnScope ["_law_source_here", "_law_groups", "_law_word", "_law_halves", "_law_more"] ["_law_source_here", "_law_groups"] (defScope s_law_deed) := ⟨rfl, rfl, rfl, by decide +kernel, rfl, by decide +kernel, by decide +kernel⟩
theorem okf_law_deed {f : Addr} {fd : FuncData} (T : Tx K mg) (F : FunD K "_law_deed" "_law_deed" (defArgs s_law_deed) (defBody s_law_deed) (defScope s_law_deed) [] [] f fd) (h_law_of : Df P w K mg base CX0 2 "_law_of" 2 f_law_of) (h_law_draw : Df P w K mg base CX0 1 "_law_draw" 2 f_law_draw) : FnOk P w K mg base CX0 3 f fd ["_law_source_here", "_law_groups"] (spD K mg 2 f_law_deed) := by
  show FnOk P w K mg base CX0 3 f fd _ (spD K mg 2 (fn0 2 5 gcN b_law_deed))
  refine okD0 (k := 2) (np := 2) (nn := 5) (g := gcN) (b := b_law_deed) F sc_law_deed (by decide) (by decide) gcN_ok ?_
  intro cdv A outer s H E hr
  have hu := hu65 hr
  have hpo := PassesOwn.never (M := model P w) (A := A.deeper (envOfC "_law_deed" (defScope s_law_deed) s.heap.objs.size f cdv)) (env := envOfC "_law_deed" (defScope s_law_deed) s.heap.objs.size f cdv)
  have hlv : ∀ j, j ≤ 2 → j ≤ 2 := fun j h => h
  exact pdb_cons (pds_set (i := 2) sc_law_deed.nd (pd_call h_law_of (hr.mono (hlv _ (by decide))) fn0_noexc fn0_len (pda_cons (pd_v 0) (pda_cons (pd_lst (pda_cons (pd_str) (pda_cons (pd_str) (pda_cons (pd_str) (pda_cons (pd_str) (pda_cons (pd_str) (pda_cons (pd_str) (pda_cons (pd_str) (pda_cons (pd_str) (pda_nil)))))))))) (pda_nil)))))
      (pdb_cons (pds_if (pdt_eq hu (pd_v 2) (pd_str)) (pdb_cons (pds_par2 (i := 3) (j := 4) rfl sc_law_deed.nd (pda_cons (pd_call h_law_of (hr.mono (hlv _ (by decide))) fn0_noexc fn0_len (pda_cons (pd_v 0) (pda_cons (pd_lst (pda_cons (pd_int) (pda_cons (pd_int) (pda_cons (pd_int) (pda_cons (pd_int) (pda_cons (pd_int) (pda_cons (pd_int) (pda_cons (pd_int) (pda_nil))))))))) (pda_nil)))) (pda_cons (pd_sub (pd_call h_law_draw (hr.mono (hlv _ (by decide))) fn0_noexc fn0_len (pda_cons (pd_v 0) (pda_cons (pd_int) (pda_nil)))) (pd_int)) (pda_nil))))
      (pdb_cons (pds_if (PDW.t (pdw_and (pdt_eq hu (pd_v 3) (pd_int)) (pdw_and1 (pdt_lt (pd_v 4) (pd_int))))) (pdb_one (pds_set (i := 4) sc_law_deed.nd (pd_add (pd_int) (pd_call h_law_draw (hr.mono (hlv _ (by decide))) fn0_noexc fn0_len (pda_cons (pd_v 0) (pda_cons (pd_int) (pda_nil))))))) (pdb_nil))
      (pdb_one (pds_ret (pd_tup (pda_cons (pd_v 2) (pda_cons (pd_v 3) (pda_cons (pd_v 4) (pda_nil))))))))) (pdb_nil))
      (pdb_cons (pds_if (pdt_in hu (pd_v 2) (pd_tup (pda_cons (pd_str) (pda_cons (pd_str) (pda_nil))))) (pdb_one (pds_ret (pd_tup (pda_cons (pd_v 2) (pda_cons (pd_call h_law_draw (hr.mono (hlv _ (by decide))) fn0_noexc fn0_len (pda_cons (pd_v 0) (pda_cons (pd_v 1) (pda_nil)))) (pda_nil)))))) (pdb_nil))
      (pdb_one (pds_ret (pd_tup (pda_cons (pd_v 2) (pda_nil)))))))
theorem ok_law_deed (T : Tx K mg) (F : FnAt K mg "_law_deed" s_law_deed) (h_law_of : Df P w K mg base CX0 2 "_law_of" 2 f_law_of) (h_law_draw : Df P w K mg base CX0 1 "_law_draw" 2 f_law_draw) : Df P w K mg base CX0 3 "_law_deed" 2 f_law_deed := by
  obtain ⟨f, fd, F, gm⟩ := F
  exact ⟨f, fd, ["_law_source_here", "_law_groups"], gm, F.kp, F.bindsN (fun _ _ _ _ _ _ us hl => match us, hl with | [_, _], _ => rfl), okf_law_deed T F h_law_of h_law_draw⟩
abbrev s_law_plan : Stmt := topS 19
theorem sc_law_plan : FnScope ["_law_source_here", "_law_most", "_law_weights", "_law_deeds", "_law_turn", "_law_deed_here", "_law_group"] ["_law_source_here", "_law_most"] (defScope s_law_plan) := ⟨rfl, rfl, rfl, by decide +kernel, rfl, by decide +kernel, by decide +kernel⟩
theorem okf_law_plan {f : Addr} {fd : FuncData} (T : Tx K mg) (F : FunD K "_law_plan" "_law_plan" (defArgs s_law_plan) (defBody s_law_plan) (defScope s_law_plan) [] [] f fd) (h_law_draw : Df P w K mg base CX0 1 "_law_draw" 2 f_law_draw) (h_law_deed : Df P w K mg base CX0 3 "_law_deed" 2 f_law_deed) : FnOk P w K mg base CX0 4 f fd ["_law_source_here", "_law_most"] (spD K mg 2 f_law_plan) := by
  show FnOk P w K mg base CX0 4 f fd _ (spD K mg 2 (fn0 2 7 gcN b_law_plan))
  refine okD0 (k := 3) (np := 2) (nn := 7) (g := gcN) (b := b_law_plan) F sc_law_plan (by decide) (by decide) gcN_ok ?_
  intro cdv A outer s H E hr
  have hu := hu65 hr
  have hpo := PassesOwn.never (M := model P w) (A := A.deeper (envOfC "_law_plan" (defScope s_law_plan) s.heap.objs.size f cdv)) (env := envOfC "_law_plan" (defScope s_law_plan) s.heap.objs.size f cdv)
  have hlv : ∀ j, j ≤ 3 → j ≤ 3 := fun j h => h
  exact pdb_cons (pds_set (i := 2) sc_law_plan.nd (pd_callT call_tuple_of snd_tuple rfl T.b_tuple PyProof.Rows.boot_tuple (pda_cons (pd_lc (own := [("_law_group", 6)]) rfl sc_law_plan.nd (pdi_rng1 rfl T.b_range (pda_cons (pd_add (pd_int) (pd_call h_law_draw (hr.mono (hlv _ (by decide))) fn0_noexc fn0_len (pda_cons (pd_v 0) (pda_cons (pd_int) (pda_nil))))) (pda_nil))) (blkOk_by (show blkC ["_law_source_here", "_law_most", "_law_weights", "_law_deeds", "_law_turn", "_law_deed_here", "_law_group"] (defScope s_law_plan) _ _ = true from by decide +kernel)) (fun _ _ _ _ _ => pdg_n 6 sc_law_plan.nd) (fun _ _ _ _ _ => pdts_nil) (fun _ _ _ _ _ => pd_add (pd_int) (pd_call h_law_draw (hr.mono (hlv _ (by decide))) fn0_noexc fn0_len (pda_cons (pd_v 0) (pda_cons (pd_int) (pda_nil)))))) (pda_nil))))
      (pdb_cons (pds_set (i := 3) sc_law_plan.nd (pd_tup (pda_nil)))
      (pdb_cons (pds_for hpo rfl (pdi_rng1 rfl T.b_range (pda_cons (pd_call h_law_draw (hr.mono (hlv _ (by decide))) fn0_noexc fn0_len (pda_cons (pd_v 0) (pda_cons (pd_add (pd_v 1) (pd_int)) (pda_nil)))) (pda_nil))) (pdg_n 4 sc_law_plan.nd) (pdb_cons (pds_set (i := 5) sc_law_plan.nd (pd_call h_law_deed (hr.mono (hlv _ (by decide))) fn0_noexc fn0_len (pda_cons (pd_v 0) (pda_cons (pd_callB call_lenA snd_len rfl T.b_len PySem.boot_len (pda_cons (pd_v 2) (pda_nil))) (pda_nil)))))
      (pdb_cons (pds_if (PDW.t (pdw_and (pdt_eq hu (pd_v 4) (pd_int)) (pdw_and1 (pdt_gt (pd_call h_law_draw (hr.mono (hlv _ (by decide))) fn0_noexc fn0_len (pda_cons (pd_v 0) (pda_cons (pd_int) (pda_nil)))) (pd_int))))) (pdb_one (pds_set (i := 5) sc_law_plan.nd (pd_tup (pda_cons (pd_str) (pda_cons (pd_int) (pda_nil)))))) (pdb_nil))
      (pdb_one (pds_set (i := 3) sc_law_plan.nd (pd_add (pd_v 3) (pd_tup (pda_cons (pd_v 5) (pda_nil)))))))))
      (pdb_one (pds_ret (pd_tup (pda_cons (pd_v 2) (pda_cons (pd_v 3) (pda_nil))))))))
theorem ok_law_plan (T : Tx K mg) (F : FnAt K mg "_law_plan" s_law_plan) (h_law_draw : Df P w K mg base CX0 1 "_law_draw" 2 f_law_draw) (h_law_deed : Df P w K mg base CX0 3 "_law_deed" 2 f_law_deed) : Df P w K mg base CX0 4 "_law_plan" 2 f_law_plan := by
  obtain ⟨f, fd, F, gm⟩ := F
  exact ⟨f, fd, ["_law_source_here", "_law_most"], gm, F.kp, F.bindsN (fun _ _ _ _ _ _ us hl => match us, hl with | [_, _], _ => rfl), okf_law_plan T F h_law_draw h_law_deed⟩
abbrev s_law_is_int : Stmt := topS 20
theorem sc_law_is_int : FnScope ["_law_value", "_law_least", "_law_top"] ["_law_value", "_law_least", "_law_top"] (defScope s_law_is_int) := ⟨rfl, rfl, rfl, by decide +kernel, rfl, by decide +kernel, by decide +kernel⟩
theorem okf_law_is_int {f : Addr} {fd : FuncData} (T : Tx K mg) (F : FunD K "_law_is_int" "_law_is_int" (defArgs s_law_is_int) (defBody s_law_is_int) (defScope s_law_is_int) [] [] f fd)  : FnOk P w K mg base CX0 1 f fd ["_law_value", "_law_least", "_law_top"] (spD K mg 3 f_law_is_int) := by
  show FnOk P w K mg base CX0 1 f fd _ (spD K mg 3 (fn0 3 3 gcN b_law_is_int))
  refine okD0 (k := 0) (np := 3) (nn := 3) (g := gcN) (b := b_law_is_int) F sc_law_is_int (by decide) (by decide) gcN_ok ?_
  intro cdv A outer s H E hr
  have hu := hu65 hr
  have hpo := PassesOwn.never (M := model P w) (A := A.deeper (envOfC "_law_is_int" (defScope s_law_is_int) s.heap.objs.size f cdv)) (env := envOfC "_law_is_int" (defScope s_law_is_int) s.heap.objs.size f cdv)
  have hlv : ∀ j, j ≤ 0 → j ≤ 0 := fun j h => h
  exact pdb_one (pds_ret (pd_and (pd_callB call_isi snd_isi rfl T.b_isinstance PyProof.Rows.boot_isinstance (pda_cons (pd_v 0) (pda_cons (pd_ty rfl T.b_int PyProof.Rows.boot_int) (pda_nil)))) (pd_and (pd_not (pd_callB call_isi snd_isi rfl T.b_isinstance PyProof.Rows.boot_isinstance (pda_cons (pd_v 0) (pda_cons (pd_ty rfl T.b_bool PyProof.Rows.boot_bool) (pda_nil))))) (pd_one (pd_chain (pd_v 1) (pd_v 0) (pd_v 2))))))
theorem ok_law_is_int (T : Tx K mg) (F : FnAt K mg "_law_is_int" s_law_is_int)  : Df P w K mg base CX0 1 "_law_is_int" 3 f_law_is_int := by
  obtain ⟨f, fd, F, gm⟩ := F
  exact ⟨f, fd, ["_law_value", "_law_least", "_law_top"], gm, F.kp, F.bindsN (fun _ _ _ _ _ _ us hl => match us, hl with | [_, _, _], _ => rfl), okf_law_is_int T F ⟩
abbrev s_law_is_deed : Stmt := topS 21
theorem sc_law_is_deed : FnScope ["_law_groups", "_law_value"] ["_law_groups", "_law_value"] (defScope s_law_is_deed) := ⟨rfl, rfl, rfl, by decide +kernel, rfl, by decide +kernel, by decide +kernel⟩
theorem okf_law_is_deed {f : Addr} {fd : FuncData} (T : Tx K mg) (F : FunD K "_law_is_deed" "_law_is_deed" (defArgs s_law_is_deed) (defBody s_law_is_deed) (defScope s_law_is_deed) [] [] f fd) (h_law_is_int : Df P w K mg base CX0 1 "_law_is_int" 3 f_law_is_int) : FnOk P w K mg base CX0 2 f fd ["_law_groups", "_law_value"] (spD K mg 2 f_law_is_deed) := by
  show FnOk P w K mg base CX0 2 f fd _ (spD K mg 2 (fn0 2 2 gcN b_law_is_deed))
  refine okD0 (k := 1) (np := 2) (nn := 2) (g := gcN) (b := b_law_is_deed) F sc_law_is_deed (by decide) (by decide) gcN_ok ?_
  intro cdv A outer s H E hr
  have hu := hu65 hr
  have hpo := PassesOwn.never (M := model P w) (A := A.deeper (envOfC "_law_is_deed" (defScope s_law_is_deed) s.heap.objs.size f cdv)) (env := envOfC "_law_is_deed" (defScope s_law_is_deed) s.heap.objs.size f cdv)
  have hlv : ∀ j, j ≤ 1 → j ≤ 1 := fun j h => h
  exact pdb_cons (pds_if (PDW.t (pdw_or (pdt_not (pdt_val (pd_callB call_isi snd_isi rfl T.b_isinstance PyProof.Rows.boot_isinstance (pda_cons (pd_v 1) (pda_cons (pd_ty rfl T.b_tuple PyProof.Rows.boot_tuple) (pda_nil)))))) (pdw_or (pdt_eq hu (pd_v 1) (pd_tup (pda_nil))) (pdw_or1 (pdt_not (pdt_val (pd_callB call_isi snd_isi rfl T.b_isinstance PyProof.Rows.boot_isinstance (pda_cons (pd_ix hu (pd_v 1) (pd_int)) (pda_cons (pd_ty rfl T.b_str PyProof.Rows.boot_str) (pda_nil)))))))))) (pdb_one (pds_ret (pd_bl))) (pdb_nil))
      (pdb_cons (pds_if (pdt_eq hu (pd_ix hu (pd_v 1) (pd_int)) (pd_str)) (pdb_cons (pds_if (PDW.t (pdw_or (pdt_ne hu (pd_callB call_lenA snd_len rfl T.b_len PySem.boot_len (pda_cons (pd_v 1) (pda_nil))) (pd_int)) (pdw_or1 (pdt_not (pdt_val (pd_call h_law_is_int (hr.mono (hlv _ (by decide))) fn0_noexc fn0_len (pda_cons (pd_ix hu (pd_v 1) (pd_int)) (pda_cons (pd_int) (pda_cons (pd_int) (pda_nil)))))))))) (pdb_one (pds_ret (pd_bl))) (pdb_nil))
      (pdb_one (pds_ret (pd_and (pd_call h_law_is_int (hr.mono (hlv _ (by decide))) fn0_noexc fn0_len (pda_cons (pd_ix hu (pd_v 1) (pd_int)) (pda_cons (pd_neg (pd_int)) (pda_cons (pd_int) (pda_nil))))) (pd_one (pd_or (pd_gt (pd_ix hu (pd_v 1) (pd_int)) (pd_int)) (pd_one (pd_gt (pd_ix hu (pd_v 1) (pd_int)) (pd_int))))))))) (pdb_nil))
      (pdb_cons (pds_if (pdt_in hu (pd_ix hu (pd_v 1) (pd_int)) (pd_tup (pda_cons (pd_str) (pda_cons (pd_str) (pda_nil))))) (pdb_one (pds_ret (pd_and (pd_eq hu (pd_callB call_lenA snd_len rfl T.b_len PySem.boot_len (pda_cons (pd_v 1) (pda_nil))) (pd_int)) (pd_one (pd_call h_law_is_int (hr.mono (hlv _ (by decide))) fn0_noexc fn0_len (pda_cons (pd_ix hu (pd_v 1) (pd_int)) (pda_cons (pd_int) (pda_cons (pd_sub (pd_v 0) (pd_int)) (pda_nil))))))))) (pdb_nil))
      (pdb_one (pds_ret (pd_in hu (pd_v 1) (pd_tup (pda_cons (pd_tup (pda_cons (pd_str) (pda_nil))) (pda_cons (pd_tup (pda_cons (pd_str) (pda_nil))) (pda_nil)))))))))
theorem ok_law_is_deed (T : Tx K mg) (F : FnAt K mg "_law_is_deed" s_law_is_deed) (h_law_is_int : Df P w K mg base CX0 1 "_law_is_int" 3 f_law_is_int) : Df P w K mg base CX0 2 "_law_is_deed" 2 f_law_is_deed := by
  obtain ⟨f, fd, F, gm⟩ := F
  exact ⟨f, fd, ["_law_groups", "_law_value"], gm, F.kp, F.bindsN (fun _ _ _ _ _ _ us hl => match us, hl with | [_, _], _ => rfl), okf_law_is_deed T F h_law_is_int⟩
abbrev s_law_is_plan : Stmt := topS 22
theorem sc_law_is_plan : FnScope ["_law_value", "_law_weight", "_law_deed_here"] ["_law_value"] (defScope s_law_is_plan) := ⟨rfl, rfl, rfl, by decide +kernel, rfl, by decide +kernel, by decide +kernel⟩
theorem okf_law_is_plan {f : Addr} {fd : FuncData} (T : Tx K mg) (F : FunD K "_law_is_plan" "_law_is_plan" (defArgs s_law_is_plan) (defBody s_law_is_plan) (defScope s_law_is_plan) [] [] f fd) (h_law_is_int : Df P w K mg base CX0 1 "_law_is_int" 3 f_law_is_int) (h_law_is_deed : Df P w K mg base CX0 2 "_law_is_deed" 2 f_law_is_deed) : FnOk P w K mg base CX0 3 f fd ["_law_value"] (spD K mg 1 f_law_is_plan) := by
  show FnOk P w K mg base CX0 3 f fd _ (spD K mg 1 (fn0 1 3 gcN b_law_is_plan))
  refine okD0 (k := 2) (np := 1) (nn := 3) (g := gcN) (b := b_law_is_plan) F sc_law_is_plan (by decide) (by decide) gcN_ok ?_
  intro cdv A outer s H E hr
  have hu := hu65 hr
  have hpo := PassesOwn.never (M := model P w) (A := A.deeper (envOfC "_law_is_plan" (defScope s_law_is_plan) s.heap.objs.size f cdv)) (env := envOfC "_law_is_plan" (defScope s_law_is_plan) s.heap.objs.size f cdv)
  have hlv : ∀ j, j ≤ 2 → j ≤ 2 := fun j h => h
  exact pdb_cons (pds_if (PDW.t (pdw_or (pdt_not (pdt_val (pd_callB call_isi snd_isi rfl T.b_isinstance PyProof.Rows.boot_isinstance (pda_cons (pd_v 0) (pda_cons (pd_ty rfl T.b_tuple PyProof.Rows.boot_tuple) (pda_nil)))))) (pdw_or (pdt_ne hu (pd_callB call_lenA snd_len rfl T.b_len PySem.boot_len (pda_cons (pd_v 0) (pda_nil))) (pd_int)) (pdw_or1 (pdt_not (pdt_val (pd_callB call_isi snd_isi rfl T.b_isinstance PyProof.Rows.boot_isinstance (pda_cons (pd_ix hu (pd_v 0) (pd_int)) (pda_cons (pd_ty rfl T.b_tuple PyProof.Rows.boot_tuple) (pda_nil)))))))))) (pdb_one (pds_ret (pd_bl))) (pdb_nil))
      (pdb_cons (pds_if (PDW.t (pdw_or (pdt_not (pdt_chain (pd_int) (pd_callB call_lenA snd_len rfl T.b_len PySem.boot_len (pda_cons (pd_ix hu (pd_v 0) (pd_int)) (pda_nil))) (pd_int))) (pdw_or (pdt_not (pdt_val (pd_callB call_isi snd_isi rfl T.b_isinstance PyProof.Rows.boot_isinstance (pda_cons (pd_ix hu (pd_v 0) (pd_int)) (pda_cons (pd_ty rfl T.b_tuple PyProof.Rows.boot_tuple) (pda_nil)))))) (pdw_or1 (pdt_gt (pd_callB call_lenA snd_len rfl T.b_len PySem.boot_len (pda_cons (pd_ix hu (pd_v 0) (pd_int)) (pda_nil))) (pd_int)))))) (pdb_one (pds_ret (pd_bl))) (pdb_nil))
      (pdb_cons (pds_if (pdt_ne hu (pd_lc (own := [("_law_weight", 1)]) rfl sc_law_is_plan.nd (pdi_val (pd_ix hu (pd_v 0) (pd_int))) (blkOk_by (show blkC ["_law_value", "_law_weight", "_law_deed_here"] (defScope s_law_is_plan) _ _ = true from by decide +kernel)) (fun _ _ _ _ _ => pdg_n 1 sc_law_is_plan.nd) (fun _ _ _ _ _ => pdts_one (pdt_not (pdt_val (pd_call h_law_is_int (hr.mono (hlv _ (by decide))) fn0_noexc fn0_len (pda_cons (pd_v 1) (pda_cons (pd_int) (pda_cons (pd_int) (pda_nil)))))))) (fun _ _ _ _ _ => pd_v 1)) (pd_lst (pda_nil))) (pdb_one (pds_ret (pd_bl))) (pdb_nil))
      (pdb_one (pds_ret (pd_eq hu (pd_lc (own := [("_law_deed_here", 2)]) rfl sc_law_is_plan.nd (pdi_val (pd_ix hu (pd_v 0) (pd_int))) (blkOk_by (show blkC ["_law_value", "_law_weight", "_law_deed_here"] (defScope s_law_is_plan) _ _ = true from by decide +kernel)) (fun _ _ _ _ _ => pdg_n 2 sc_law_is_plan.nd) (fun _ _ _ _ _ => pdts_one (pdt_not (pdt_val (pd_call h_law_is_deed (hr.mono (hlv _ (by decide))) fn0_noexc fn0_len (pda_cons (pd_callB call_lenA snd_len rfl T.b_len PySem.boot_len (pda_cons (pd_ix hu (pd_v 0) (pd_int)) (pda_nil))) (pda_cons (pd_v 2) (pda_nil))))))) (fun _ _ _ _ _ => pd_v 2)) (pd_lst (pda_nil)))))))
theorem ok_law_is_plan (T : Tx K mg) (F : FnAt K mg "_law_is_plan" s_law_is_plan) (h_law_is_int : Df P w K mg base CX0 1 "_law_is_int" 3 f_law_is_int) (h_law_is_deed : Df P w K mg base CX0 2 "_law_is_deed" 2 f_law_is_deed) : Df P w K mg base CX0 3 "_law_is_plan" 1 f_law_is_plan := by
  obtain ⟨f, fd, F, gm⟩ := F
  exact ⟨f, fd, ["_law_value"], gm, F.kp, F.bindsN (fun _ _ _ _ _ _ us hl => match us, hl with | [_], _ => rfl), okf_law_is_plan T F h_law_is_int h_law_is_deed⟩
abbrev s_law_odd : Stmt := topS 23
theorem sc_law_odd : FnScope ["_law_source_here", "_law_items"] ["_law_source_here"] (defScope s_law_odd) := ⟨rfl, rfl, rfl, by decide +kernel, rfl, by decide +kernel, by decide +kernel⟩
theorem okf_law_odd {f : Addr} {fd : FuncData} (T : Tx K mg) (F : FunD K "_law_odd" "_law_odd" (defArgs s_law_odd) (defBody s_law_odd) (defScope s_law_odd) [] [] f fd) (h_law_of : Df P w K mg base CX0 2 "_law_of" 2 f_law_of) : FnOk P w K mg base CX0 3 f fd ["_law_source_here"] (spD K mg 1 f_law_odd) := by
  show FnOk P w K mg base CX0 3 f fd _ (spD K mg 1 (fn0 1 2 gcN b_law_odd))
  refine okD0 (k := 2) (np := 1) (nn := 2) (g := gcN) (b := b_law_odd) F sc_law_odd (by decide) (by decide) gcN_ok ?_
  intro cdv A outer s H E hr
  have hu := hu65 hr
  have hpo := PassesOwn.never (M := model P w) (A := A.deeper (envOfC "_law_odd" (defScope s_law_odd) s.heap.objs.size f cdv)) (env := envOfC "_law_odd" (defScope s_law_odd) s.heap.objs.size f cdv)
  have hlv : ∀ j, j ≤ 2 → j ≤ 2 := fun j h => h
  exact pdb_cons (pds_set (i := 1) sc_law_odd.nd (pd_lst (pda_cons (pd_non) (pda_cons (pd_bl) (pda_cons (pd_bl) (pda_cons (pd_int) (pda_cons (pd_int) (pda_cons (pd_int) (pda_cons (pd_int) (pda_cons (pd_int) (pda_cons (pd_int) (pda_cons (pd_int) (pda_cons (pd_int) (pda_cons (pd_int) (pda_cons (pd_neg (pd_int)) (pda_cons (pd_neg (pd_int)) (pda_cons (pd_neg (pd_int)) (pda_cons (pd_str) (pda_cons (pd_str) (pda_cons (pd_str) (pda_cons (pd_str) (pda_cons (pd_str) (pda_cons (pd_tup (pda_nil)) (pda_nil))))))))))))))))))))))))
      (pdb_one (pds_ret (pd_call h_law_of (hr.mono (hlv _ (by decide))) fn0_noexc fn0_len (pda_cons (pd_v 0) (pda_cons (pd_add (pd_v 1) (pd_lst (pda_cons (pd_lst (pda_nil)) (pda_cons (pd_tup (pda_cons (pd_str) (pda_nil))) (pda_cons (pd_tup (pda_cons (pd_str) (pda_cons (pd_int) (pda_nil)))) (pda_cons (pd_tup (pda_cons (pd_str) (pda_cons (pd_int) (pda_cons (pd_int) (pda_nil))))) (pda_cons (pd_lst (pda_cons (pd_str) (pda_nil))) (pda_cons (pd_tup (pda_cons (pd_str) (pda_cons (pd_int) (pda_nil)))) (pda_nil))))))))) (pda_nil))))))
theorem ok_law_odd (T : Tx K mg) (F : FnAt K mg "_law_odd" s_law_odd) (h_law_of : Df P w K mg base CX0 2 "_law_of" 2 f_law_of) : Df P w K mg base CX0 3 "_law_odd" 1 f_law_odd := by
  obtain ⟨f, fd, F, gm⟩ := F
  exact ⟨f, fd, ["_law_source_here"], gm, F.kp, F.bindsN (fun _ _ _ _ _ _ us hl => match us, hl with | [_], _ => rfl), okf_law_odd T F h_law_of⟩
abbrev s_law_spoilt : Stmt := topS 24
theorem sc_law_spoilt : FnScope ["_law_source_here", "_law_value", "_law_at", "_law_mode"] ["_law_source_here", "_law_value"] (defScope s_law_spoilt) := ⟨rfl, rfl, rfl, by decide +kernel, rfl, by decide +kernel, by decide +kernel⟩
theorem oks_law_spoilt (T : Tx K mg) (F : FnAt K mg "_law_spoilt" s_law_spoilt) (h_law_odd : Df P w K mg base CX0 3 "_law_odd" 1 f_law_odd) (h_law_draw : Df P w K mg base CX0 1 "_law_draw" 2 f_law_draw) : ∀ n, Df P w K mg base CX0 (4 + n) "_law_spoilt" 2 (fs_law_spoilt n)
  | 0 => by
    obtain ⟨f, fd, F, gm⟩ := F
    refine ⟨f, fd, ["_law_source_here", "_law_value"], gm, F.kp, F.bindsN (fun _ _ _ _ _ _ us hl => match us, hl with | [_, _], _ => rfl), ⟨fun vs H Q E h => h.1, fun A outer s H args us vs Q E _ _ _ _ h => ?_⟩⟩
    obtain ⟨_, _, _, _, _, _, z⟩ := h
    exact z.elim
  | n + 1 => by
    have h_law_spoilt := oks_law_spoilt T F h_law_odd h_law_draw n
    obtain ⟨f, fd, F, gm⟩ := F
    refine ⟨f, fd, ["_law_source_here", "_law_value"], gm, F.kp, F.bindsN (fun _ _ _ _ _ _ us hl => match us, hl with | [_, _], _ => rfl), ?_⟩
    show FnOk P w K mg base CX0 (4 + n + 1) f fd _ (spD K mg 2 (fn0 2 4 gcN (b_law_spoilt (fs_law_spoilt n))))
    refine okD0 (k := 4 + n) (np := 2) (nn := 4) (g := gcN) (b := b_law_spoilt (fs_law_spoilt n)) F sc_law_spoilt (by decide) (by decide) gcN_ok ?_
    intro cdv A outer s H E hr
    have hu := hu65 hr
    have hpo := PassesOwn.never (M := model P w) (A := A.deeper (envOfC "_law_spoilt" (defScope s_law_spoilt) s.heap.objs.size f cdv)) (env := envOfC "_law_spoilt" (defScope s_law_spoilt) s.heap.objs.size f cdv)
    have hlv : ∀ j, j ≤ 3 → j ≤ 4 + n := fun j h => Nat.le_trans (Nat.le_succ_of_le h) (Nat.le_add_right _ _)
    have hself1 : ∀ ds st y st', fs_law_spoilt n ds st ≠ .exc y st' := match n with
      | 0 => fun ds st y st' h => nomatch h
      | _ + 1 => fn0_noexc
    have hself2 : ∀ ds st, ds.length ≠ 2 → fs_law_spoilt n ds st = .stuck := match n with
      | 0 => fun ds st _ => rfl
      | _ + 1 => fn0_len
    exact pdb_cons (pds_if (PDW.t (pdw_or (pdt_not (pdt_val (pd_callB call_isi snd_isi rfl T.b_isinstance PyProof.Rows.boot_isinstance (pda_cons (pd_v 1) (pda_cons (pd_ty rfl T.b_tuple PyProof.Rows.boot_tuple) (pda_nil)))))) (pdw_or (pdt_eq hu (pd_v 1) (pd_tup (pda_nil))) (pdw_or1 (pdt_eq hu (pd_call h_law_draw (hr.mono (hlv _ (by decide))) fn0_noexc fn0_len (pda_cons (pd_v 0) (pda_cons (pd_int) (pda_nil)))) (pd_int)))))) (pdb_one (pds_ret (pd_call h_law_odd (hr.mono (hlv _ (by decide))) fn0_noexc fn0_len (pda_cons (pd_v 0) (pda_nil))))) (pdb_nil))
      (pdb_cons (pds_par2 (i := 2) (j := 3) rfl sc_law_spoilt.nd (pda_cons (pd_call h_law_draw (hr.mono (hlv _ (by decide))) fn0_noexc fn0_len (pda_cons (pd_v 0) (pda_cons (pd_callB call_lenA snd_len rfl T.b_len PySem.boot_len (pda_cons (pd_v 1) (pda_nil))) (pda_nil)))) (pda_cons (pd_call h_law_draw (hr.mono (hlv _ (by decide))) fn0_noexc fn0_len (pda_cons (pd_v 0) (pda_cons (pd_int) (pda_nil)))) (pda_nil))))
      (pdb_cons (pds_if (pdt_eq hu (pd_v 3) (pd_int)) (pdb_one (pds_ret (pd_add (pd_slice (pd_v 1) (pdo_none) (pdo_some (pd_v 2))) (pd_slice (pd_v 1) (pdo_some (pd_add (pd_v 2) (pd_int))) (pdo_none))))) (pdb_nil))
      (pdb_cons (pds_if (pdt_eq hu (pd_v 3) (pd_int)) (pdb_one (pds_ret (pd_add (pd_slice (pd_v 1) (pdo_none) (pdo_some (pd_add (pd_v 2) (pd_int)))) (pd_slice (pd_v 1) (pdo_some (pd_v 2)) (pdo_none))))) (pdb_nil))
      (pdb_cons (pds_if (pdt_eq hu (pd_v 3) (pd_int)) (pdb_one (pds_ret (pd_add (pd_add (pd_slice (pd_v 1) (pdo_none) (pdo_some (pd_v 2))) (pd_tup (pda_cons (pd_call h_law_odd (hr.mono (hlv _ (by decide))) fn0_noexc fn0_len (pda_cons (pd_v 0) (pda_nil))) (pda_nil)))) (pd_slice (pd_v 1) (pdo_some (pd_v 2)) (pdo_none))))) (pdb_nil))
      (pdb_cons (pds_if (pdt_eq hu (pd_v 3) (pd_int)) (pdb_one (pds_ret (pd_callT call_list_of snd_list rfl T.b_list PyProof.Rows.boot_list (pda_cons (pd_v 1) (pda_nil))))) (pdb_nil))
      (pdb_cons (pds_if (PDW.t (pdw_and (pdt_val (pd_callB call_isi snd_isi rfl T.b_isinstance PyProof.Rows.boot_isinstance (pda_cons (pd_ix hu (pd_v 1) (pd_v 2)) (pda_cons (pd_ty rfl T.b_int PyProof.Rows.boot_int) (pda_nil))))) (pdw_and1 (pdt_lt (pd_v 3) (pd_int))))) (pdb_one (pds_ret (pd_add (pd_add (pd_slice (pd_v 1) (pdo_none) (pdo_some (pd_v 2))) (pd_tup (pda_cons (pd_sub (pd_add (pd_ix hu (pd_v 1) (pd_v 2)) (pd_call h_law_draw (hr.mono (hlv _ (by decide))) fn0_noexc fn0_len (pda_cons (pd_v 0) (pda_cons (pd_int) (pda_nil))))) (pd_int)) (pda_nil)))) (pd_slice (pd_v 1) (pdo_some (pd_add (pd_v 2) (pd_int))) (pdo_none))))) (pdb_nil))
      (pdb_one (pds_ret (pd_add (pd_add (pd_slice (pd_v 1) (pdo_none) (pdo_some (pd_v 2))) (pd_tup (pda_cons (pd_call h_law_spoilt (hr.mono (Nat.le_refl _)) hself1 hself2 (pda_cons (pd_v 0) (pda_cons (pd_ix hu (pd_v 1) (pd_v 2)) (pda_nil)))) (pda_nil)))) (pd_slice (pd_v 1) (pdo_some (pd_add (pd_v 2) (pd_int))) (pdo_none)))))))))))
theorem ok_law_spoilt (T : Tx K mg) (F : FnAt K mg "_law_spoilt" s_law_spoilt) (h_law_odd : Df P w K mg base CX0 3 "_law_odd" 1 f_law_odd) (h_law_draw : Df P w K mg base CX0 1 "_law_draw" 2 f_law_draw) : Df P w K mg base CX0 28 "_law_spoilt" 2 f_law_spoilt := oks_law_spoilt T F h_law_odd h_law_draw 24
abbrev s_law : Stmt := topS 25
theorem sc_law : FnScope ["_law_script", "_law_most", "_law_k", "_law_source_here", "_law_plan_here", "_law_value", "_law_turn", "_law_one"] ["_law_script"] (defScope s_law) := ⟨rfl, rfl, rfl, by decide +kernel, rfl, by decide +kernel, by decide +kernel⟩
theorem okf_law {f : Addr} {fd : FuncData} (T : Tx K mg) (F : FunD K "law" "law" (defArgs s_law) (defBody s_law) (defScope s_law) [] [] f fd) (h_law_source : Df P w K mg base CX0 1 "_law_source" 2 f_law_source) (h_law_plan : Df P w K mg base CX0 4 "_law_plan" 2 f_law_plan) (h_is_plan : Df P w K mg base CX0 5 "is_plan" 1 f_is_plan) (h_is_deed : Df P w K mg base CX0 6 "is_deed" 2 f_is_deed) (h_law_deed : Df P w K mg base CX0 3 "_law_deed" 2 f_law_deed) (h_law_spoilt : Df P w K mg base CX0 28 "_law_spoilt" 2 f_law_spoilt) (h_law_is_plan : Df P w K mg base CX0 3 "_law_is_plan" 1 f_law_is_plan) (h_law_is_deed : Df P w K mg base CX0 2 "_law_is_deed" 2 f_law_is_deed) : FnOk P w K mg base CX0 29 f fd ["_law_script"] (spD K mg 1 f_law) := by
  show FnOk P w K mg base CX0 29 f fd _ (spD K mg 1 (fn0 1 8 gcF b_law))
  refine okD0 (k := 28) (np := 1) (nn := 8) (g := gcF) (b := b_law) F sc_law (by decide) (by decide) gcF_ok ?_
  intro cdv A outer s H E hr
  have hu := hu65 hr
  have hpo := PassesOwn.never (M := model P w) (A := A.deeper (envOfC "law" (defScope s_law) s.heap.objs.size f cdv)) (env := envOfC "law" (defScope s_law) s.heap.objs.size f cdv)
  have hlv : ∀ j, j ≤ 28 → j ≤ 28 := fun j h => h
  exact pdb_cons (pds_set (i := 1) sc_law.nd (pd_tup (pda_cons (pd_mul (pd_tup (pda_cons (pd_int) (pda_nil))) (pd_int)) (pda_cons (pd_mul (pd_tup (pda_cons (pd_tup (pda_cons (pd_str) (pda_cons (pd_int) (pda_cons (pd_int) (pda_nil))))) (pda_nil))) (pd_int)) (pda_nil)))))
      (pdb_cons (pds_for hpo rfl (pdi_rng1 rfl T.b_range (pda_cons (pd_add (pd_int) (pd_callB (call_minA rfl) snd_min rfl T.b_min PyProof.Rows.boot_min (pda_cons (pd_callB call_lenA snd_len rfl T.b_len PySem.boot_len (pda_cons (pd_v 0) (pda_nil))) (pda_cons (pd_int) (pda_nil))))) (pda_nil))) (pdg_n 2 sc_law.nd) (pdb_cons (pds_set (i := 3) sc_law.nd (pd_call h_law_source (hr.mono (hlv _ (by decide))) fn0_noexc fn0_len (pda_cons (pd_v 0) (pda_cons (pd_v 2) (pda_nil)))))
      (pdb_cons (pds_set (i := 4) sc_law.nd (pd_call h_law_plan (hr.mono (hlv _ (by decide))) fn0_noexc fn0_len (pda_cons (pd_v 3) (pda_cons (pd_int) (pda_nil)))))
      (pdb_one (pds_for hpo rfl (pdi_val (pd_lst (pda_cons (pd_v 4) (pda_cons (pd_v 4) (pda_cons (pd_call h_law_deed (hr.mono (hlv _ (by decide))) fn0_noexc fn0_len (pda_cons (pd_v 3) (pda_cons (pd_callB call_lenA snd_len rfl T.b_len PySem.boot_len (pda_cons (pd_ix hu (pd_v 4) (pd_int)) (pda_nil))) (pda_nil)))) (pda_cons (pd_v 1) (pda_nil))))))) (pdg_n 5 sc_law.nd) (pdb_one (pds_for hpo rfl (pdi_rng1 rfl T.b_range (pda_cons (pd_int) (pda_nil))) (pdg_n 6 sc_law.nd) (pdb_cons (pds_if (pdt_ne hu (pd_call h_is_plan (hr.mono (hlv _ (by decide))) fn0_noexc fn0_len (pda_cons (pd_v 5) (pda_nil))) (pd_call h_law_is_plan (hr.mono (hlv _ (by decide))) fn0_noexc fn0_len (pda_cons (pd_v 5) (pda_nil)))) (pdb_one (pds_ret (pd_bl))) (pdb_nil))
      (pdb_cons (pds_if (pdt_ne hu (pd_call h_is_deed (hr.mono (hlv _ (by decide))) fn0_noexc fn0_len (pda_cons (pd_v 4) (pda_cons (pd_v 5) (pda_nil)))) (pd_call h_law_is_deed (hr.mono (hlv _ (by decide))) fn0_noexc fn0_len (pda_cons (pd_callB call_lenA snd_len rfl T.b_len PySem.boot_len (pda_cons (pd_ix hu (pd_v 4) (pd_int)) (pda_nil))) (pda_cons (pd_v 5) (pda_nil))))) (pdb_one (pds_ret (pd_bl))) (pdb_nil))
      (pdb_one (pds_set (i := 5) sc_law.nd (pd_call h_law_spoilt (hr.mono (hlv _ (by decide))) fn0_noexc fn0_len (pda_cons (pd_v 3) (pda_cons (pd_v 5) (pda_nil)))))))))))))))
      (pdb_cons (pds_set (i := 7) sc_law.nd (pd_tup (pda_cons (pd_tup (pda_cons (pd_int) (pda_cons (pd_int) (pda_nil)))) (pda_cons (pd_tup (pda_nil)) (pda_nil)))))
      (pdb_cons (pds_if (PDW.t (pdw_or (pdt_val (pd_call h_is_plan (hr.mono (hlv _ (by decide))) fn0_noexc fn0_len (pda_cons (pd_tup (pda_cons (pd_tup (pda_cons (pd_int) (pda_nil))) (pda_cons (pd_tup (pda_nil)) (pda_nil)))) (pda_nil)))) (pdw_or (pdt_val (pd_call h_is_plan (hr.mono (hlv _ (by decide))) fn0_noexc fn0_len (pda_cons (pd_tup (pda_cons (pd_mul (pd_tup (pda_cons (pd_int) (pda_nil))) (pd_int)) (pda_cons (pd_tup (pda_nil)) (pda_nil)))) (pda_nil)))) (pdw_or (pdt_val (pd_call h_is_plan (hr.mono (hlv _ (by decide))) fn0_noexc fn0_len (pda_cons (pd_tup (pda_cons (pd_tup (pda_cons (pd_int) (pda_nil))) (pda_cons (pd_mul (pd_tup (pda_cons (pd_tup (pda_cons (pd_str) (pda_nil))) (pda_nil))) (pd_int)) (pda_nil)))) (pda_nil)))) (pdw_or1 (pdt_val (pd_call h_is_plan (hr.mono (hlv _ (by decide))) fn0_noexc fn0_len (pda_cons (pd_tup (pda_cons (pd_tup (pda_nil)) (pda_cons (pd_tup (pda_nil)) (pda_nil)))) (pda_nil))))))))) (pdb_one (pds_ret (pd_bl))) (pdb_nil))
      (pdb_cons (pds_if (PDW.t (pdw_or (pdt_val (pd_call h_is_deed (hr.mono (hlv _ (by decide))) fn0_noexc fn0_len (pda_cons (pd_v 7) (pda_cons (pd_tup (pda_cons (pd_str) (pda_cons (pd_int) (pda_cons (pd_int) (pda_nil))))) (pda_nil))))) (pdw_or (pdt_val (pd_call h_is_deed (hr.mono (hlv _ (by decide))) fn0_noexc fn0_len (pda_cons (pd_v 7) (pda_cons (pd_tup (pda_cons (pd_str) (pda_cons (pd_int) (pda_cons (pd_int) (pda_nil))))) (pda_nil))))) (pdw_or1 (pdt_val (pd_call h_is_deed (hr.mono (hlv _ (by decide))) fn0_noexc fn0_len (pda_cons (pd_v 7) (pda_cons (pd_tup (pda_cons (pd_str) (pda_cons (pd_int) (pda_cons (pd_neg (pd_int)) (pda_nil))))) (pda_nil))))))))) (pdb_one (pds_ret (pd_bl))) (pdb_nil))
      (pdb_cons (pds_if (PDW.t (pdw_or (pdt_val (pd_call h_is_deed (hr.mono (hlv _ (by decide))) fn0_noexc fn0_len (pda_cons (pd_v 7) (pda_cons (pd_tup (pda_cons (pd_str) (pda_cons (pd_int) (pda_nil)))) (pda_nil))))) (pdw_or (pdt_val (pd_call h_is_deed (hr.mono (hlv _ (by decide))) fn0_noexc fn0_len (pda_cons (pd_v 7) (pda_cons (pd_tup (pda_cons (pd_str) (pda_cons (pd_int) (pda_cons (pd_int) (pda_nil))))) (pda_nil))))) (pdw_or1 (pdt_val (pd_call h_is_deed (hr.mono (hlv _ (by decide))) fn0_noexc fn0_len (pda_cons (pd_v 7) (pda_cons (pd_tup (pda_cons (pd_str) (pda_cons (pd_int) (pda_nil)))) (pda_nil))))))))) (pdb_one (pds_ret (pd_bl))) (pdb_nil))
      (pdb_one (pds_ret (pd_and (pd_call h_is_plan (hr.mono (hlv _ (by decide))) fn0_noexc fn0_len (pda_cons (pd_v 1) (pda_nil))) (pd_and (pd_call h_is_deed (hr.mono (hlv _ (by decide))) fn0_noexc fn0_len (pda_cons (pd_v 7) (pda_cons (pd_tup (pda_cons (pd_str) (pda_cons (pd_int) (pda_cons (pd_neg (pd_int)) (pda_nil))))) (pda_nil)))) (pd_one (pd_call h_is_deed (hr.mono (hlv _ (by decide))) fn0_noexc fn0_len (pda_cons (pd_v 7) (pda_cons (pd_tup (pda_cons (pd_str) (pda_cons (pd_int) (pda_nil)))) (pda_nil))))))))))))))
end
end DL
set_option maxHeartbeats 0
namespace DL
open PySem PySem.Spec PyProof.Rows L2
def fnL : List He.DefD := [
  ⟨("is_number", none), "is_number", "is_number", defArgs s_is_number, defBody s_is_number, defScope s_is_number, [], []⟩,
  ⟨("is_tuple", none), "is_tuple", "is_tuple", defArgs s_is_tuple, defBody s_is_tuple, defScope s_is_tuple, [], []⟩,
  ⟨("is_word", none), "is_word", "is_word", defArgs s_is_word, defBody s_is_word, defScope s_is_word, [], []⟩,
  ⟨("is_turn", none), "is_turn", "is_turn", defArgs s_is_turn, defBody s_is_turn, defScope s_is_turn, [], []⟩,
  ⟨("is_deed_of", none), "is_deed_of", "is_deed_of", defArgs s_is_deed_of, defBody s_is_deed_of, defScope s_is_deed_of, [], []⟩,
  ⟨("are_weights", none), "are_weights", "are_weights", defArgs s_are_weights, defBody s_are_weights, defScope s_are_weights, [], []⟩,
  ⟨("is_good_plan", none), "is_good_plan", "is_good_plan", defArgs s_is_good_plan, defBody s_is_good_plan, defScope s_is_good_plan, [], []⟩,
  ⟨("need_plan", none), "need_plan", "need_plan", defArgs s_need_plan, defBody s_need_plan, defScope s_need_plan, [], []⟩,
  ⟨("is_plan", none), "is_plan", "is_plan", defArgs s_is_plan, defBody s_is_plan, defScope s_is_plan, [], []⟩,
  ⟨("is_deed", none), "is_deed", "is_deed", defArgs s_is_deed, defBody s_is_deed, defScope s_is_deed, [], []⟩,
  ⟨("_law_source", none), "_law_source", "_law_source", defArgs s_law_source, defBody s_law_source, defScope s_law_source, [], []⟩,
  ⟨("_law_draw", none), "_law_draw", "_law_draw", defArgs s_law_draw, defBody s_law_draw, defScope s_law_draw, [], []⟩,
  ⟨("_law_of", none), "_law_of", "_law_of", defArgs s_law_of, defBody s_law_of, defScope s_law_of, [], []⟩,
  ⟨("_law_deed", none), "_law_deed", "_law_deed", defArgs s_law_deed, defBody s_law_deed, defScope s_law_deed, [], []⟩,
  ⟨("_law_plan", none), "_law_plan", "_law_plan", defArgs s_law_plan, defBody s_law_plan, defScope s_law_plan, [], []⟩,
  ⟨("_law_is_int", none), "_law_is_int", "_law_is_int", defArgs s_law_is_int, defBody s_law_is_int, defScope s_law_is_int, [], []⟩,
  ⟨("_law_is_deed", none), "_law_is_deed", "_law_is_deed", defArgs s_law_is_deed, defBody s_law_is_deed, defScope s_law_is_deed, [], []⟩,
  ⟨("_law_is_plan", none), "_law_is_plan", "_law_is_plan", defArgs s_law_is_plan, defBody s_law_is_plan, defScope s_law_is_plan, [], []⟩,
  ⟨("_law_odd", none), "_law_odd", "_law_odd", defArgs s_law_odd, defBody s_law_odd, defScope s_law_odd, [], []⟩,
  ⟨("_law_spoilt", none), "_law_spoilt", "_law_spoilt", defArgs s_law_spoilt, defBody s_law_spoilt, defScope s_law_spoilt, [], []⟩,
  ⟨("law", none), "law", "law", defArgs s_law, defBody s_law, defScope s_law, [], []⟩]
def faL : List He.Fa := [.glo "is_number", .glo "is_tuple", .glo "is_word", .glo "is_turn", .glo "is_deed_of", .glo "are_weights", .glo "is_good_plan", .glo "need_plan", .glo "is_plan", .glo "is_deed", .glo "_law_source", .glo "_law_draw", .glo "_law_of", .glo "_law_deed", .glo "_law_plan", .glo "_law_is_int", .glo "_law_is_deed", .glo "_law_is_plan", .glo "_law_odd", .glo "_law_spoilt", .glo "law", .free "abs", .free "all", .free "bool", .free "int", .free "isinstance", .free "len", .free "list", .free "min", .free "range", .free "str", .free "tuple"]
abbrev RowL : PySem.W.OpenRow := PySem.W.OpenLaw.row PySem.Challenge.rw_topwheel_k01_values_recognized
abbrev hkL : PySem.W.Hook := He.hookD 4 faL fnL
def obL (s : PySem.W.SharedT) : He.AlD := He.obsDG 4 faL fnL (HandSHeadRun.getT s)
theorem obL_eq (s : PySem.W.SharedT) : obL s = hkL.obs s.abs := He.obsDG_eq (HandSHeadRun.getT_eq s)
theorem runL (w : World) : HandSHeadRun.RunEq RowL (PySem.W.view RowL.prog [25]) hkL obL 1440 ["WheelError", "InvalidPlan", "is_number", "is_tuple", "is_word", "is_turn", "is_deed_of", "are_weights", "is_good_plan", "need_plan", "is_plan", "is_deed", "_law_source", "_law_draw", "_law_of", "_law_deed", "_law_plan", "_law_is_int", "_law_is_deed", "_law_is_plan", "_law_odd", "_law_spoilt"] w := by
  intro os
  kernel_rfl
theorem factsL {P : Program} {w : World} {K : PySem.W.Frag} {h : Heap} {mg : Str → Option Value} {f : Addr} (X : K.In h) (G : h.Ns mainGlobals mg) (hfa : mg ("law" : Str) = some (.ref f)) (c : He.SaysD faL fnL K) :
    ∃ fd : FuncData, (∀ (s : Shared) (v : Value), BindsTo s fd ⟨[v], []⟩ [("_law_script", v)]) ∧ ∀ base : Heap, K.In base → base.Ns mainGlobals mg → FnOk P w K mg base CX0 29 f fd ["_law_script"] (spD K mg 1 f_law) := by
  have T : Tx K mg := ⟨He.free_ok X G (c.fact 21 (f := .free "abs") rfl), He.free_ok X G (c.fact 22 (f := .free "all") rfl), He.free_ok X G (c.fact 23 (f := .free "bool") rfl), He.free_ok X G (c.fact 24 (f := .free "int") rfl), He.free_ok X G (c.fact 25 (f := .free "isinstance") rfl), He.free_ok X G (c.fact 26 (f := .free "len") rfl), He.free_ok X G (c.fact 27 (f := .free "list") rfl), He.free_ok X G (c.fact 28 (f := .free "min") rfl), He.free_ok X G (c.fact 29 (f := .free "range") rfl), He.free_ok X G (c.fact 30 (f := .free "str") rfl), He.free_ok X G (c.fact 31 (f := .free "tuple") rfl)⟩
  have h_law_source := fun base => ok_law_source (P := P) (w := w) (base := base) T (fnAt_of c X G 10 10 (x := "_law_source") (st := s_law_source) rfl rfl)
  have h_law_draw := fun base => ok_law_draw (P := P) (w := w) (base := base) T (fnAt_of c X G 11 11 (x := "_law_draw") (st := s_law_draw) rfl rfl)
  have h_law_of := fun base => ok_law_of (P := P) (w := w) (base := base) T (fnAt_of c X G 12 12 (x := "_law_of") (st := s_law_of) rfl rfl) (h_law_draw base)
  have h_law_deed := fun base => ok_law_deed (P := P) (w := w) (base := base) T (fnAt_of c X G 13 13 (x := "_law_deed") (st := s_law_deed) rfl rfl) (h_law_of base) (h_law_draw base)
  have h_law_plan := fun base => ok_law_plan (P := P) (w := w) (base := base) T (fnAt_of c X G 14 14 (x := "_law_plan") (st := s_law_plan) rfl rfl) (h_law_draw base) (h_law_deed base)
  have h_is_tuple := fun base => ok_is_tuple (P := P) (w := w) (base := base) T (fnAt_of c X G 1 1 (x := "is_tuple") (st := s_is_tuple) rfl rfl)
  have h_is_number := fun base => ok_is_number (P := P) (w := w) (base := base) T (fnAt_of c X G 0 0 (x := "is_number") (st := s_is_number) rfl rfl)
  have h_are_weights := fun base => ok_are_weights (P := P) (w := w) (base := base) T (fnAt_of c X G 5 5 (x := "are_weights") (st := s_are_weights) rfl rfl) (h_is_tuple base) (h_is_number base)
  have h_is_word := fun base => ok_is_word (P := P) (w := w) (base := base) T (fnAt_of c X G 2 2 (x := "is_word") (st := s_is_word) rfl rfl)
  have h_is_turn := fun base => ok_is_turn (P := P) (w := w) (base := base) T (fnAt_of c X G 3 3 (x := "is_turn") (st := s_is_turn) rfl rfl) (h_is_number base)
  have h_is_deed_of := fun base => ok_is_deed_of (P := P) (w := w) (base := base) T (fnAt_of c X G 4 4 (x := "is_deed_of") (st := s_is_deed_of) rfl rfl) (h_is_word base) (h_is_tuple base) (h_is_turn base) (h_is_number base)
  have h_is_good_plan := fun base => ok_is_good_plan (P := P) (w := w) (base := base) T (fnAt_of c X G 6 6 (x := "is_good_plan") (st := s_is_good_plan) rfl rfl) (h_is_tuple base) (h_are_weights base) (h_is_deed_of base)
  have h_is_plan := fun base => ok_is_plan (P := P) (w := w) (base := base) T (fnAt_of c X G 8 8 (x := "is_plan") (st := s_is_plan) rfl rfl) (h_is_good_plan base)
  have h_need_plan := fun base => ok_need_plan (P := P) (w := w) (base := base) T (fnAt_of c X G 7 7 (x := "need_plan") (st := s_need_plan) rfl rfl) (h_is_good_plan base)
  have h_is_deed := fun base => ok_is_deed (P := P) (w := w) (base := base) T (fnAt_of c X G 9 9 (x := "is_deed") (st := s_is_deed) rfl rfl) (h_need_plan base) (h_is_deed_of base)
  have h_law_odd := fun base => ok_law_odd (P := P) (w := w) (base := base) T (fnAt_of c X G 18 18 (x := "_law_odd") (st := s_law_odd) rfl rfl) (h_law_of base)
  have h_law_spoilt := fun base => ok_law_spoilt (P := P) (w := w) (base := base) T (fnAt_of c X G 19 19 (x := "_law_spoilt") (st := s_law_spoilt) rfl rfl) (h_law_odd base) (h_law_draw base)
  have h_law_is_int := fun base => ok_law_is_int (P := P) (w := w) (base := base) T (fnAt_of c X G 15 15 (x := "_law_is_int") (st := s_law_is_int) rfl rfl)
  have h_law_is_deed := fun base => ok_law_is_deed (P := P) (w := w) (base := base) T (fnAt_of c X G 16 16 (x := "_law_is_deed") (st := s_law_is_deed) rfl rfl) (h_law_is_int base)
  have h_law_is_plan := fun base => ok_law_is_plan (P := P) (w := w) (base := base) T (fnAt_of c X G 17 17 (x := "_law_is_plan") (st := s_law_is_plan) rfl rfl) (h_law_is_int base) (h_law_is_deed base)
  obtain ⟨fd, FL⟩ := c.def_ 20 (d := dfd "law" s_law) rfl
  have e := hfa.symm.trans (He.glo_ok X G (c.fact 20 (f := .glo "law") rfl))
  cases e
  have b := FunD.bindsA (ps := ["_law_script"]) FL fun _ _ _ _ _ _ us hl => match us, hl with | [_], _ => rfl
  exact ⟨fd, fun s v => b s [v] rfl, fun base _ _ => okf_law T FL (h_law_source base) (h_law_plan base) (h_is_plan base) (h_is_deed base) (h_law_deed base) (h_law_spoilt base) (h_law_is_plan base) (h_law_is_deed base)⟩
end DL
open PySem PySem.W PySem.Calls PyProof.Rows
theorem PySem.Challenge.cw_topwheel_k01_values_recognized_holds : PySem.Challenge.rw_topwheel_k01_values_recognized.Holds := by
  w_on; o_law
  refine HandSHeadRun.head_any (r := OpenLaw.row PySem.Challenge.rw_topwheel_k01_values_recognized) (q := view (OpenLaw.row PySem.Challenge.rw_topwheel_k01_values_recognized).prog [25]) (H := DL.hkL) (ob := DL.obL) (M := 1440) (loose := ["WheelError", "InvalidPlan", "is_number", "is_tuple", "is_word", "is_turn", "is_deed_of", "are_weights", "is_good_plan", "need_plan", "is_plan", "is_deed", "_law_source", "_law_draw", "_law_of", "_law_deed", "_law_plan", "_law_is_int", "_law_is_deed", "_law_is_plan", "_law_odd", "_law_spoilt"]) (d := HandSHeadRun.topDef (OpenLaw.row PySem.Challenge.rw_topwheel_k01_values_recognized).prog 25) (kwd := []) DL.obL_eq
    (by kernel_rfl) (fun s => by kernel_rfl) DL.runL (by kernel_rfl) (by kernel_rfl) (by kernel_rfl) (by rfl) (by first | assumption | decide +kernel) (by decide +kernel) ⟨rfl, rfl, rfl, rfl, rfl, by decide +kernel⟩ ?hw ?hc
  case hw => w_witness2
  case hc =>
    refine L2.walk_ofE (l := PySem.Challenge.rw_topwheel_k01_values_recognized) (n := 63) (k := 29) (x := "_law_script") (CX := L2.CX0) rfl (by decide) (by kernel_rfl) ⟨rfl, by decide, by decide⟩ ?F (fun _ _ _ _ z => z)
    intro w mg fa h Y G hmg0
    obtain ⟨K, KX, c⟩ := Y
    have hmg : mg ("law" : PySem.Str) = some (.ref fa) := by
      have e : (HandSHeadRun.topDef (OpenLaw.row PySem.Challenge.rw_topwheel_k01_values_recognized).prog 25).name = ("law" : PySem.Str) := by kernel_rfl
      rw [← e]
      exact hmg0
    obtain ⟨fd, hb, hF⟩ := DL.factsL (P := (PySem.Challenge.rw_topwheel_k01_values_recognized).prog) (w := w) KX G hmg c
    exact ⟨K, fd, DL.spD K mg 1 DL.f_law, KX, hb, fun H a ns hl hO hS => DL.law_sp DL.law_true H a ns hl hO hS, hF⟩
