import PyProof.Rows.All
import Wide.All
import OpenK.AllK
import Wide.FinOn
import HandS.ForMost
import HandS.Wide
import HandS.TupAny
import HandS.IsInst
import HandS.NoneIn
import HandS.Style
import HandS.Conv
import HandS.Flow
import HandS.Defaults
import HandS.Head0
import HandS.Head1
import HandS.Head2
import HandS.HeadEnd
import HandS.HeadHook1
import HandS.HeadHook2
import PySem.Challenge.RW_lightwrit_k05_main_rows_of_lenses_togeth

section
set_option Elab.async false
set_option linter.all false
set_option maxRecDepth 100000
/-! MCore: plain data, a store of cells, and how they lie in the layer's abstract heap. -/
namespace Mini
open PySem PySem.Spec PyProof.Rows L2

inductive Ty where
  | int | bool | str | tuple | list
  deriving DecidableEq
def Ty.name : Ty → String
  | .int => "int"
  | .bool => "bool"
  | .str => "str"
  | .tuple => "tuple"
  | .list => "list"
/-- plain data (ls: a list that is only read); a mutable object is a number of a cell -/
inductive D where
  | non | bl (b : Bool) | int (i : Int) | str (s : Str) | tup (ds : List D) | ls (ds : List D) | cel (n : Nat) | ty (t : Ty)
  deriving Inhabited
/-- a mutable object: a list -/
inductive Cell where
  | lst (ds : List D)
abbrev Store := List Cell
abbrev Slots := List (Option D)

/-- a list that nobody writes: known to the object, or an object of the module -/
def SqR (K : PySem.W.Frag) (H : Hp) (a : Addr) (xs : List V) : Prop :=
  (∃ o, H a = some (.frz o (.lst xs))) ∨
    ∃ (o : Obj) (its : Array Value) (n : Nat), K.lookup a = some o ∧ o.cls = .type "list" ∧ o.dict = none ∧ o.data = .seq its n ∧ its.size ≤ sizeLine ∧ Vals xs its.toList
theorem SqR.seq {K : PySem.W.Frag} {H : Hp} {a : Addr} {xs : List V} (h : SqR K H a xs) : SqL K H a xs := by
  rcases h with ⟨o, h⟩ | h
  · exact .inl (.inr ⟨o, h⟩)
  · exact .inr h
mutual
def RepV (K : PySem.W.Frag) (m : List Addr) (H : Hp) : D → V → Prop
  | .non, v => v = .non
  | .bl b, v => v = .bl b
  | .int i, v => v = .int i
  | .str s, v => v = .str s
  | .tup ds, v => ∃ a vs, v = .ref a ∧ SqT K H a vs ∧ RepL K m H ds vs
  | .ls ds, v => ∃ a vs, v = .ref a ∧ SqR K H a vs ∧ RepL K m H ds vs
  | .cel n, v => ∃ a : Addr, v = .ref a ∧ m[n]? = some a
  | .ty t, v => v = .ty t.name
def RepL (K : PySem.W.Frag) (m : List Addr) (H : Hp) : List D → List V → Prop
  | [], vs => vs = []
  | d :: ds, vs => ∃ v r, vs = v :: r ∧ RepV K m H d v ∧ RepL K m H ds r
end

def RepC (K : PySem.W.Frag) (m : List Addr) (H : Hp) (a : Addr) : Cell → Prop
  | .lst ds => ∃ vs, H a = some (.lst vs) ∧ RepL K m H ds vs

structure Sto (K : PySem.W.Frag) (m : List Addr) (H : Hp) (μ : Store) : Prop where
  len : m.length = μ.length
  nd : m.Nodup
  at_ : ∀ (n : Nat) (c : Cell), μ[n]? = some c → ∃ a : Addr, m[n]? = some a ∧ RepC K m H a c

/-- the heap has grown: the map of the cells is longer, tuples stand -/
structure Ext (K : PySem.W.Frag) (m : List Addr) (H : Hp) (m' : List Addr) (H' : Hp) : Prop where
  pre : ∀ (n : Nat) (a : Addr), m[n]? = some a → m'[n]? = some a
  tup : ∀ a vs, SqT K H a vs → SqT K H' a vs
  ro : ∀ a vs, SqR K H a vs → SqR K H' a vs

section
variable {K : PySem.W.Frag} {m m' m'' : List Addr} {H H' H'' : Hp}
theorem Ext.refl : Ext K m H m H := ⟨fun _ _ h => h, fun _ _ h => h, fun _ _ h => h⟩
theorem Ext.trans (a : Ext K m H m' H') (b : Ext K m' H' m'' H'') : Ext K m H m'' H'' :=
  ⟨fun n x h => b.pre n x (a.pre n x h), fun x vs h => b.tup x vs (a.tup x vs h), fun x vs h => b.ro x vs (a.ro x vs h)⟩

mutual
theorem RepV.mono (e : Ext K m H m' H') : ∀ (d : D) (v : V), RepV K m H d v → RepV K m' H' d v
  | .non, _, h => by simpa only [RepV] using h
  | .bl _, _, h => by simpa only [RepV] using h
  | .int _, _, h => by simpa only [RepV] using h
  | .str _, _, h => by simpa only [RepV] using h
  | .ty _, _, h => by simpa only [RepV] using h
  | .tup ds, _, h => by
    simp only [RepV] at h ⊢
    obtain ⟨a, vs, h1, h2, h3⟩ := h
    exact ⟨a, vs, h1, e.tup a vs h2, RepL.mono e ds vs h3⟩
  | .ls ds, _, h => by
    simp only [RepV] at h ⊢
    obtain ⟨a, vs, h1, h2, h3⟩ := h
    exact ⟨a, vs, h1, e.ro a vs h2, RepL.mono e ds vs h3⟩
  | .cel n, _, h => by
    simp only [RepV] at h ⊢
    obtain ⟨a, h1, h2⟩ := h
    exact ⟨a, h1, e.pre n a h2⟩
theorem RepL.mono (e : Ext K m H m' H') : ∀ (ds : List D) (vs : List V), RepL K m H ds vs → RepL K m' H' ds vs
  | [], _, h => by simpa only [RepL] using h
  | d :: ds, _, h => by
    simp only [RepL] at h ⊢
    obtain ⟨v, r, h1, h2, h3⟩ := h
    exact ⟨v, r, h1, RepV.mono e d v h2, RepL.mono e ds r h3⟩
end

theorem RepL.length : ∀ {ds : List D} {vs : List V}, RepL K m H ds vs → vs.length = ds.length
  | [], _, h => by simp only [RepL] at h; subst h; rfl
  | d :: ds, _, h => by
    simp only [RepL] at h
    obtain ⟨v, r, rfl, _, h3⟩ := h
    simp only [List.length_cons, RepL.length h3]
theorem RepL.get : ∀ {ds : List D} {vs : List V} {i : Nat} {d : D}, RepL K m H ds vs → ds[i]? = some d → ∃ v, vs[i]? = some v ∧ RepV K m H d v
  | [], _, i, d, _, e => by simp at e
  | x :: ds, _, 0, d, h, e => by
    simp only [RepL] at h
    obtain ⟨v, r, rfl, h2, _⟩ := h
    simp at e; subst e
    exact ⟨v, rfl, h2⟩
  | x :: ds, _, i + 1, d, h, e => by
    simp only [RepL] at h
    obtain ⟨v, r, rfl, _, h3⟩ := h
    obtain ⟨w, h4, h5⟩ := RepL.get (i := i) (d := d) h3 (by simpa using e)
    exact ⟨w, by simpa using h4, h5⟩
theorem RepL.getV {ds : List D} {vs : List V} {i : Nat} {v : V} (h : RepL K m H ds vs) (e : vs[i]? = some v) : ∃ d, ds[i]? = some d ∧ RepV K m H d v := by
  have hi : i < ds.length := by
    rw [← h.length]
    exact (List.getElem?_eq_some_iff.mp e).1
  obtain ⟨w, h1, h2⟩ := h.get (List.getElem?_eq_getElem hi)
  rw [e] at h1; cases h1
  exact ⟨_, List.getElem?_eq_getElem hi, h2⟩
theorem RepL.append : ∀ {ds es : List D} {vs ws : List V}, RepL K m H ds vs → RepL K m H es ws → RepL K m H (ds ++ es) (vs ++ ws)
  | [], _, _, _, h, h' => by simp only [RepL] at h; subst h; exact h'
  | d :: ds, es, _, ws, h, h' => by
    simp only [RepL] at h
    obtain ⟨v, r, rfl, h2, h3⟩ := h
    simp only [List.cons_append, RepL]
    exact ⟨v, _, rfl, h2, RepL.append h3 h'⟩
theorem RepL.take : ∀ {ds : List D} {vs : List V} (n : Nat), RepL K m H ds vs → RepL K m H (ds.take n) (vs.take n)
  | _, _, 0, _ => by simp [RepL]
  | [], _, n + 1, h => by simp only [RepL] at h; subst h; simp [RepL]
  | d :: ds, _, n + 1, h => by
    simp only [RepL] at h
    obtain ⟨v, r, rfl, h2, h3⟩ := h
    simp only [List.take_succ_cons, RepL]
    exact ⟨v, _, rfl, h2, RepL.take n h3⟩
theorem RepL.drop : ∀ {ds : List D} {vs : List V} (n : Nat), RepL K m H ds vs → RepL K m H (ds.drop n) (vs.drop n)
  | _, _, 0, h => by simpa using h
  | [], _, n + 1, h => by simp only [RepL] at h; subst h; simp [RepL]
  | d :: ds, _, n + 1, h => by
    simp only [RepL] at h
    obtain ⟨v, r, rfl, h2, h3⟩ := h
    simp only [List.drop_succ_cons]
    exact RepL.drop n h3
theorem RepL.one {d : D} {v : V} (h : RepV K m H d v) : RepL K m H [d] [v] := by
  simp only [RepL]
  exact ⟨v, [], rfl, h, rfl⟩
theorem RepL.reverse : ∀ {ds : List D} {vs : List V}, RepL K m H ds vs → RepL K m H ds.reverse vs.reverse
  | [], _, h => by simp only [RepL] at h; subst h; simp [RepL]
  | d :: ds, _, h => by
    simp only [RepL] at h
    obtain ⟨v, r, rfl, h2, h3⟩ := h
    simp only [List.reverse_cons]
    exact RepL.append (RepL.reverse h3) (RepL.one h2)
theorem RepL.set : ∀ {ds : List D} {vs : List V} (i : Nat) {d : D} {v : V}, RepL K m H ds vs → RepV K m H d v → RepL K m H (ds.set i d) (vs.set i v)
  | [], _, i, _, _, h, _ => by simp only [RepL] at h; subst h; simp [RepL]
  | x :: ds, _, 0, _, _, h, hv => by
    simp only [RepL] at h
    obtain ⟨v, r, rfl, h2, h3⟩ := h
    simp only [List.set_cons_zero, RepL]
    exact ⟨_, _, rfl, hv, h3⟩
  | x :: ds, _, i + 1, _, _, h, hv => by
    simp only [RepL] at h
    obtain ⟨v, r, rfl, h2, h3⟩ := h
    simp only [List.set_cons_succ, RepL]
    exact ⟨_, _, rfl, h2, RepL.set i h3 hv⟩

/-! ### steps of the heap -/
theorem SqT.fresh {a p : Addr} {vs : List V} {o : HO} (h : SqT K H a vs) (hp : H p = none) : SqT K (upd H p o) a vs := by
  rcases h with (h | ⟨u, h⟩) | h
  · exact .inl (.inl (by rw [upd_ne (ne_of_none h hp)]; exact h))
  · exact .inl (.inr ⟨u, by rw [upd_ne (ne_of_none h hp)]; exact h⟩)
  · exact .inr h
theorem SqR.fresh {a p : Addr} {vs : List V} {o : HO} (h : SqR K H a vs) (hp : H p = none) : SqR K (upd H p o) a vs := by
  rcases h with ⟨u, h⟩ | h
  · exact .inl ⟨u, by rw [upd_ne (ne_of_none h hp)]; exact h⟩
  · exact .inr h
theorem SqT.write {a p : Addr} {vs ws : List V} {o : HO} (h : SqT K H a vs) (hp : H p = some (.lst ws)) : SqT K (upd H p o) a vs := by
  have key : ∀ u : HO, u ≠ .lst ws → H a = some u → a ≠ p := fun u hu e q => by
    subst q
    rw [e] at hp
    exact hu (Option.some.inj hp)
  rcases h with (h | ⟨u, h⟩) | h
  · exact .inl (.inl (by rw [upd_ne (key _ (fun q => by cases q) h)]; exact h))
  · exact .inl (.inr ⟨u, by rw [upd_ne (key _ (fun q => by cases q) h)]; exact h⟩)
  · exact .inr h
theorem SqR.write {a p : Addr} {vs ws : List V} {o : HO} (h : SqR K H a vs) (hp : H p = some (.lst ws)) : SqR K (upd H p o) a vs := by
  rcases h with ⟨u, h⟩ | h
  · exact .inl ⟨u, by rw [upd_ne (fun q => by subst q; rw [h] at hp; cases hp)]; exact h⟩
  · exact .inr h
/-- a new object that is no cell -/
theorem Ext.fresh {p : Addr} {o : HO} (hp : H p = none) : Ext K m H m (upd H p o) := ⟨fun _ _ h => h, fun _ _ h => SqT.fresh h hp, fun _ _ h => SqR.fresh h hp⟩
theorem Ext.write {p : Addr} {o : HO} {ws : List V} (hp : H p = some (.lst ws)) : Ext K m H m (upd H p o) := ⟨fun _ _ h => h, fun _ _ h => SqT.write h hp, fun _ _ h => SqR.write h hp⟩
theorem Ext.more {t : List Addr} : Ext K m H (m ++ t) H := ⟨fun n a h => by
  rw [List.getElem?_append_left (List.getElem?_eq_some_iff.mp h).1]; exact h, fun _ _ h => h, fun _ _ h => h⟩
theorem RepC.mono {a : Addr} {c : Cell} (e : Ext K m H m' H') (h : RepC K m H a c) (hl : ∀ vs, H a = some (.lst vs) → H' a = some (.lst vs)) : RepC K m' H' a c := by
  cases c with
  | lst ds =>
    obtain ⟨vs, h1, h2⟩ := h
    exact ⟨vs, hl vs h1, RepL.mono e ds vs h2⟩
theorem RepC.there {a : Addr} {c : Cell} (h : RepC K m H a c) : ∃ vs, H a = some (.lst vs) := by
  cases c with
  | lst ds =>
    obtain ⟨vs, h1, _⟩ := h
    exact ⟨vs, h1⟩
theorem Sto.fresh {μ : Store} {p : Addr} {o : HO} (s : Sto K m H μ) (hp : H p = none) : Sto K m (upd H p o) μ := by
  refine ⟨s.len, s.nd, fun n c e => ?_⟩
  obtain ⟨a, h1, h2⟩ := s.at_ n c e
  exact ⟨a, h1, h2.mono (Ext.fresh hp) fun vs h => by rw [upd_ne (ne_of_none h hp)]; exact h⟩
theorem Sto.notin {μ : Store} {p : Addr} (s : Sto K m H μ) (hp : H p = none) : p ∉ m := by
  intro hm
  obtain ⟨n, hn, e⟩ := List.getElem_of_mem hm
  have hn' : n < μ.length := by rw [← s.len]; exact hn
  obtain ⟨a, h1, h2⟩ := s.at_ n _ (List.getElem?_eq_getElem hn')
  rw [List.getElem?_eq_getElem hn, e] at h1
  cases h1
  obtain ⟨vs, h3⟩ := h2.there
  rw [hp] at h3; cases h3
/-- a new list: a new cell at the end -/
theorem Sto.new {μ : Store} {p : Addr} {ds : List D} {vs : List V} (s : Sto K m H μ) (hp : H p = none) (r : RepL K m H ds vs) : Sto K (m ++ [p]) (upd H p (.lst vs)) (μ ++ [.lst ds]) := by
  have e1 : Ext K m H (m ++ [p]) (upd H p (.lst vs)) := (Ext.fresh hp).trans Ext.more
  refine ⟨by rw [List.length_append, List.length_append, s.len]; rfl, ?_, fun n c e => ?_⟩
  · rw [List.nodup_append]
    exact ⟨s.nd, by simp, fun a ha b hb => by
      have hb' : b = p := by simpa using hb
      subst hb'
      exact fun q => s.notin hp (q ▸ ha)⟩
  · by_cases hn : n < μ.length
    · rw [List.getElem?_append_left hn] at e
      obtain ⟨a, h1, h2⟩ := s.at_ n c e
      refine ⟨a, ?_, h2.mono e1 fun ws h => by rw [upd_ne (ne_of_none h hp)]; exact h⟩
      rw [List.getElem?_append_left (by rw [s.len]; exact hn)]
      exact h1
    · rw [List.getElem?_append_right (by omega)] at e
      have hn0 : n - μ.length = 0 := by
        cases q : n - μ.length with
        | zero => rfl
        | succ k => rw [q] at e; simp at e
      rw [hn0] at e
      cases e
      refine ⟨p, ?_, vs, upd_same, RepL.mono e1 ds vs r⟩
      rw [List.getElem?_append_right (by rw [s.len]; omega), s.len, hn0]
      rfl
theorem Sto.newExt {p : Addr} {vs : List V} (hp : H p = none) : Ext K m H (m ++ [p]) (upd H p (.lst vs)) := (Ext.fresh hp).trans Ext.more
theorem Sto.newRep {μ : Store} {p : Addr} (s : Sto K m H μ) {H' : Hp} : RepV K (m ++ [p]) H' (.cel μ.length) (.ref p) := by
  simp only [RepV]
  refine ⟨p, rfl, ?_⟩
  rw [List.getElem?_append_right (by rw [s.len]; omega), s.len]
  simp
/-- the list of a cell -/
theorem Sto.lst {μ : Store} {n : Nat} {ds : List D} (s : Sto K m H μ) (e : μ[n]? = some (.lst ds)) : ∃ (a : Addr) (vs : List V), m[n]? = some a ∧ H a = some (.lst vs) ∧ RepL K m H ds vs := by
  obtain ⟨a, h1, vs, h2, h3⟩ := s.at_ n _ e
  exact ⟨a, vs, h1, h2, h3⟩
/-- a list is written -/
theorem Sto.write {μ : Store} {n : Nat} {a : Addr} {ws vs : List V} {ds : List D} (s : Sto K m H μ) (hm : m[n]? = some a) (ha : H a = some (.lst ws)) (r : RepL K m H ds vs) : Sto K m (upd H a (.lst vs)) (μ.set n (.lst ds)) := by
  have e1 : Ext K m H m (upd H a (.lst vs)) := Ext.write ha
  have hn : n < m.length := (List.getElem?_eq_some_iff.mp hm).1
  refine ⟨by rw [List.length_set]; exact s.len, s.nd, fun k c e => ?_⟩
  by_cases hk : k = n
  · subst hk
    rw [List.getElem?_set_self (by rw [← s.len]; exact hn)] at e
    cases e
    exact ⟨a, hm, vs, upd_same, RepL.mono e1 ds vs r⟩
  · rw [List.getElem?_set_ne (Ne.symm hk)] at e
    obtain ⟨b, h1, h2⟩ := s.at_ k c e
    refine ⟨b, h1, h2.mono e1 fun us h => ?_⟩
    have hb : b ≠ a := by
      intro q
      subst q
      obtain ⟨i1, e1⟩ := List.getElem?_eq_some_iff.mp h1
      obtain ⟨i2, e2⟩ := List.getElem?_eq_some_iff.mp hm
      exact hk ((List.getElem_inj s.nd).mp (e1.trans e2.symm))
    rw [upd_ne hb]
    exact h
end

/-! ### the slots -/
structure RelS (K : PySem.W.Frag) (m : List Addr) (H : Hp) (ρ : Slots) (σ : L2.St) : Prop where
  len : σ.length = ρ.length
  at_ : ∀ (i : Nat) (d : D), ρ[i]? = some (some d) → ∃ v, σ[i]? = some (some v) ∧ RepV K m H d v
section
variable {K : PySem.W.Frag} {m m' : List Addr} {H H' : Hp} {ρ : Slots} {σ : L2.St}
theorem RelS.mono (e : Ext K m H m' H') (r : RelS K m H ρ σ) : RelS K m' H' ρ σ := ⟨r.len, fun i d h =>
  let ⟨v, h1, h2⟩ := r.at_ i d h
  ⟨v, h1, RepV.mono e d v h2⟩⟩
theorem RelS.set {i : Nat} {d : D} {v : V} (r : RelS K m H ρ σ) (h : RepV K m H d v) : RelS K m H (ρ.set i (some d)) (σ.set i (some v)) := by
  refine ⟨by rw [List.length_set, List.length_set]; exact r.len, fun j e q => ?_⟩
  by_cases hj : j = i
  · subst hj
    have hl : j < ρ.length := by
      have := (List.getElem?_eq_some_iff.mp q).1
      rwa [List.length_set] at this
    rw [List.getElem?_set_self hl] at q
    cases q
    exact ⟨v, List.getElem?_set_self (by rw [r.len]; exact hl), h⟩
  · rw [List.getElem?_set_ne (Ne.symm hj)] at q ⊢
    exact r.at_ j e q
/-- slots forgotten -/
def wipeD (ρ : Slots) : List Nat → Slots
  | [] => ρ
  | v :: vs => (wipeD ρ vs).set v none
theorem wipeD_length (ρ : Slots) : ∀ vs : List Nat, (wipeD ρ vs).length = ρ.length
  | [] => rfl
  | v :: vs => by unfold wipeD; rw [List.length_set, wipeD_length ρ vs]
theorem RelS.wipe (r : RelS K m H ρ σ) : ∀ vs : List Nat, RelS K m H (wipeD ρ vs) (L2.wipe σ vs)
  | [] => r
  | v :: vs => by
    have ih := RelS.wipe r vs
    refine ⟨by rw [wipeD_length, wipe_length]; exact r.len, fun i d h => ?_⟩
    unfold wipeD at h
    unfold L2.wipe
    by_cases hi : i = v
    · subst hi
      have hl : i < (wipeD ρ vs).length := by
        have := (List.getElem?_eq_some_iff.mp h).1
        rwa [List.length_set] at this
      rw [List.getElem?_set_self hl] at h
      cases h
    · rw [List.getElem?_set_ne (Ne.symm hi)] at h ⊢
      exact ih.at_ i d h
end
end Mini
end

section
set_option Elab.async false
set_option linter.all false
set_option maxRecDepth 100000
/-! MOps: readings told by plain functions; the operators on plain data. -/
namespace Mini
open PySem PySem.Spec PyProof.Rows L2

abbrev Res := Option (D × Store)
abbrev EvF := Slots → Store → Res
abbrev EvA := Slots → Store → Option (List D × Store)
abbrev EvT := Slots → Store → Option (Bool × Store)

/-- behind an evaluation: whoever holds the value goes on -/
def Back (K : PySem.W.Frag) (m : List Addr) (H : Hp) (d : D) (μ' : Store) (Q : VK) : Prop :=
  ∀ v H' m', Ext K m H m' H' → Sto K m' H' μ' → RepV K m' H' d v → Q v H'
def BackA (K : PySem.W.Frag) (m : List Addr) (H : Hp) (ds : List D) (μ' : Store) (Q : List V → Hp → Prop) : Prop :=
  ∀ vs H' m', Ext K m H m' H' → Sto K m' H' μ' → RepL K m' H' ds vs → Q vs H'
def BackT (K : PySem.W.Frag) (m : List Addr) (H : Hp) (μ' : Store) (Q : Hp → Prop) : Prop :=
  ∀ H' m', Ext K m H m' H' → Sto K m' H' μ' → Q H'
def TI (K : PySem.W.Frag) (f : EvF) : TE := fun σ H Q => ∃ m ρ μ d μ', RelS K m H ρ σ ∧ Sto K m H μ ∧ f ρ μ = some (d, μ') ∧ Back K m H d μ' Q
def TIA (K : PySem.W.Frag) (f : EvA) : TA := fun σ H Q => ∃ m ρ μ ds μ', RelS K m H ρ σ ∧ Sto K m H μ ∧ f ρ μ = some (ds, μ') ∧ BackA K m H ds μ' Q
def TIT (K : PySem.W.Frag) (f : EvT) : TT := fun σ H Q => ∃ m ρ μ b μ', RelS K m H ρ σ ∧ Sto K m H μ ∧ f ρ μ = some (b, μ') ∧ BackT K m H μ' (Q b)

/-! ### weaker readings -/
theorem PE.imp {X : Cx} {e : Expr} {t t' : TE} (h : PE X e t) (w : ∀ σ H Q, t' σ H Q → t σ H Q) : PE X e t' :=
  ⟨fun pins s σ H Q I q => h.run pins s σ H Q I (w σ H Q q)⟩
theorem PT.imp {X : Cx} {e : Expr} {t t' : TT} (h : PT X e t) (w : ∀ σ H Q, t' σ H Q → t σ H Q) : PT X e t' :=
  ⟨fun pins s σ H Q I q => h.run pins s σ H Q I (w σ H Q q)⟩
theorem PW.imp {X : Cx} {e : Expr} {t t' : TT} (h : PW X e t) (w : ∀ σ H Q, t' σ H Q → t σ H Q) : PW X e t' :=
  ⟨fun wh pins s σ H Q I q => h.run wh pins s σ H Q I (w σ H Q q)⟩
theorem PA.imp {X : Cx} {e : List Expr} {t t' : TA} (h : PA X e t) (w : ∀ σ H Q, t' σ H Q → t σ H Q) : PA X e t' :=
  ⟨fun pos pins s σ H Q I q => h.run pos pins s σ H Q I (w σ H Q q)⟩
theorem PS.imp {X : Cx} {e : Stmt} {t t' : TS} (h : PS X e t) (w : ∀ D σ H, t' D σ H → t D σ H) : PS X e t' :=
  ⟨fun pins s σ H D I q => h.run pins s σ H D I (w D σ H q)⟩
theorem PSs.imp {X : Cx} {e : List Stmt} {t t' : TS} (h : PSs X e t) (w : ∀ D σ H, t' D σ H → t D σ H) : PSs X e t' :=
  ⟨fun pins s σ H D I q => h.run pins s σ H D I (w D σ H q)⟩

section
variable {K : PySem.W.Frag} {m m' : List Addr} {H H' : Hp} {d : D} {μ μ' : Store}
theorem Back.ext {Q : VK} (e : Ext K m H m' H') (b : Back K m H d μ' Q) : Back K m' H' d μ' Q := fun v H2 m2 e2 s r => b v H2 m2 (e.trans e2) s r
theorem BackT.ext {Q : Hp → Prop} (e : Ext K m H m' H') (b : BackT K m H μ' Q) : BackT K m' H' μ' Q := fun H2 m2 e2 s => b H2 m2 (e.trans e2) s
/-- the value is here already -/
theorem Back.now {Q : VK} {v : V} (b : Back K m H d μ Q) (s : Sto K m H μ) (r : RepV K m H d v) : Q v H := b v H m Ext.refl s r
theorem Back.int {i : Int} {Q : VK} (b : Back K m H (.int i) μ Q) (s : Sto K m H μ) : Q (.int i) H := b.now s (by simp [RepV])
theorem Back.bl {i : Bool} {Q : VK} (b : Back K m H (.bl i) μ Q) (s : Sto K m H μ) : Q (.bl i) H := b.now s (by simp [RepV])
theorem Back.str {i : Str} {Q : VK} (b : Back K m H (.str i) μ Q) (s : Sto K m H μ) : Q (.str i) H := b.now s (by simp [RepV])
/-- a new tuple -/
theorem Back.tup {ds : List D} {vs : List V} {Q : VK} {p : Addr} (b : Back K m H (.tup ds) μ Q) (s : Sto K m H μ) (r : RepL K m H ds vs) (hp : H p = none) : Q (.ref p) (upd H p (.tup vs)) := by
  refine b _ _ m (Ext.fresh hp) (s.fresh hp) ?_
  simp only [RepV]
  exact ⟨p, vs, rfl, .inl (.inl upd_same), RepL.mono (Ext.fresh hp) ds vs r⟩
/-- a new list -/
theorem Back.lst {ds : List D} {vs : List V} {Q : VK} {p : Addr} (b : Back K m H (.cel μ.length) (μ ++ [.lst ds]) Q) (s : Sto K m H μ) (r : RepL K m H ds vs) (hp : H p = none) : Q (.ref p) (upd H p (.lst vs)) :=
  b _ _ _ (Sto.newExt hp) (s.new hp r) s.newRep
end

/-! ### two-place operations -/
abbrev Op2 := D → D → Store → Res
def rD (K : PySem.W.Frag) (g : Op2) : R2 := fun x y H Q => ∃ m μ d1 d2 d μ', Sto K m H μ ∧ RepV K m H d1 x ∧ RepV K m H d2 y ∧ g d1 d2 μ = some (d, μ') ∧ Back K m H d μ' Q
def fBin (g : Op2) (fa fb : EvF) : EvF := fun ρ μ => match fa ρ μ with
  | none => none
  | some (d1, μ1) => match fb ρ μ1 with
    | none => none
    | some (d2, μ2) => g d1 d2 μ2
theorem ti_bin {K : PySem.W.Frag} {g : Op2} {fa fb : EvF} {σ : L2.St} {H : Hp} {Q : VK} (h : TI K (fBin g fa fb) σ H Q) : tOp (rD K g) (TI K fa) (TI K fb) σ H Q := by
  obtain ⟨m, ρ, μ, d, μ', r, s, e, b⟩ := h
  unfold fBin at e
  cases ea : fa ρ μ with
  | none => rw [ea] at e; cases e
  | some p =>
    obtain ⟨d1, μ1⟩ := p
    rw [ea] at e
    cases eb : fb ρ μ1 with
    | none => simp only [eb] at e; cases e
    | some p =>
      obtain ⟨d2, μ2⟩ := p
      simp only [eb] at e
      refine ⟨m, ρ, μ, d1, μ1, r, s, ea, fun x H1 m1 e1 s1 r1 => ?_⟩
      refine ⟨m1, ρ, μ1, d2, μ2, r.mono e1, s1, eb, fun y H2 m2 e2 s2 r2 => ?_⟩
      exact ⟨m2, μ2, d1, d2, d, μ', s2, RepV.mono e2 _ _ r1, r2, e, b.ext (e1.trans e2)⟩
section
variable {X : Cx} {a b : Expr} {pos : Pos} {fa fb : EvF} {g : Op2}
theorem pi_op {op : Operator} (ho : OpR X (binaryOp op) (rD X.K g)) (ha : PE X a (TI X.K fa)) (hb : PE X b (TI X.K fb)) : PE X (.BinOp a op b pos) (TI X.K (fBin g fa fb)) :=
  PE.imp (pe_op ho ha hb) fun _ _ _ h => ti_bin h
theorem pi_cmp {op : CmpOp} (ho : OpR X (compareOp op) (rD X.K g)) (ha : PE X a (TI X.K fa)) (hb : PE X b (TI X.K fb)) (hm : behindInMarks op b = false) : PE X (.Compare a [op] [b] pos) (TI X.K (fBin g fa fb)) :=
  PE.imp (pe_cmpR ho ha hb hm) fun _ _ _ h => ti_bin h
end

/-! ### the operators on data -/
def seqMax : Nat := 1000000
theorem seqMax_le {n : Nat} (h : n ≤ seqMax) : n ≤ sizeLine := by
  rw [sizeLine_eq]
  have : seqMax = 1000000 := rfl
  omega
theorem seqMax_lt {n : Nat} (h : n < seqMax) : n < sizeLine := by
  rw [sizeLine_eq]
  have : seqMax = 1000000 := rfl
  omega
def dAdd : Op2
  | .int a, .int b, μ => some (.int (a + b), μ)
  | .str a, .str b, μ => if a.length + b.length ≤ seqMax then some (.str (a ++ b), μ) else none
  | .tup a, .tup b, μ => if a.length + b.length ≤ seqMax then some (.tup (a ++ b), μ) else none
  | .cel i, .cel j, μ => match μ[i]?, μ[j]? with
    | some (.lst a), some (.lst b) => if a.length + b.length ≤ seqMax then some (.cel μ.length, μ ++ [.lst (a ++ b)]) else none
    | _, _ => none
  | _, _, _ => none
def dSub : Op2
  | .int a, .int b, μ => some (.int (a - b), μ)
  | _, _, _ => none
def bits (i : Int) (n : Nat) : Bool := decide (i.natAbs < 2 ^ n)
def dMul : Op2
  | .int a, .int b, μ => if bits a 9000 && bits b 9000 then some (.int (a * b), μ) else none
  | .cel i, .int k, μ => match μ[i]? with
    | some (.lst a) => if 0 ≤ k ∧ k < 1000000 ∧ a.length * k.toNat ≤ seqMax then some (.cel μ.length, μ ++ [.lst (List.replicate k.toNat a).flatten]) else none
    | _ => none
  | _, _, _ => none
def dDiv : Op2
  | .int a, .int b, μ => if 0 < b ∧ bits b 8000 = true then some (.int (a / b), μ) else none
  | _, _, _ => none
def dMod : Op2
  | .int a, .int b, μ => if 0 < b then some (.int (a % b), μ) else none
  | _, _, _ => none
def dPow : Op2
  | .int a, .int b, μ => if 0 ≤ b ∧ b ≤ 1000 ∧ a.natAbs < 2 ^ 60 then some (.int (a ^ b.toNat), μ) else none
  | _, _, _ => none

section
variable {X : Cx}
theorem opd_add : OpR X (binaryOp .Add) (rD X.K dAdd) := by
  intro pins s σ H x y v u Q I rx ry h
  obtain ⟨m, μ, d1, d2, d, μ', st, r1, r2, e, b⟩ := h
  unfold dAdd at e
  split at e
  · cases e
    simp only [RepV] at r1 r2
    subst r1 r2
    exact op_add pins s σ H _ _ v u Q I rx ry ⟨_, _, rfl, rfl, b.int st⟩
  · split at e <;> cases e
    rename_i hz
    simp only [RepV] at r1 r2
    subst r1 r2
    exact op_add_str pins s σ H _ _ v u Q I rx ry ⟨_, _, rfl, rfl, seqMax_le hz, b.str st⟩
  · split at e <;> cases e
    rename_i hz
    simp only [RepV] at r1 r2
    obtain ⟨p, xs, rfl, hp, l1⟩ := r1
    obtain ⟨q, ys, rfl, hq, l2⟩ := r2
    refine op_catA pins s σ H _ _ v u Q I rx ry ⟨p, q, xs, ys, rfl, rfl, hp, hq, ?_, fun hx => ?_, fun hx hy => ?_, fun _ _ a ha => ?_⟩
    · rw [l1.length, l2.length]; exact seqMax_le hz
    · subst hx
      have e1 := l1.length
      rename_i da db
      have e2 : da = [] := List.eq_nil_of_length_eq_zero e1.symm
      subst e2
      refine b.now st ?_
      simp only [RepV]
      exact ⟨q, ys, rfl, hq, by simpa using l2⟩
    · subst hy
      have e1 := l2.length
      rename_i da db
      have e2 : db = [] := List.eq_nil_of_length_eq_zero e1.symm
      subst e2
      refine b.now st ?_
      simp only [RepV]
      exact ⟨p, xs, rfl, hp, by simpa using l1⟩
    · exact b.tup st (l1.append l2) ha
  · split at e
    · split at e <;> cases e
      rename_i hi hj hz
      simp only [RepV] at r1 r2
      obtain ⟨p, rfl, hp⟩ := r1
      obtain ⟨q, rfl, hq⟩ := r2
      obtain ⟨p', xs, hp', hx, l1⟩ := st.lst hi
      obtain ⟨q', ys, hq', hy, l2⟩ := st.lst hj
      rw [hp] at hp'; cases hp'
      rw [hq] at hq'; cases hq'
      refine op_cat pins s σ H _ _ v u Q I rx ry ⟨p, q, xs, ys, rfl, rfl, hx, hy, ?_, fun a ha => b.lst st (l1.append l2) ha⟩
      rw [l1.length, l2.length]; exact seqMax_le hz
    · cases e
  · cases e
theorem opd_sub : OpR X (binaryOp .Sub) (rD X.K dSub) := by
  intro pins s σ H x y v u Q I rx ry h
  obtain ⟨m, μ, d1, d2, d, μ', st, r1, r2, e, b⟩ := h
  unfold dSub at e
  split at e
  · cases e
    simp only [RepV] at r1 r2
    subst r1 r2
    exact op_sub pins s σ H _ _ v u Q I rx ry ⟨_, _, rfl, rfl, b.int st⟩
  · cases e
theorem bits_lt {i : Int} {n : Nat} (h : bits i n = true) : i.natAbs < 2 ^ n := of_decide_eq_true h
theorem RepL.rep {K : PySem.W.Frag} {m : List Addr} {H : Hp} {ds : List D} {vs : List V} (h : RepL K m H ds vs) : ∀ k : Nat, RepL K m H (List.replicate k ds).flatten (List.replicate k vs).flatten
  | 0 => by simp [RepL]
  | k + 1 => by
    simp only [List.replicate_succ, List.flatten_cons]
    exact h.append (RepL.rep h k)
theorem opd_mul : OpR X (binaryOp .Mult) (rD X.K dMul) := by
  intro pins s σ H x y v u Q I rx ry h
  obtain ⟨m, μ, d1, d2, d, μ', st, r1, r2, e, b⟩ := h
  unfold dMul at e
  split at e
  · split at e <;> cases e
    rename_i hz
    rw [Bool.and_eq_true] at hz
    simp only [RepV] at r1 r2
    subst r1 r2
    exact op_mulW pins s σ H _ _ v u Q I rx ry ⟨_, _, rfl, rfl, wide_mul (bits_lt hz.1) (bits_lt hz.2) (by decide) (by decide) (by decide), b.int st⟩
  · split at e
    · split at e <;> cases e
      rename_i hi hz
      simp only [RepV] at r1 r2
      obtain ⟨p, rfl, hp⟩ := r1
      subst r2
      obtain ⟨p', xs, hp', hx, l1⟩ := st.lst hi
      rw [hp] at hp'; cases hp'
      refine op_rep pins s σ H _ _ v u Q I rx ry ⟨p, _, xs, rfl, rfl, hx, by omega, by omega, ?_, fun a ha => ?_⟩
      · rw [l1.length]; exact seqMax_le hz.2.2
      · exact b.lst st (l1.rep _) ha
    · cases e
  · cases e
theorem opd_div : OpR X (binaryOp .FloorDiv) (rD X.K dDiv) := by
  intro pins s σ H x y v u Q I rx ry h
  obtain ⟨m, μ, d1, d2, d, μ', st, r1, r2, e, b⟩ := h
  unfold dDiv at e
  split at e
  · split at e <;> cases e
    rename_i hz
    simp only [RepV] at r1 r2
    subst r1 r2
    exact op_fdivW pins s σ H _ _ v u Q I rx ry ⟨_, _, rfl, rfl, wide_div hz.1 (bits_lt hz.2) (by decide) (by decide), b.int st⟩
  · cases e
theorem opd_mod : OpR X (binaryOp .Mod) (rD X.K dMod) := by
  intro pins s σ H x y v u Q I rx ry h
  obtain ⟨m, μ, d1, d2, d, μ', st, r1, r2, e, b⟩ := h
  unfold dMod at e
  split at e
  · split at e <;> cases e
    rename_i hz
    simp only [RepV] at r1 r2
    subst r1 r2
    exact op_mod pins s σ H _ _ v u Q I rx ry ⟨_, _, rfl, rfl, hz, b.int st⟩
  · cases e
theorem opd_pow : OpR X (binaryOp .Pow) (rD X.K dPow) := by
  intro pins s σ H x y v u Q I rx ry h
  obtain ⟨m, μ, d1, d2, d, μ', st, r1, r2, e, b⟩ := h
  unfold dPow at e
  split at e
  · split at e <;> cases e
    rename_i hz
    simp only [RepV] at r1 r2
    subst r1 r2
    refine op_pow pins s σ H _ _ v u Q I rx ry ⟨_, _, rfl, rfl, ⟨hz.1, by omega, Nat.lt_trans hz.2.2 (by decide)⟩, b.int st⟩
  · cases e
end

/-! ### comparisons -/
mutual
/-- data as the library tells it; c: the data of a cell -/
def toPyC (c : Nat → Option PyData) : D → Option PyData
  | .non => some .none
  | .bl b => some (.bool b)
  | .int i => some (.int i)
  | .str s => some (.str s)
  | .tup ds => (toPysC c ds).map .tuple
  | .ls ds => (toPysC c ds).map .list
  | .cel i => c i
  | .ty _ => none
def toPysC (c : Nat → Option PyData) : List D → Option (List PyData)
  | [] => some []
  | d :: ds => match toPyC c d, toPysC c ds with
    | some x, some xs => some (x :: xs)
    | _, _ => none
end
/-- the data of a cell, n cells deep -/
def celPy (μ : Store) : Nat → Nat → Option PyData
  | 0, _ => none
  | n + 1, i => match μ[i]? with
    | some (.lst ds) => (toPysC (celPy μ n) ds).map .list
    | none => none
def toPy (μ : Store) (d : D) : Option PyData := toPyC (celPy μ 4) d
section
variable {K : PySem.W.Frag} {m : List Addr} {H : Hp} {μ : Store} {c : Nat → Option PyData}
mutual
theorem dp_of (hc : ∀ i p a, c i = some p → m[i]? = some a → Dp K H (.ref a) p) : ∀ (d : D) (v : V) (p : PyData), RepV K m H d v → toPyC c d = some p → Dp K H v p
  | .non, v, p, r, e => by
    simp only [RepV] at r; simp only [toPyC] at e
    subst r; cases e; exact .non
  | .bl b, v, p, r, e => by
    simp only [RepV] at r; simp only [toPyC] at e
    subst r; cases e; exact .bl b
  | .int b, v, p, r, e => by
    simp only [RepV] at r; simp only [toPyC] at e
    subst r; cases e; exact .int b
  | .str b, v, p, r, e => by
    simp only [RepV] at r; simp only [toPyC] at e
    subst r; cases e; exact .str b
  | .tup ds, v, p, r, e => by
    simp only [RepV] at r; simp only [toPyC] at e
    obtain ⟨a, vs, rfl, h1, h2⟩ := r
    cases q : toPysC c ds with
    | none => rw [q] at e; cases e
    | some ps =>
      rw [q] at e; cases e
      exact .tup h1 (dps_of hc ds vs ps h2 q)
  | .ls ds, v, p, r, e => by
    simp only [RepV] at r; simp only [toPyC] at e
    obtain ⟨a, vs, rfl, h1, h2⟩ := r
    cases q : toPysC c ds with
    | none => rw [q] at e; cases e
    | some ps =>
      rw [q] at e; cases e
      exact .lst h1.seq (dps_of hc ds vs ps h2 q)
  | .cel i, v, p, r, e => by
    simp only [RepV] at r; simp only [toPyC] at e
    obtain ⟨a, rfl, h1⟩ := r
    exact hc i p a e h1
  | .ty t, v, p, r, e => by
    simp only [toPyC] at e
    cases e
theorem dps_of (hc : ∀ i p a, c i = some p → m[i]? = some a → Dp K H (.ref a) p) : ∀ (ds : List D) (vs : List V) (ps : List PyData), RepL K m H ds vs → toPysC c ds = some ps → DpAll K H vs ps
  | [], vs, ps, r, e => by
    simp only [RepL] at r; simp only [toPysC] at e
    subst r; cases e; exact .nil
  | d :: ds, vs, ps, r, e => by
    simp only [RepL] at r; simp only [toPysC] at e
    obtain ⟨v, rr, rfl, h1, h2⟩ := r
    cases q1 : toPyC c d with
    | none => simp only [q1] at e; cases e
    | some x =>
      cases q2 : toPysC c ds with
      | none => simp only [q1, q2] at e; cases e
      | some xs =>
        simp only [q1, q2] at e; cases e
        exact .cons (dp_of hc d v x h1 q1) (dps_of hc ds rr xs h2 q2)
end
theorem dp_cel (st : Sto K m H μ) : ∀ (n i : Nat) (p : PyData) (a : Addr), celPy μ n i = some p → m[i]? = some a → Dp K H (.ref a) p
  | 0, _, _, _, e, _ => by cases e
  | n + 1, i, p, a, e, ha => by
    unfold celPy at e
    split at e
    · rename_i ds hi
      obtain ⟨a', vs, h1, h2, h3⟩ := st.lst hi
      rw [ha] at h1; cases h1
      cases q : toPysC (celPy μ n) ds with
      | none => rw [q] at e; cases e
      | some ps =>
        rw [q] at e; cases e
        exact .lst (.inl (.inl h2)) (dps_of (fun i p a => dp_cel st n i p a) ds vs ps h3 q)
    · cases e
theorem toPy_dp {d : D} {v : V} {p : PyData} (st : Sto K m H μ) (r : RepV K m H d v) (e : toPy μ d = some p) : Dp K H v p :=
  dp_of (fun i p a => dp_cel st 4 i p a) d v p r e
end
/-- == of data -/
def eqD (d e : D) (μ : Store) : Option Bool := match toPy μ d, toPy μ e with
  | some a, some b => if SeqAt.shaped a && SeqAt.shaped b then some (PyData.eqv a b) else none
  | _, _ => none
def mapB (g : D → D → Store → Option Bool) : Op2 := fun a b μ => match g a b μ with
  | some k => some (.bl k, μ)
  | none => none
def dEq : Op2 := mapB eqD
def dNe : Op2 := mapB fun a b μ => (eqD a b μ).map (!·)
def lexLt : List D → List D → Option Bool
  | [], [] => some false
  | [], _ :: _ => some true
  | _ :: _, [] => some false
  | .int x :: xs, .int y :: ys => if x = y then lexLt xs ys else some (decide (x < y))
  | _, _ => none
def dLt : Op2 := mapB fun
  | .int a, .int b, _ => some (decide (a < b))
  | _, _, _ => none
def dLe : Op2 := mapB fun
  | .int a, .int b, _ => some (decide (a ≤ b))
  | _, _, _ => none
def dGt : Op2 := mapB fun
  | .int a, .int b, _ => some (decide (b < a))
  | _, _, _ => none
def dGe : Op2 := mapB fun
  | .int a, .int b, _ => some (decide (b ≤ a))
  | _, _, _ => none
def isNon : D → Bool
  | .non => true
  | _ => false
def dIs : Op2 := mapB fun
  | d, .non, _ => some (isNon d)
  | _, _, _ => none
def dIsN : Op2 := mapB fun
  | d, .non, _ => some (!isNon d)
  | _, _, _ => none
section
variable {X : Cx}
theorem opd_b {f : Value → Value → Sem Value} {g : D → D → Store → Option Bool}
    (h : ∀ (pins : List (Addr × Obj)) (s : Shared) (σ : L2.St) (H : Hp) (x y : V) (v u : Value) (Q : VK) (m : List Addr) (μ : Store) (d1 d2 : D) (k : Bool), Inv X pins σ H s → RelV x v → RelV y u → Sto X.K m H μ → RepV X.K m H d1 x → RepV X.K m H d2 y →
      g d1 d2 μ = some k → Q (.bl k) H → wpAny (model X.prog X.w) X.A (f v u) (EP X pins σ Q) X.xe s) : OpR X f (rD X.K (mapB g)) := by
  intro pins s σ H x y v u Q I rx ry hh
  obtain ⟨m, μ, d1, d2, d, μ', st, r1, r2, e, b⟩ := hh
  unfold mapB at e
  cases q : g d1 d2 μ with
  | none => rw [q] at e; cases e
  | some k =>
    rw [q] at e
    cases e
    exact h pins s σ H x y v u Q m μ d1 d2 k I rx ry st r1 r2 q (b.bl st)
theorem eqD_some {d e : D} {μ : Store} {k : Bool} (h : eqD d e μ = some k) : ∃ a b, toPy μ d = some a ∧ toPy μ e = some b ∧ SeqAt.shaped a = true ∧ SeqAt.shaped b = true ∧ PyData.eqv a b = k := by
  unfold eqD at h
  split at h
  · rename_i a b h1 h2
    split at h <;> cases h
    rename_i hs
    rw [Bool.and_eq_true] at hs
    exact ⟨a, b, h1, h2, hs.1, hs.2, rfl⟩
  · cases h
theorem opd_eq (hu : X.A.units + 64 < cLine) : OpR X (compareOp .Eq) (rD X.K dEq) := by
  refine opd_b fun pins s σ H x y v u Q m μ d1 d2 k I rx ry st r1 r2 e q => ?_
  obtain ⟨a, b, h1, h2, h3, h4, rfl⟩ := eqD_some e
  exact op_eqD hu pins s σ H x y v u Q I rx ry ⟨a, b, toPy_dp st r1 h1, toPy_dp st r2 h2, h3, h4, q⟩
theorem opd_ne (hu : X.A.units + 64 < cLine) : OpR X (compareOp .NotEq) (rD X.K dNe) := by
  refine opd_b fun pins s σ H x y v u Q m μ d1 d2 k I rx ry st r1 r2 e q => ?_
  cases e' : eqD d1 d2 μ with
  | none => rw [e'] at e; cases e
  | some k' =>
    rw [e'] at e
    cases e
    obtain ⟨a, b, h1, h2, h3, h4, rfl⟩ := eqD_some e'
    exact op_neD hu pins s σ H x y v u Q I rx ry ⟨a, b, toPy_dp st r1 h1, toPy_dp st r2 h2, h3, h4, q⟩
theorem opd_lt : OpR X (compareOp .Lt) (rD X.K dLt) := by
  refine opd_b fun pins s σ H x y v u Q m μ d1 d2 k I rx ry st r1 r2 e q => ?_
  split at e
  · cases e
    simp only [RepV] at r1 r2
    subst r1 r2
    exact op_lt pins s σ H _ _ v u Q I rx ry ⟨_, _, rfl, rfl, q⟩
  · cases e
theorem opd_le : OpR X (compareOp .LtE) (rD X.K dLe) := by
  refine opd_b fun pins s σ H x y v u Q m μ d1 d2 k I rx ry st r1 r2 e q => ?_
  split at e
  · cases e
    simp only [RepV] at r1 r2
    subst r1 r2
    exact op_le pins s σ H _ _ v u Q I rx ry ⟨_, _, rfl, rfl, q⟩
  · cases e
theorem opd_gt : OpR X (compareOp .Gt) (rD X.K dGt) := by
  refine opd_b fun pins s σ H x y v u Q m μ d1 d2 k I rx ry st r1 r2 e q => ?_
  split at e
  · cases e
    simp only [RepV] at r1 r2
    subst r1 r2
    exact op_gt pins s σ H _ _ v u Q I rx ry ⟨_, _, rfl, rfl, q⟩
  · cases e
theorem opd_ge : OpR X (compareOp .GtE) (rD X.K dGe) := by
  refine opd_b fun pins s σ H x y v u Q m μ d1 d2 k I rx ry st r1 r2 e q => ?_
  split at e
  · cases e
    simp only [RepV] at r1 r2
    subst r1 r2
    exact op_ge pins s σ H _ _ v u Q I rx ry ⟨_, _, rfl, rfl, q⟩
  · cases e
theorem isNon_of {K : PySem.W.Frag} {m : List Addr} {H : Hp} {d : D} {x : V} (r : RepV K m H d x) : decide (x = .non) = isNon d := by
  cases d with
  | non => simp only [RepV] at r; subst r; rfl
  | bl b => simp only [RepV] at r; subst r; rfl
  | int b => simp only [RepV] at r; subst r; rfl
  | str b => simp only [RepV] at r; subst r; rfl
  | tup ds => simp only [RepV] at r; obtain ⟨a, vs, rfl, _⟩ := r; rfl
  | ls ds => simp only [RepV] at r; obtain ⟨a, vs, rfl, _⟩ := r; rfl
  | cel i => simp only [RepV] at r; obtain ⟨a, rfl, _⟩ := r; rfl
  | ty t => simp only [RepV] at r; subst r; rfl
theorem opd_is : OpR X (compareOp .Is) (rD X.K dIs) := by
  refine opd_b fun pins s σ H x y v u Q m μ d1 d2 k I rx ry st r1 r2 e q => ?_
  split at e
  · cases e
    simp only [RepV] at r2
    subst r2
    exact op_isN pins s σ H _ _ v u Q I rx ry ⟨rfl, by rw [isNon_of r1]; exact q⟩
  · cases e
theorem opd_isN : OpR X (compareOp .IsNot) (rD X.K dIsN) := by
  refine opd_b fun pins s σ H x y v u Q m μ d1 d2 k I rx ry st r1 r2 e q => ?_
  split at e
  · cases e
    simp only [RepV] at r2
    subst r2
    exact op_notN pins s σ H _ _ v u Q I rx ry ⟨rfl, by rw [isNon_of r1]; exact q⟩
  · cases e
end
end Mini
end

section
set_option Elab.async false
set_option linter.all false
set_option maxRecDepth 100000
/-! MSeq: subscripts, slices, displays, built-in calls on plain data. -/
namespace Mini
open PySem PySem.Spec PyProof.Rows L2 HT

/-! ### t[::-1] of a tuple -/
theorem rev_adjust (n : Nat) : Builtin.Slice.sliceAdjust none none (-1) (n : Int) = ((n : Int) - 1, -1) := by
  unfold Builtin.Slice.sliceAdjust
  rfl
theorem rev_places (n : Nat) : Builtin.Slice.slicePlaces ((n : Int) - 1) (-1) (-1) = n := by
  unfold Builtin.Slice.slicePlaces
  rw [if_neg (by decide)]
  by_cases h : (n : Int) - 1 > -1
  · rw [if_pos h]
    have e : -(-1 : Int) = 1 := by decide
    rw [e, Int.ediv_one]
    omega
  · rw [if_neg h]
    omega
theorem filterMap_some {α β : Type} (f : α → Option β) (g : α → β) : ∀ l : List α, (∀ a ∈ l, f a = some (g a)) → l.filterMap f = l.map g
  | [], _ => rfl
  | a :: l, h => by
    rw [List.filterMap_cons, h a List.mem_cons_self, List.map_cons, filterMap_some f g l fun b hb => h b (List.mem_cons_of_mem _ hb)]
theorem rev_pick (xs : Array Value) : ((List.range xs.size).filterMap fun (k : Nat) => xs[(((xs.size : Nat) : Int) - 1 + (k : Int) * (-1)).toNat]?).toArray = xs.toList.reverse.toArray := by
  congr 1
  have e : (fun (k : Nat) => xs[(((xs.size : Nat) : Int) - 1 + (k : Int) * (-1)).toNat]?) = fun (k : Nat) => xs[(((xs.size : Nat) : Int) - 1 - (k : Int)).toNat]? := by
    funext k
    have : ((xs.size : Nat) : Int) - 1 + (k : Int) * (-1) = ((xs.size : Nat) : Int) - 1 - k := by omega
    rw [this]
  rw [e]
  apply List.ext_getElem?
  intro i
  by_cases hi : i < xs.size
  · have h1 : ∀ j < xs.size, ∃ v, xs[(((xs.size : Nat) : Int) - 1 - (j : Nat)).toNat]? = some v := fun j hj => ⟨_, Array.getElem?_eq_getElem (by omega)⟩
    have h2 : (List.range xs.size).filterMap (fun (k : Nat) => xs[(((xs.size : Nat) : Int) - 1 - (k : Int)).toNat]?) = (List.range xs.size).map fun (k : Nat) => (xs[(((xs.size : Nat) : Int) - 1 - (k : Int)).toNat]?).getD Value.none := by
      refine filterMap_some _ _ _ fun k hk => ?_
      obtain ⟨v, hv⟩ := h1 k (List.mem_range.mp hk)
      rw [hv]
      rfl
    rw [h2, List.getElem?_map, List.getElem?_range hi, List.getElem?_reverse (by simpa using hi)]
    obtain ⟨v, hv⟩ := h1 i hi
    have hx : (((xs.size : Nat) : Int) - 1 - (i : Nat)).toNat = xs.size - 1 - i := by omega
    simp only [Option.map_some, hv, Option.getD_some]
    rw [hx] at hv
    simp only [Array.length_toList, Array.getElem?_toList]
    exact hv.symm
  · have h3 : xs.toList.reverse[i]? = none := List.getElem?_eq_none (by simp; omega)
    rw [h3]
    apply List.getElem?_eq_none
    refine Nat.le_trans (List.length_filterMap_le _ _) ?_
    rw [List.length_range]
    omega
section
variable {prog : Program} {w : World} {A : Around} {E : Value → Shared → Prop} {s : Shared}
theorem getItem_tuple_rev {t sl : Addr} {items : Array Value} {tk : Tok} {Q : Value → Shared → Prop} (ht : IsTup s.heap t items) (hs : s.heap.IsSliceOf sl .none .none (.int (-1) tk))
    (h : Q (.ref s.heap.objs.size) { s with heap := s.heap.push { cls := .type "tuple", data := .seq items.toList.reverse.toArray } })
    (hsz : items.size ≤ sizeLine) : wpAny (model prog w) A (getItem (.ref t) (.ref sl)) Q E s := by
  have htake : sizeOk (.seq items.toList.reverse.toArray) := by
    show items.toList.reverse.toArray.size ≤ sizeLine
    simpa using hsz
  obtain ⟨os, hos, hcs, hds⟩ := id hs
  have hTs : s.TypeIs (.ref sl) "slice" := ⟨os, hos, hcs⟩
  unfold getItem
  try with_reducible refine wpAny_holding ?_
  first | refine wpAny_bind (wpAny_pure ?_) | skip
  refine wpAny_bind (wpAny_sequenceKey ht.typeIs (by decide) ?_)
  refine wpAny_bind (wpAny_callSpecial?_slot (name := Str.ofString "__getitem__") ht.typeIs PyProof.Rows.slot_tuple_getitem
    (wpAny_call_entry PyProof.Rows.slot_tuple_getitem ht.typeIs entry_tuple_getitem ?_ (args_tuple_getitem _ _)))
  show wpAny _ _ (Builtin.Tuple.tupleItemsOf (.ref t) >>= _) _ _ s
  refine wpAny_bind (tupleItemsOf_ ht ?_)
  refine wpAny_bind (wpAny_typeOf hTs ?_)
  rw [if_pos (by decide)]
  have appl : ∀ {A : Around} {E : Value → Shared → Prop} {Q : Int × Int × Nat → Shared → Prop}, Q ((items.size : Int) - 1, -1, items.size) s → wpAny (model prog w) A (Builtin.Slice.sliceApplied (.ref sl) (pure (items.size : Int))) Q E s := fun {A E Q} hq => by
    unfold Builtin.Slice.sliceApplied Builtin.Slice.sliceFields
    refine wpAny_bind (wpAny_bind (wpAny_field hos hds (x := .none) rfl (wpAny_bind (wpAny_field hos hds (x := .none) rfl (wpAny_bind (wpAny_field hos hds (x := .int (-1) tk) rfl (wpAny_pure ?_)))))))
    refine wpAny_bind (slicePart_int ?_)
    show wpAny _ _ (if ((-1 : Int) == 0) = true then _ else _) _ _ s
    rw [if_neg (by decide)]
    refine wpAny_bind (slicePart_none (wpAny_bind (slicePart_none (wpAny_bind (wpAny_pure ?_)))))
    show wpAny _ _ (match Builtin.Slice.sliceAdjust none none (-1) (items.size : Int) with | (lo, hi) => pure (lo, (-1 : Int), Builtin.Slice.slicePlaces lo hi (-1))) _ _ s
    rw [rev_adjust]
    show wpAny _ _ (pure ((items.size : Int) - 1, (-1 : Int), Builtin.Slice.slicePlaces ((items.size : Int) - 1) (-1) (-1))) _ _ s
    rw [rev_places]
    exact wpAny_pure hq
  refine wpAny_bind (appl ?_)
  have hno : ¬ ((((items.size : Int) - 1 == 0 && (-1 : Int) == 1 && items.size == items.size) = true)) := by
    intro q
    rw [Bool.and_eq_true, Bool.and_eq_true] at q
    exact absurd q.1.2 (by decide)
  show wpAny _ _ (if ((items.size : Int) - 1 == 0 && (-1 : Int) == 1 && items.size == items.size) = true then _ else _) _ _ s
  rw [if_neg hno, rev_pick]
  first
    | exact wpAny_bind (m := Builtin.Tuple.tupleExact _) (wpAny_newObj_type (wpAny_pure ⟨_, rfl, wpAny_pure h⟩) htake)
    | exact wpAny_bind (m := Builtin.Tuple.tupleExact _) (wpAny_newObj_type (wpAny_bind (wpAny_pure (wpAny_pure ⟨_, rfl, wpAny_pure h⟩))) htake)
    | exact wpAny_bind (wpAny_bind (m := Builtin.Tuple.tupleExact _) (wpAny_newObj_type (wpAny_pure (wpAny_pure ⟨_, rfl, wpAny_pure h⟩)) htake))
    | exact wpAny_bind (wpAny_bind (m := Builtin.Tuple.tupleExact _) (wpAny_newObj_type (wpAny_pure ⟨_, rfl, wpAny_pure h⟩) htake))
end
section
variable {X : Cx}
def tRevT (K : PySem.W.Frag) (te : TE) : TE := fun σ H Q => te σ H fun x H1 => ∃ a xs, x = .ref a ∧ SqT K H1 a xs ∧ ∀ p, H1 p = none → Q (.ref p) (upd H1 p (.tup xs.reverse))
theorem pe_revT {e : Expr} {te : TE} {k : Nat} {p1 p2 p3 pos : Pos} (he : PE X e te) : PE X (.Subscript e (.Slice none none (some (.UnaryOp .USub (.Constant (.int 1) k p1) p2)) p3) pos) (tRevT X.K te) := by
  refine ⟨fun pins s σ H Q I h => ?_⟩
  refine Subscript_ (thn (he.run pins s σ H _ I h) fun v s1 ⟨x, H1, I1, r1, q1⟩ => ?_)
  obtain ⟨a, xs, ex, hx, q⟩ := q1
  subst ex
  cases r1
  have hst : PO X (some (.UnaryOp .USub (.Constant (.int 1) k p1) p2)) (tPart (tUn (rU fun i => .int (-i)) (tC (.int 1)))) := po_some (pe_un un_neg pe_int)
  refine wpAny_Slice (thn (po_none.run pins s1 σ H1 (fun o H2 => o = none ∧ H2 = H1) I1 ⟨rfl, rfl⟩) fun vl s2 ⟨l, H2, I2, pl, el, e2⟩ => ?_)
  subst el e2
  refine thn (po_none.run pins s2 σ H2 (fun o H3 => o = none ∧ H3 = H2) I2 ⟨rfl, rfl⟩) fun vu s3 ⟨u, H3, I3, pu, eu, e3⟩ => ?_
  subst eu e3
  refine thn (hst.run pins s3 σ H3 (fun o H4 => o = some (-1) ∧ H4 = H3) I3 ⟨1, rfl, -1, rfl, rfl, rfl⟩) fun vs s4 ⟨o, H4, I4, ps, eo, e4⟩ => ?_
  subst eo e4
  have I5 : Inv X pins σ H4 { s4 with heap := s4.heap.push { cls := .type "slice", data := .fields #[vl, vu, vs] } } := I4.kept (t' := s4.toks) fun b ob q => Heap.get?_push_of_some _ q
  obtain ⟨its, r, ht, hz⟩ := I5.tuple hx
  have hlen := r.length
  cases pl
  cases pu
  cases ps with
  | int i tk =>
  show wpAny (model X.prog X.w) X.A (subscriptTail e (.Slice none none (some (.UnaryOp .USub (.Constant (.int 1) k p1) p2)) p3) (.ref a) (.ref s4.heap.objs.size)) (EP X pins σ Q) X.xe { s4 with heap := s4.heap.push { cls := .type "slice", data := .fields #[.none, .none, .int (-1) tk] } }
  refine tail_any (ops := [.ref a, .ref s4.heap.objs.size]) ht.typeIs (PyProof.Rows.slot_tuple_getitem.lookup) ?_ (by with_unfolding_all rfl)
  refine getItem_tuple_rev ht (Heap.IsSliceOf.new _ _ _ _) ?_ (by rw [List.size_toArray]; omega)
  refine ⟨.ref _, _, I5.laid (t' := s4.toks) (o := .tup xs.reverse) (fun b ob q => Heap.get?_push_of_some _ q) (Nat.le_refl _) ?_, rfl, q _ (I5.hok.fresh (Nat.le_refl _))⟩
  exact ⟨by rw [List.length_reverse]; exact hz, _, r.reverse, ⟨_, Heap.get?_push_size _ rfl, rfl, 0, by simp⟩⟩
end

/-! ### one item -/
def dIx : Op2
  | .tup ds, .int i, μ => (atI ds i).map fun d => (d, μ)
  | .ls ds, .int i, μ => (atI ds i).map fun d => (d, μ)
  | .cel n, .int i, μ => match μ[n]? with
    | some (.lst ds) => (atI ds i).map fun d => (d, μ)
    | none => none
  | .str z, .int i, μ => if z.length ≤ seqMax then (atI z.cps.toList i).map fun c => (.str ⟨#[c]⟩, μ) else none
  | _, _, _ => none
theorem RepL.atI {K : PySem.W.Frag} {m : List Addr} {H : Hp} {ds : List D} {vs : List V} {i : Int} {d : D} (r : RepL K m H ds vs) (e : L2.atI ds i = some d) : ∃ v, L2.atI vs i = some v ∧ RepV K m H d v := by
  unfold L2.atI at e ⊢
  rw [r.length]
  cases q : ixN ds.length i with
  | none => rw [q] at e; cases e
  | some j =>
    rw [q] at e
    exact r.get e
section
variable {X : Cx}
theorem ixd : IxR X (rD X.K dIx) := by
  have key : ∀ x y H Q, rD X.K dIx x y H Q → rIx X.K x y H Q := by
    intro x y H Q h
    obtain ⟨m, μ, d1, d2, d, μ', st, r1, r2, e, b⟩ := h
    unfold dIx at e
    split at e
    · simp only [RepV] at r1 r2
      obtain ⟨p, vs, rfl, hp, l⟩ := r1
      subst r2
      rename_i ds i
      cases q : L2.atI ds i with
      | none => rw [q] at e; cases e
      | some d' =>
        rw [q] at e; cases e
        obtain ⟨v, hv, rv⟩ := l.atI q
        exact .inr (.inl ⟨p, vs, _, v, rfl, rfl, hp, hv, b.now st rv⟩)
    · simp only [RepV] at r1 r2
      obtain ⟨p, vs, rfl, hp, l⟩ := r1
      subst r2
      rename_i ds i
      cases q : L2.atI ds i with
      | none => rw [q] at e; cases e
      | some d' =>
        rw [q] at e; cases e
        obtain ⟨v, hv, rv⟩ := l.atI q
        exact .inl ⟨p, vs, _, v, rfl, rfl, hp.seq, hv, b.now st rv⟩
    · simp only [RepV] at r1 r2
      obtain ⟨p, rfl, hp⟩ := r1
      subst r2
      split at e
      · rename_i i _ ds hn
        obtain ⟨p', vs, hp', hx, l⟩ := st.lst hn
        rw [hp] at hp'; cases hp'
        cases q : L2.atI ds i with
        | none => rw [q] at e; cases e
        | some d' =>
          rw [q] at e; cases e
          obtain ⟨v, hv, rv⟩ := l.atI q
          exact .inl ⟨p, vs, _, v, rfl, rfl, SqL.of hx, hv, b.now st rv⟩
      · cases e
    · simp only [RepV] at r1 r2
      subst r1 r2
      split at e
      · rename_i z i hz
        cases q : L2.atI z.cps.toList i with
        | none => rw [q] at e; cases e
        | some c =>
          rw [q] at e; cases e
          exact .inr (.inr ⟨z, i, c, rfl, rfl, seqMax_le hz, q, b.str st⟩)
      · cases e
    · cases e
  have base : IxR X (rIx X.K) := ix_seq
  exact fun p1 p2 p3 p4 p5 p6 p7 p8 p9 p10 p11 I r1 r2 q hs => base p1 p2 p3 p4 p5 p6 p7 p8 p9 p10 p11 I r1 r2 (key _ _ _ _ q) hs
end
def isSlice : Expr → Bool
  | .Slice _ _ _ _ => true
  | _ => false
theorem plainIx_of {b : Expr} (h : isSlice b = false) : PlainIx b := by
  intro o i
  cases b <;> first
    | rfl
    | cases h
section
variable {X : Cx} {a b : Expr} {pos : Pos} {fa fb : EvF}
theorem pi_ix (ha : PE X a (TI X.K fa)) (hb : PE X b (TI X.K fb)) (hs : isSlice b = false) : PE X (.Subscript a b pos) (TI X.K (fBin dIx fa fb)) :=
  PE.imp (pe_ix ixd ha hb (plainIx_of hs)) fun _ _ _ h => ti_bin h
end

/-! ### slices -/
abbrev EvO := Slots → Store → Option (Option Int × Store)
def TIO (K : PySem.W.Frag) (f : EvO) : TO := fun σ H Q => ∃ m ρ μ o μ', RelS K m H ρ σ ∧ Sto K m H μ ∧ f ρ μ = some (o, μ') ∧ BackT K m H μ' (Q o)
def fPart0 : EvO := fun _ μ => some (none, μ)
def fPart (f : EvF) : EvO := fun ρ μ => match f ρ μ with
  | some (.int i, μ') => some (some i, μ')
  | _ => none
theorem PO.imp {X : Cx} {e : Option Expr} {t t' : TO} (h : PO X e t) (w : ∀ σ H Q, t' σ H Q → t σ H Q) : PO X e t' :=
  ⟨fun pins s σ H Q I q => h.run pins s σ H Q I (w σ H Q q)⟩
def cutG {α : Type} (xs : List α) (lo hi : Option Int) : List α := (xs.drop (HT.sIx xs.length 0 lo)).take (HT.sIx xs.length xs.length hi - HT.sIx xs.length 0 lo)
theorem RepL.cut {K : PySem.W.Frag} {m : List Addr} {H : Hp} {ds : List D} {vs : List V} (r : RepL K m H ds vs) (lo hi : Option Int) : RepL K m H (cutG ds lo hi) (cutV vs lo hi) := by
  unfold cutG cutV
  rw [r.length]
  exact (r.drop _).take _
def dSl : D → Option Int → Option Int → Store → Res
  | .tup ds, lo, hi, μ => some (.tup (cutG ds lo hi), μ)
  | .ls ds, lo, hi, μ => some (.cel μ.length, μ ++ [.lst (cutG ds lo hi)])
  | .cel n, lo, hi, μ => match μ[n]? with
    | some (.lst ds) => some (.cel μ.length, μ ++ [.lst (cutG ds lo hi)])
    | none => none
  | _, _, _, _ => none
def fSl (fa : EvF) (fl fh : EvO) : EvF := fun ρ μ => match fa ρ μ with
  | none => none
  | some (d, μ1) => match fl ρ μ1 with
    | none => none
    | some (lo, μ2) => match fh ρ μ2 with
      | none => none
      | some (hi, μ3) => dSl d lo hi μ3
def dRev : D → Store → Res
  | .tup ds, μ => some (.tup ds.reverse, μ)
  | .ls ds, μ => some (.cel μ.length, μ ++ [.lst ds.reverse])
  | .cel n, μ => match μ[n]? with
    | some (.lst ds) => some (.cel μ.length, μ ++ [.lst ds.reverse])
    | none => none
  | _, _ => none
def fUn (g : D → Store → Res) (fa : EvF) : EvF := fun ρ μ => match fa ρ μ with
  | none => none
  | some (d, μ1) => g d μ1
theorem PE.or {X : Cx} {e : Expr} {t t' : TE} (h : PE X e t) (h' : PE X e t') : PE X e (fun σ H Q => t σ H Q ∨ t' σ H Q) :=
  ⟨fun pins s σ H Q I q => q.elim (h.run pins s σ H Q I) (h'.run pins s σ H Q I)⟩
section
variable {X : Cx} {a b : Expr} {lo hi : Option Expr} {p2 pos : Pos} {fa fb : EvF} {fl fh : EvO}
theorem po_0 : PO X none (TIO X.K fPart0) := PO.imp po_none fun σ H Q h => by
  obtain ⟨m, ρ, μ, o, μ', r, s, e, b⟩ := h
  cases e
  exact b H m Ext.refl s
theorem po_1 (ha : PE X a (TI X.K fa)) : PO X (some a) (TIO X.K (fPart fa)) := PO.imp (po_some ha) fun σ H Q h => by
  obtain ⟨m, ρ, μ, o, μ', r, s, e, b⟩ := h
  unfold fPart at e
  split at e
  · rename_i i μ1 q
    cases e
    refine ⟨m, ρ, μ, _, _, r, s, q, fun v H1 m1 e1 s1 r1 => ?_⟩
    simp only [RepV] at r1
    exact ⟨i, r1, b H1 m1 e1 s1⟩
  · cases e
theorem pi_slice (ha : PE X a (TI X.K fa)) (hl : PO X lo (TIO X.K fl)) (hh : PO X hi (TIO X.K fh)) : PE X (.Subscript a (.Slice lo hi none p2) pos) (TI X.K (fSl fa fl fh)) := by
  refine PE.imp (pe_slice (sl_tupA.or sl_list) ha hl hh) fun σ H Q h => ?_
  obtain ⟨m, ρ, μ, d, μ', r, s, e, b⟩ := h
  unfold fSl at e
  split at e
  · cases e
  · rename_i d1 μ1 q1
    split at e
    · cases e
    · rename_i l1 μ2 q2
      split at e
      · cases e
      · rename_i h1 μ3 q3
        refine ⟨m, ρ, μ, d1, μ1, r, s, q1, fun x H1 m1 e1 s1 r1 => ?_⟩
        refine ⟨m1, ρ, μ1, l1, μ2, r.mono e1, s1, q2, fun H2 m2 e2 s2 => ?_⟩
        refine ⟨m2, ρ, μ2, h1, μ3, (r.mono e1).mono e2, s2, q3, fun H3 m3 e3 s3 => ?_⟩
        have b3 := b.ext ((e1.trans e2).trans e3)
        have r3 := RepV.mono (e2.trans e3) _ _ r1
        unfold dSl at e
        split at e
        · cases e
          simp only [RepV] at r3
          obtain ⟨p, vs, rfl, hp, l⟩ := r3
          refine .inl ⟨p, vs, rfl, hp, fun hw => b3.now s3 ?_, fun _ a ha => b3.tup s3 (l.cut _ _) ha⟩
          simp only [RepV]
          refine ⟨p, vs, rfl, hp, ?_⟩
          have hc : cutV vs l1 h1 = vs := by
            unfold cutV
            rw [hw.1, hw.2]
            simp
          rw [← hc]
          exact l.cut _ _
        · cases e
          simp only [RepV] at r3
          obtain ⟨p, vs, rfl, hp, l⟩ := r3
          exact .inr ⟨p, vs, rfl, hp.seq, fun a ha => b3.lst s3 (l.cut _ _) ha⟩
        · split at e
          · cases e
            rename_i hn
            simp only [RepV] at r3
            obtain ⟨p, rfl, hp⟩ := r3
            obtain ⟨p', vs, hp', hx, l⟩ := s3.lst hn
            rw [hp] at hp'; cases hp'
            exact .inr ⟨p, vs, rfl, SqL.of hx, fun a ha => b3.lst s3 (l.cut _ _) ha⟩
          · cases e
        · cases e
theorem pi_rev {k : Nat} {p1 p3 : Pos} (ha : PE X a (TI X.K fa)) : PE X (.Subscript a (.Slice none none (some (.UnaryOp .USub (.Constant (.int 1) k p1) p2)) p3) pos) (TI X.K (fUn dRev fa)) := by
  refine PE.imp (PE.or (pe_revT ha) (pe_revL ha)) fun σ H Q h => ?_
  obtain ⟨m, ρ, μ, d, μ', r, s, e, b⟩ := h
  unfold fUn at e
  split at e
  · cases e
  · rename_i d1 μ1 q1
    unfold dRev at e
    split at e
    · cases e
      refine .inl ⟨m, ρ, μ, _, _, r, s, q1, fun x H1 m1 e1 s1 r1 => ?_⟩
      simp only [RepV] at r1
      obtain ⟨p, vs, rfl, hp, l⟩ := r1
      exact ⟨p, vs, rfl, hp, fun a ha => (b.ext e1).tup s1 l.reverse ha⟩
    · cases e
      refine .inr ⟨m, ρ, μ, _, _, r, s, q1, fun x H1 m1 e1 s1 r1 => ?_⟩
      simp only [RepV] at r1
      obtain ⟨p, vs, rfl, hp, l⟩ := r1
      exact ⟨p, vs, rfl, hp.seq, fun a ha => (b.ext e1).lst s1 l.reverse ha⟩
    · split at e
      · cases e
        rename_i hn
        refine .inr ⟨m, ρ, μ, _, _, r, s, q1, fun x H1 m1 e1 s1 r1 => ?_⟩
        simp only [RepV] at r1
        obtain ⟨p, rfl, hp⟩ := r1
        obtain ⟨p', vs, hp', hx, l⟩ := s1.lst hn
        rw [hp] at hp'; cases hp'
        exact ⟨p, vs, rfl, SqL.of hx, fun a ha => (b.ext e1).lst s1 l.reverse ha⟩
      · cases e
    · cases e
def dNeg : D → Store → Res
  | .int i, μ => some (.int (-i), μ)
  | _, _ => none
theorem pi_neg (ha : PE X a (TI X.K fa)) : PE X (.UnaryOp .USub a pos) (TI X.K (fUn dNeg fa)) := by
  refine PE.imp (pe_un un_neg ha) fun σ H Q h => ?_
  obtain ⟨m, ρ, μ, d, μ', r, s, e, b⟩ := h
  unfold fUn at e
  split at e
  · cases e
  · rename_i d1 μ1 q1
    unfold dNeg at e
    split at e
    · cases e
      refine ⟨m, ρ, μ, _, _, r, s, q1, fun x H1 m1 e1 s1 r1 => ?_⟩
      simp only [RepV] at r1
      exact ⟨_, r1, (b.ext e1).int s1⟩
    · cases e
end

/-! ### argument lists, displays -/
def fNil : EvA := fun _ μ => some ([], μ)
def fCons (f : EvF) (g : EvA) : EvA := fun ρ μ => match f ρ μ with
  | none => none
  | some (d, μ1) => match g ρ μ1 with
    | none => none
    | some (ds, μ2) => some (d :: ds, μ2)
def fTup (g : EvA) : EvF := fun ρ μ => match g ρ μ with
  | none => none
  | some (ds, μ1) => if ds.length ≤ seqMax then some (.tup ds, μ1) else none
def fLst (g : EvA) : EvF := fun ρ μ => match g ρ μ with
  | none => none
  | some (ds, μ1) => if ds.length ≤ seqMax then some (.cel μ1.length, μ1 ++ [.lst ds]) else none
def isStar : Expr → Bool
  | .Starred _ _ => true
  | _ => false
theorem starEach_of {e : Expr} {es : List Expr} {env : Env} (h : isStar e = false) : starEach (e :: es) env = (false, eval e env) :: starEach es env := by
  cases e <;> first
    | rfl
    | cases h
theorem starEach_any {env : Env} {pos : Pos} : ∀ {es : List Expr}, es.all (fun e => !isStar e) = true → (backTo pos (starEach es env)).any (·.1) = false
  | [], _ => rfl
  | e :: es, h => by
    rw [List.all_cons, Bool.and_eq_true] at h
    have h1 : isStar e = false := by
      cases q : isStar e with
      | false => rfl
      | true => rw [q] at h; exact absurd h.1 (by decide)
    rw [starEach_of h1]
    show (false || (backTo pos (starEach es env)).any (·.1)) = false
    rw [starEach_any h.2]
    rfl
section
variable {X : Cx} {a : Expr} {es : List Expr} {pos : Pos} {fa : EvF} {g : EvA}
theorem pia_nil : PA X [] (TIA X.K fNil) := PA.imp pa_nil fun σ H Q h => by
  obtain ⟨m, ρ, μ, d, μ', r, s, e, b⟩ := h
  cases e
  exact b [] H m Ext.refl s (by simp [RepL])
theorem pia_cons (ha : PE X a (TI X.K fa)) (hs : PA X es (TIA X.K g)) (h : isStar a = false) : PA X (a :: es) (TIA X.K (fCons fa g)) := by
  refine PA.imp (pa_cons ha hs (starEach_of h)) fun σ H Q h => ?_
  obtain ⟨m, ρ, μ, ds, μ', r, s, e, b⟩ := h
  unfold fCons at e
  split at e
  · cases e
  · rename_i d1 μ1 q1
    split at e
    · cases e
    · rename_i ds2 μ2 q2
      cases e
      refine ⟨m, ρ, μ, d1, μ1, r, s, q1, fun x H1 m1 e1 s1 r1 => ?_⟩
      refine ⟨m1, ρ, μ1, ds2, _, r.mono e1, s1, q2, fun xs H2 m2 e2 s2 r2 => ?_⟩
      refine b _ _ _ (e1.trans e2) s2 ?_
      simp only [RepL]
      exact ⟨x, xs, rfl, RepV.mono e2 _ _ r1, r2⟩
theorem pi_tup {k : Nat} (hs : PA X es (TIA X.K g)) : PE X (.Tuple es k pos) (TI X.K (fTup g)) := by
  refine PE.imp (pe_tup hs) fun σ H Q h => ?_
  obtain ⟨m, ρ, μ, d, μ', r, s, e, b⟩ := h
  unfold fTup at e
  split at e
  · cases e
  · rename_i ds μ1 q1
    split at e <;> cases e
    rename_i hz
    refine ⟨m, ρ, μ, ds, _, r, s, q1, fun xs H1 m1 e1 s1 r1 => ⟨by rw [r1.length]; exact seqMax_le hz, fun p hp => ?_⟩⟩
    exact (b.ext e1).tup s1 r1 hp
theorem pi_lst (hs : PA X es (TIA X.K g)) : PE X (.List es pos) (TI X.K (fLst g)) := by
  refine PE.imp (pe_lst hs) fun σ H Q h => ?_
  obtain ⟨m, ρ, μ, d, μ', r, s, e, b⟩ := h
  unfold fLst at e
  split at e
  · cases e
  · rename_i ds μ1 q1
    split at e <;> cases e
    rename_i hz
    refine ⟨m, ρ, μ, ds, _, r, s, q1, fun xs H1 m1 e1 s1 r1 => ⟨by rw [r1.length]; exact seqMax_le hz, fun p hp => ?_⟩⟩
    exact (b.ext e1).lst s1 r1 hp
end

/-! ### built-in calls -/
abbrev OpA := List D → Store → Res
def rC (K : PySem.W.Frag) (g : OpA) : List V → Hp → VK → Prop := fun xs H Q => ∃ m μ ds d μ', Sto K m H μ ∧ RepL K m H ds xs ∧ g ds μ = some (d, μ') ∧ Back K m H d μ' Q
def fApp (g : OpA) (fa : EvA) : EvF := fun ρ μ => match fa ρ μ with
  | none => none
  | some (ds, μ1) => g ds μ1
theorem ti_app {K : PySem.W.Frag} {g : OpA} {fa : EvA} {σ : L2.St} {H : Hp} {Q : VK} (h : TI K (fApp g fa) σ H Q) : tCB (rC K g) (TIA K fa) σ H Q := by
  obtain ⟨m, ρ, μ, d, μ', r, s, e, b⟩ := h
  unfold fApp at e
  split at e
  · cases e
  · rename_i ds μ1 q1
    exact ⟨m, ρ, μ, ds, μ1, r, s, q1, fun xs H1 m1 e1 s1 r1 => ⟨m1, μ1, ds, d, μ', s1, r1, e, b.ext e1⟩⟩
def bAbs : OpA
  | [.int i], μ => some (.int (i.natAbs : Int), μ)
  | _, _ => none
def seqOf (μ : Store) : D → Option (List D)
  | .tup ds => some ds
  | .ls ds => some ds
  | .cel n => match μ[n]? with
    | some (.lst ds) => some ds
    | none => none
  | _ => none
def bLen : OpA
  | [.str z], μ => if z.length ≤ seqMax then some (.int z.length, μ) else none
  | [d], μ => (seqOf μ d).map fun ds => (.int ds.length, μ)
  | _, _ => none
def bInt : OpA
  | [.int i], μ => some (.int i, μ)
  | [.bl k], μ => some (.int (if k then 1 else 0), μ)
  | _, _ => none
def blsOf : List D → Option (List Bool)
  | [] => some []
  | .bl b :: ds => (blsOf ds).map (b :: ·)
  | _ => none
def bAll : OpA
  | [.cel n], μ => match μ[n]? with
    | some (.lst ds) => (blsOf ds).map fun bs => (.bl (bs.all id), μ)
    | none => none
  | _, _ => none
def bAny : OpA
  | [.cel n], μ => match μ[n]? with
    | some (.lst ds) => (blsOf ds).map fun bs => (.bl (bs.any id), μ)
    | none => none
  | _, _ => none
def bTuple : OpA
  | [.tup ds], μ => some (.tup ds, μ)
  | [.ls ds], μ => some (.tup ds, μ)
  | [.cel n], μ => match μ[n]? with
    | some (.lst ds) => some (.tup ds, μ)
    | none => none
  | _, _ => none
def bList : OpA
  | [d], μ => (seqOf μ d).map fun ds => (.cel μ.length, μ ++ [.lst ds])
  | _, _ => none
def tyOf : D → Option Ty
  | .int _ => some .int
  | .bl _ => some .bool
  | .str _ => some .str
  | .tup _ => some .tuple
  | .ls _ => some .list
  | .cel _ => some .list
  | _ => none
def subTy : Ty → Ty → Bool
  | .bool, .int => true
  | a, b => decide (a = b)
def bIsi : OpA
  | [.non, .ty _], μ => some (.bl false, μ)
  | [d, .ty t], μ => (tyOf d).map fun u => (.bl (subTy u t), μ)
  | _, _ => none
theorem kit_sub (a b : Ty) : kitB a.name b.name = some (subTy a b) := by
  cases a <;> cases b <;> decide +kernel
theorem kit_non (b : Ty) : kitB "NoneType" b.name = some false := by
  cases b <;> decide +kernel
section
variable {X : Cx}
theorem RepL.one_of {K : PySem.W.Frag} {m : List Addr} {H : Hp} {d : D} {xs : List V} (r : RepL K m H [d] xs) : ∃ v, xs = [v] ∧ RepV K m H d v := by
  simp only [RepL] at r
  obtain ⟨v, rr, rfl, h, rfl⟩ := r
  exact ⟨v, rfl, h⟩
theorem RepL.two_of {K : PySem.W.Frag} {m : List Addr} {H : Hp} {d e : D} {xs : List V} (r : RepL K m H [d, e] xs) : ∃ v w, xs = [v, w] ∧ RepV K m H d v ∧ RepV K m H e w := by
  simp only [RepL] at r
  obtain ⟨v, rr, rfl, h, w, r3, rfl, h2, rfl⟩ := r
  exact ⟨v, w, rfl, h, h2⟩
theorem seq_of {K : PySem.W.Frag} {m : List Addr} {H : Hp} {μ : Store} {d : D} {v : V} {ds : List D} (st : Sto K m H μ) (r : RepV K m H d v) (e : seqOf μ d = some ds) : ∃ p vs, v = .ref p ∧ (SqL K H p vs ∨ SqT K H p vs) ∧ RepL K m H ds vs := by
  unfold seqOf at e
  split at e
  · cases e
    simp only [RepV] at r
    obtain ⟨p, vs, rfl, hp, l⟩ := r
    exact ⟨p, vs, rfl, .inr hp, l⟩
  · cases e
    simp only [RepV] at r
    obtain ⟨p, vs, rfl, hp, l⟩ := r
    exact ⟨p, vs, rfl, .inl hp.seq, l⟩
  · split at e
    · cases e
      rename_i hn
      simp only [RepV] at r
      obtain ⟨p, rfl, hp⟩ := r
      obtain ⟨p', vs, hp', hx, l⟩ := st.lst hn
      rw [hp] at hp'; cases hp'
      exact ⟨p, vs, rfl, .inl (SqL.of hx), l⟩
    · cases e
  · cases e
theorem crd {f : Value} {g : OpA}
    (h : ∀ (pins : List (Addr × Obj)) (s : Shared) (σ : L2.St) (H : Hp) (xs : List V) (us : List Value) (Q : VK) (m : List Addr) (μ : Store) (ds : List D) (d : D) (μ' : Store), L2.Inv X pins σ H s → L2.Vals xs us → Sto X.K m H μ → RepL X.K m H ds xs →
      g ds μ = some (d, μ') → Back X.K m H d μ' Q → wpAny (model X.prog X.w) X.A (call f us) (EP X pins σ Q) X.xe s) : CallR X f (rC X.K g) := by
  intro pins s σ H xs us Q I r hh
  obtain ⟨m, μ, ds, d, μ', st, rl, e, b⟩ := hh
  exact h pins s σ H xs us Q m μ ds d μ' I r st rl e b
theorem cd_abs : CallR X (.builtin "abs") (rC X.K bAbs) := crd fun pins s σ H xs us Q m μ ds d μ' I r st rl e b => by
  unfold bAbs at e
  split at e
  · cases e
    obtain ⟨v, rfl, hv⟩ := rl.one_of
    simp only [RepV] at hv
    subst hv
    rename_i i
    refine call_abs pins s σ H _ us Q I r ⟨i, rfl, ?_⟩
    have q : (if i < 0 then -i else i) = (i.natAbs : Int) := by
      split <;> omega
    rw [q]
    exact b.int st
  · cases e
theorem cd_len : CallR X (.builtin "len") (rC X.K bLen) := crd fun pins s σ H xs us Q m μ ds d μ' I r st rl e b => by
  unfold bLen at e
  split at e
  · split at e <;> cases e
    rename_i hz
    obtain ⟨v, rfl, hv⟩ := rl.one_of
    simp only [RepV] at hv
    subst hv
    exact call_len_str pins s σ H _ us Q I r ⟨_, rfl, seqMax_le hz, b.int st⟩
  · rename_i d1 _
    cases q : seqOf μ d1 with
    | none => rw [q] at e; cases e
    | some es =>
      rw [q] at e; cases e
      obtain ⟨v, rfl, hv⟩ := rl.one_of
      obtain ⟨p, vs, rfl, hp, l⟩ := seq_of st hv q
      refine call_len_seq pins s σ H _ us Q I r ⟨p, vs, rfl, hp, ?_⟩
      rw [l.length]
      exact b.int st
  · cases e
theorem cd_int : CallR X (.type "int") (rC X.K bInt) := crd fun pins s σ H xs us Q m μ ds d μ' I r st rl e b => by
  unfold bInt at e
  split at e
  · cases e
    obtain ⟨v, rfl, hv⟩ := rl.one_of
    simp only [RepV] at hv
    subst hv
    exact call_int1 pins s σ H _ us Q I r (.inl ⟨_, rfl, b.int st⟩)
  · cases e
    obtain ⟨v, rfl, hv⟩ := rl.one_of
    simp only [RepV] at hv
    subst hv
    exact call_int1 pins s σ H _ us Q I r (.inr ⟨_, rfl, b.int st⟩)
  · cases e
theorem bls_of {K : PySem.W.Frag} {m : List Addr} {H : Hp} : ∀ {ds : List D} {vs : List V} {bs : List Bool}, RepL K m H ds vs → blsOf ds = some bs → vs = bs.map V.bl
  | [], _, _, r, e => by
    simp only [RepL] at r; simp only [blsOf] at e
    cases e; exact r
  | d :: ds, _, bs, r, e => by
    simp only [RepL] at r
    obtain ⟨v, rr, rfl, h1, h2⟩ := r
    cases d with
    | bl k =>
      simp only [RepV] at h1
      subst h1
      simp only [blsOf] at e
      cases q : blsOf ds with
      | none => rw [q] at e; cases e
      | some cs =>
        rw [q] at e; cases e
        rw [List.map_cons, bls_of h2 q]
    | _ => simp only [blsOf] at e; cases e
theorem cd_all (hc : X.calm = true) : CallR X (.builtin "all") (rC X.K bAll) := crd fun pins s σ H xs us Q m μ ds d μ' I r st rl e b => by
  unfold bAll at e
  split at e
  · split at e
    · rename_i es hn
      cases q : blsOf es with
      | none => rw [q] at e; cases e
      | some bs =>
        rw [q] at e; cases e
        obtain ⟨v, rfl, hv⟩ := rl.one_of
        simp only [RepV] at hv
        obtain ⟨p, rfl, hp⟩ := hv
        obtain ⟨p', vs, hp', hx, l⟩ := st.lst hn
        rw [hp] at hp'; cases hp'
        refine cr_all hc pins s σ H _ us Q I r ⟨p, bs, rfl, ?_, b.bl st⟩
        rw [← bls_of l q]
        exact SqL.of hx
    · cases e
  · cases e
theorem cd_any (hc : X.calm = true) : CallR X (.builtin "any") (rC X.K bAny) := crd fun pins s σ H xs us Q m μ ds d μ' I r st rl e b => by
  unfold bAny at e
  split at e
  · split at e
    · rename_i es hn
      cases q : blsOf es with
      | none => rw [q] at e; cases e
      | some bs =>
        rw [q] at e; cases e
        obtain ⟨v, rfl, hv⟩ := rl.one_of
        simp only [RepV] at hv
        obtain ⟨p, rfl, hp⟩ := hv
        obtain ⟨p', vs, hp', hx, l⟩ := st.lst hn
        rw [hp] at hp'; cases hp'
        refine cr_any hc pins s σ H _ us Q I r ⟨p, bs, rfl, ?_, b.bl st⟩
        rw [← bls_of l q]
        exact SqL.of hx
    · cases e
  · cases e
theorem cd_tuple : CallR X (.type "tuple") (rC X.K bTuple) := crd fun pins s σ H xs us Q m μ ds d μ' I r st rl e b => by
  unfold bTuple at e
  split at e
  · cases e
    obtain ⟨v, rfl, hv⟩ := rl.one_of
    have hv' := hv
    simp only [RepV] at hv
    obtain ⟨p, vs, rfl, hp, l⟩ := hv
    exact call_tuple_of pins s σ H _ us Q I r ⟨p, vs, rfl, .inr ⟨hp, b.now st hv'⟩⟩
  · cases e
    obtain ⟨v, rfl, hv⟩ := rl.one_of
    simp only [RepV] at hv
    obtain ⟨p, vs, rfl, hp, l⟩ := hv
    exact call_tuple_of pins s σ H _ us Q I r ⟨p, vs, rfl, .inl ⟨hp.seq, fun a ha => b.tup st l ha⟩⟩
  · split at e
    · cases e
      rename_i hn
      obtain ⟨v, rfl, hv⟩ := rl.one_of
      simp only [RepV] at hv
      obtain ⟨p, rfl, hp⟩ := hv
      obtain ⟨p', vs, hp', hx, l⟩ := st.lst hn
      rw [hp] at hp'; cases hp'
      exact call_tuple_of pins s σ H _ us Q I r ⟨p, vs, rfl, .inl ⟨SqL.of hx, fun a ha => b.tup st l ha⟩⟩
    · cases e
  · cases e
theorem cd_list : CallR X (.type "list") (rC X.K bList) := crd fun pins s σ H xs us Q m μ ds d μ' I r st rl e b => by
  unfold bList at e
  split at e
  · rename_i d1
    cases q : seqOf μ d1 with
    | none => rw [q] at e; cases e
    | some es =>
      rw [q] at e; cases e
      obtain ⟨v, rfl, hv⟩ := rl.one_of
      obtain ⟨p, vs, rfl, hp, l⟩ := seq_of st hv q
      exact call_list_of pins s σ H _ us Q I r ⟨p, vs, rfl, hp, fun a ha => b.lst st l ha⟩
  · cases e
theorem tyX_tup {K : PySem.W.Frag} {H : Hp} {p : Addr} {vs : List V} (h : SqT K H p vs) : TyX K H (.ref p) (.type "tuple") := by
  rcases h with (h | ⟨o, h⟩) | ⟨o, its, n, h, c, _⟩
  · exact .base (.tup h)
  · exact .fTuple h
  · exact .kTuple h c
theorem tyX_ls {K : PySem.W.Frag} {H : Hp} {p : Addr} {vs : List V} (h : SqR K H p vs) : TyX K H (.ref p) (.type "list") := by
  rcases h with ⟨o, h⟩ | ⟨o, its, n, h, c, _⟩
  · exact .base (.frz h)
  · exact .kList h c
theorem tyX_of {K : PySem.W.Frag} {m : List Addr} {H : Hp} {μ : Store} {d : D} {v : V} {u : Ty} (st : Sto K m H μ) (r : RepV K m H d v) (e : tyOf d = some u) : TyX K H v (.type u.name) := by
  cases d with
  | non => cases e
  | ty t => cases e
  | bl b => cases e; simp only [RepV] at r; subst r; exact .base (.bl b)
  | int b => cases e; simp only [RepV] at r; subst r; exact .base (.int b)
  | str b => cases e; simp only [RepV] at r; subst r; exact .base (.str b)
  | tup ds => cases e; simp only [RepV] at r; obtain ⟨p, vs, rfl, hp, _⟩ := r; exact tyX_tup hp
  | ls ds => cases e; simp only [RepV] at r; obtain ⟨p, vs, rfl, hp, _⟩ := r; exact tyX_ls hp
  | cel n =>
    cases e
    simp only [RepV] at r
    obtain ⟨p, rfl, hp⟩ := r
    have hn : n < μ.length := by rw [← st.len]; exact (List.getElem?_eq_some_iff.mp hp).1
    obtain ⟨a, h1, h2⟩ := st.at_ n _ (List.getElem?_eq_getElem hn)
    rw [hp] at h1; cases h1
    obtain ⟨vs, h3⟩ := h2.there
    exact .base (.lst h3)
theorem cd_isi : CallR X (.builtin "isinstance") (rC X.K bIsi) := crd fun pins s σ H xs us Q m μ ds d μ' I r st rl e b => by
  unfold bIsi at e
  split at e
  · cases e
    rename_i t
    obtain ⟨v, w, rfl, hv, hw⟩ := rl.two_of
    simp only [RepV] at hv hw
    subst hv hw
    exact call_isi pins s σ H _ us Q I r ⟨_, _, _, _, false, rfl, .ty t.name, .base .non, kit_ty (kit_non t), b.bl st⟩
  · rename_i d1 t _
    cases q : tyOf d1 with
    | none => rw [q] at e; cases e
    | some u =>
      rw [q] at e; cases e
      obtain ⟨v, w, rfl, hv, hw⟩ := rl.two_of
      have hx := tyX_of st hv q
      simp only [RepV] at hw
      subst hw
      exact call_isi pins s σ H _ us Q I r ⟨_, _, _, _, subTy u t, rfl, .ty t.name, hx, kit_ty (kit_sub u t), b.bl st⟩
  · cases e
end
end Mini
end

section
set_option Elab.async false
set_option linter.all false
set_option maxRecDepth 100000
/-! MStm: tests, statements, targets, loops, comprehensions, calls on plain data. -/
namespace Mini
open PySem PySem.Spec PyProof.Rows L2 HT

/-! ### names and constants -/
def fVar (i : Nat) : EvF := fun ρ μ => match ρ[i]? with
  | some (some d) => some (d, μ)
  | _ => none
def fCon (d : D) : EvF := fun _ μ => some (d, μ)
section
variable {X : Cx} {x : Str} {pos : Pos}
theorem pi_var {i : Nat} (hN : X.N[i]? = some x) (hv : Vis X.env.scope x) (hd : (x == ("__debug__" : Str)) = false) (hcd : (x == ("__classdict__" : Str)) = false) : PE X (.Name x pos) (TI X.K (fVar i)) :=
  PE.imp (pe_var hN hv hd hcd) fun σ H Q h => by
    obtain ⟨m, ρ, μ, d, μ', r, s, e, b⟩ := h
    unfold fVar at e
    split at e
    · rename_i d' q
      cases e
      obtain ⟨v, h1, h2⟩ := r.at_ i _ q
      exact ⟨v, h1, b.now s h2⟩
    · cases e
theorem ti_con {K : PySem.W.Frag} {d : D} {v : V} (h : ∀ m H, RepV K m H d v) : ∀ σ H Q, TI K (fCon d) σ H Q → tC v σ H Q := fun σ H Q hh => by
  obtain ⟨m, ρ, μ, d', μ', r, s, e, b⟩ := hh
  cases e
  exact b.now s (h m H)
theorem pi_int {i : Int} {j : Nat} : PE X (.Constant (.int i) j pos) (TI X.K (fCon (.int i))) := PE.imp pe_int (ti_con fun _ _ => by simp [RepV])
theorem pi_bl {i : Bool} {j : Nat} : PE X (.Constant (.bool i) j pos) (TI X.K (fCon (.bl i))) := PE.imp pe_bl (ti_con fun _ _ => by simp [RepV])
theorem pi_str {i : Str} {j : Nat} : PE X (.Constant (.str i) j pos) (TI X.K (fCon (.str i))) := PE.imp pe_str (ti_con fun _ _ => by simp [RepV])
theorem pi_non {j : Nat} : PE X (.Constant .none j pos) (TI X.K (fCon .non)) := PE.imp pe_non (ti_con fun _ _ => by simp [RepV])
theorem pi_glob {d : D} {v : V} {u : Value} (hg : Gl X x) (hm : X.mg x = some u) (r : L2.RelV v u) (h : ∀ m H, RepV X.K m H d v) (hd : (x == ("__debug__" : Str)) = false) : PE X (.Name x pos) (TI X.K (fCon d)) :=
  PE.imp (pe_glob hg hm r hd) (ti_con h)
theorem pi_ty {t : Ty} (hg : Gl X x) (hm : X.mg x = none) (hv : bootBuiltins x = some (.type t.name)) (hn : x ≠ "__name__") (hd : (x == ("__debug__" : Str)) = false) : PE X (.Name x pos) (TI X.K (fCon (.ty t))) :=
  PE.imp (pe_bltn (v := .ty t.name) hg hm hv rfl hn hd) (ti_con fun _ _ => by simp [RepV])
end

/-! ### calls -/
section
variable {X : Cx} {x : Str} {p pos : Pos} {e : Expr} {es : List Expr} {fa : EvA} {g : OpA}
theorem pi_callB {id : String} (hc : CallR X (.builtin id) (rC X.K g)) (hg : Gl X x) (hm : X.mg x = none) (hv : bootBuiltins x = some (.builtin id)) (ha : PA X (e :: es) (TIA X.K fa)) (hn : x ≠ "__name__") (hd : (x == ("__debug__" : Str)) = false)
    (hs : (e :: es).all (fun e => !isStar e) = true) : PE X (.Call (.Name x p) (e :: es) [] pos) (TI X.K (fApp g fa)) := by
  rw [List.all_cons, Bool.and_eq_true] at hs
  have h1 : isStar e = false := by
    cases q : isStar e with
    | false => rfl
    | true => rw [q] at hs; exact absurd hs.1 (by decide)
  exact PE.imp (pe_callB hc hg hm hv ha hn hd (starEach_of h1) (starEach_any hs.2)) fun _ _ _ h => ti_app h
theorem pi_callTy {T : String} (hc : CallR X (.type T) (rC X.K g)) (hg : Gl X x) (hm : X.mg x = none) (hv : bootBuiltins x = some (.type T)) (ha : PA X (e :: es) (TIA X.K fa)) (hn : x ≠ "__name__") (hd : (x == ("__debug__" : Str)) = false)
    (hs : (e :: es).all (fun e => !isStar e) = true) : PE X (.Call (.Name x p) (e :: es) [] pos) (TI X.K (fApp g fa)) := by
  rw [List.all_cons, Bool.and_eq_true] at hs
  have h1 : isStar e = false := by
    cases q : isStar e with
    | false => rfl
    | true => rw [q] at hs; exact absurd hs.1 (by decide)
  exact PE.imp (pe_callTy hc hg hm hv ha hn hd (starEach_of h1) (starEach_any hs.2)) fun _ _ _ h => ti_app h
/-- what a def of the text promises: n arguments -/
def spI (K : PySem.W.Frag) (n : Nat) (F : OpA) : Sp := fun vs H Q _ => vs.length = n ∧ rC K F vs H Q
/-- a def of the text, by its name -/
structure FnAt (X : Cx) (k : Nat) (x : Str) (n : Nat) (F : OpA) : Prop where
  ex : ∃ (f : Addr) (fd : FuncData) (ps : List Str), X.mg x = some (.ref f) ∧ PySem.W.keepIn X.K (.ref f) = true ∧ Binds X.K fd ps [] ∧ FnOk X.prog X.w X.K X.mg X.base CX0 k f fd ps (spI X.K n F)
theorem pi_call {k n : Nat} {F : OpA} (hF : FnAt X k x n F) (hr : Room k X.A) (hg : Gl X x) (hd : (x == ("__debug__" : Str)) = false) (ha : PA X (e :: es) (TIA X.K fa)) (hs : (e :: es).all (fun e => !isStar e) = true)
    (hl : ∀ ρ μ ds μ', fa ρ μ = some (ds, μ') → ds.length = n) : PE X (.Call (.Name x p) (e :: es) [] pos) (TI X.K (fApp F fa)) := by
  rw [List.all_cons, Bool.and_eq_true] at hs
  have h1 : isStar e = false := by
    cases q : isStar e with
    | false => rfl
    | true => rw [q] at hs; exact absurd hs.1 (by decide)
  obtain ⟨f, fd, ps, hm, hk, hb, hf⟩ := hF.ex
  refine PE.imp (pe_call hf hr hg hm hk hb .nil pass0 ha hd (starEach_of h1) (starEach_any hs.2)) fun σ H Q h => ?_
  obtain ⟨m, ρ, μ, d, μ', r, s, e, b⟩ := h
  unfold fApp at e
  split at e
  · cases e
  · rename_i ds μ1 q1
    refine ⟨m, ρ, μ, ds, μ1, r, s, q1, fun xs H1 m1 e1 s1 r1 => ?_⟩
    show spI X.K n F (xs ++ []) H1 Q E0
    rw [List.append_nil]
    exact ⟨by rw [r1.length]; exact hl _ _ _ _ q1, m1, μ1, ds, d, μ', s1, r1, e, b.ext e1⟩
end

/-! ### tests -/
/-- a value's truth -/
def truD : D → Store → Option Bool
  | .non, _ => some false
  | .bl b, _ => some b
  | .int i, _ => some (i != 0)
  | .str z, _ => if z.length ≤ seqMax then some ((z.length : Int) != 0) else none
  | d, μ => (seqOf μ d).map fun ds => !ds.isEmpty
def tVal (f : EvF) : EvT := fun ρ μ => match f ρ μ with
  | none => none
  | some (d, μ1) => (truD d μ1).map fun b => (b, μ1)
/-- a test whose value is a bool -/
def tBl (f : EvF) : EvT := fun ρ μ => match f ρ μ with
  | some (.bl b, μ1) => some (b, μ1)
  | _ => none
def tAndD (f g : EvT) : EvT := fun ρ μ => match f ρ μ with
  | none => none
  | some (true, μ1) => g ρ μ1
  | some (false, μ1) => some (false, μ1)
def tOrD (f g : EvT) : EvT := fun ρ μ => match f ρ μ with
  | none => none
  | some (true, μ1) => some (true, μ1)
  | some (false, μ1) => g ρ μ1
def tNotD (f : EvT) : EvT := fun ρ μ => match f ρ μ with
  | none => none
  | some (b, μ1) => some (!b, μ1)
def fIte (c : EvT) (f g : EvF) : EvF := fun ρ μ => match c ρ μ with
  | none => none
  | some (true, μ1) => f ρ μ1
  | some (false, μ1) => g ρ μ1
def fAnd (f g : EvF) : EvF := fun ρ μ => match f ρ μ with
  | some (.bl true, μ1) => g ρ μ1
  | some (.bl false, μ1) => some (.bl false, μ1)
  | _ => none
def fOr (f g : EvF) : EvF := fun ρ μ => match f ρ μ with
  | some (.bl true, μ1) => some (.bl true, μ1)
  | some (.bl false, μ1) => g ρ μ1
  | _ => none
def dNot : D → Store → Res
  | .bl b, μ => some (.bl (!b), μ)
  | _, _ => none
/-- a op b op' c -/
def fChain (g g' : Op2) (fa fb fc : EvF) : EvF := fun ρ μ => match fa ρ μ with
  | none => none
  | some (d1, μ1) => match fb ρ μ1 with
    | none => none
    | some (d2, μ2) => match g d1 d2 μ2 with
      | some (.bl true, μ3) => match fc ρ μ3 with
        | none => none
        | some (d3, μ4) => g' d2 d3 μ4
      | some (.bl false, μ3) => some (.bl false, μ3)
      | _ => none
theorem tru_rep {K : PySem.W.Frag} {m : List Addr} {H : Hp} {μ : Store} {d : D} {x : V} {k : Bool} (st : Sto K m H μ) (r : RepV K m H d x) (e : truD d μ = some k) : TruV K x H k := by
  unfold truD at e
  split at e
  · cases e; simp only [RepV] at r; subst r; rfl
  · cases e; simp only [RepV] at r; subst r; rfl
  · cases e; simp only [RepV] at r; subst r; rfl
  · split at e <;> cases e
    rename_i hz
    simp only [RepV] at r; subst r
    exact ⟨seqMax_le hz, rfl⟩
  · rename_i d1 _ _ _ _ _
    cases q : seqOf μ d with
    | none => rw [q] at e; cases e
    | some ds =>
      rw [q] at e; cases e
      obtain ⟨p, vs, rfl, hp, l⟩ := seq_of st r q
      have hl : (!ds.isEmpty) = !vs.isEmpty := by
        have := l.length
        cases ds <;> cases vs <;> first
          | rfl
          | (simp at this)
      rcases hp with hp | hp
      · exact .inl ⟨vs, hp, hl⟩
      · exact .inr (.inl ⟨vs, hp, hl⟩)
section
variable {X : Cx} {a b c : Expr} {pos : Pos} {fa fb fc : EvF} {ta tb : EvT} {g g' : Op2}
theorem pti_val (ha : PE X a (TI X.K fa)) (he : ∀ whole, isTrue a X.env whole = (do let v ← whole; standAt a.pos; holding [v] (truthy v))) : PT X a (TIT X.K (tVal fa)) := by
  refine PT.imp (pt_truth ha he) fun σ H Q h => ?_
  obtain ⟨m, ρ, μ, k, μ', r, s, e, b⟩ := h
  unfold tVal at e
  split at e
  · cases e
  · rename_i d μ1 q1
    cases q : truD d μ1 with
    | none => rw [q] at e; cases e
    | some k' =>
      rw [q] at e; cases e
      exact ⟨m, ρ, μ, d, _, r, s, q1, fun v H1 m1 e1 s1 r1 => ⟨k, tru_rep s1 r1 q, b H1 m1 e1 s1⟩⟩
theorem tit_tb {K : PySem.W.Frag} {f : EvF} {σ : L2.St} {H : Hp} {Q : Bool → Hp → Prop} (h : TIT K (tBl f) σ H Q) : TI K f σ H (fun x H' => ∃ k, x = .bl k ∧ Q k H') := by
  obtain ⟨m, ρ, μ, k, μ', r, s, e, b⟩ := h
  unfold tBl at e
  split at e
  · rename_i b1 μ1 q1
    cases e
    refine ⟨m, ρ, μ, _, _, r, s, q1, fun v H1 m1 e1 s1 r1 => ?_⟩
    simp only [RepV] at r1
    exact ⟨k, r1, b H1 m1 e1 s1⟩
  · cases e
theorem pti_cmp {op : CmpOp} (ho : OpR X (compareOp op) (rD X.K g)) (ha : PE X a (TI X.K fa)) (hb : PE X b (TI X.K fb)) (hm : behindInMarks op b = false) : PT X (.Compare a [op] [b] pos) (TIT X.K (tBl (fBin g fa fb))) :=
  PT.imp (pt_cmpR ho ha hb hm) fun σ H Q h => ti_bin (tit_tb h)
theorem ti_chain {K : PySem.W.Frag} {σ : L2.St} {H : Hp} {Q : VK} (h : TI K (fChain g g' fa fb fc) σ H Q) : tChain (rD K g) (rD K g') (TI K fa) (TI K fb) (TI K fc) σ H Q := by
  obtain ⟨m, ρ, μ, d, μ', r, s, e, b⟩ := h
  unfold fChain at e
  split at e
  · cases e
  · rename_i d1 μ1 q1
    split at e
    · cases e
    · rename_i d2 μ2 q2
      refine ⟨m, ρ, μ, d1, μ1, r, s, q1, fun x H1 m1 e1 s1 r1 => ?_⟩
      refine ⟨m1, ρ, μ1, d2, μ2, r.mono e1, s1, q2, fun y H2 m2 e2 s2 r2 => ?_⟩
      split at e
      · rename_i μ3 q3
        split at e
        · cases e
        · rename_i d3 μ4 q4
          refine ⟨m2, μ2, d1, d2, _, _, s2, RepV.mono e2 _ _ r1, r2, q3, fun v H3 m3 e3 s3 r3 => ?_⟩
          simp only [RepV] at r3
          refine ⟨true, r3, ?_⟩
          refine iteT ?_
          refine ⟨m3, ρ, μ3, d3, μ4, ((r.mono e1).mono e2).mono e3, s3, q4, fun w H4 m4 e4 s4 r4 => ?_⟩
          exact ⟨m4, μ4, d2, d3, d, μ', s4, RepV.mono (e3.trans e4) _ _ r2, r4, e, b.ext (((e1.trans e2).trans e3).trans e4)⟩
      · rename_i μ3 q3
        cases e
        refine ⟨m2, μ2, d1, d2, _, _, s2, RepV.mono e2 _ _ r1, r2, q3, fun v H3 m3 e3 s3 r3 => ?_⟩
        have r3' := r3
        simp only [RepV] at r3
        subst r3
        refine ⟨false, rfl, ?_⟩
        refine iteF ?_
        exact (b.ext ((e1.trans e2).trans e3)).now s3 r3'
      · cases e
theorem pi_chain {op op' : CmpOp} (ho : OpR X (compareOp op) (rD X.K g)) (ho' : OpR X (compareOp op') (rD X.K g')) (ha : PE X a (TI X.K fa)) (hb : PE X b (TI X.K fb)) (hc : PE X c (TI X.K fc)) (hm : lastMarks [op, op'] [b, c] = false) :
    PE X (.Compare a [op, op'] [b, c] pos) (TI X.K (fChain g g' fa fb fc)) := PE.imp (pe_chain ho ho' ha hb hc hm) fun _ _ _ h => ti_chain h
theorem pti_chain {op op' : CmpOp} (ho : OpR X (compareOp op) (rD X.K g)) (ho' : OpR X (compareOp op') (rD X.K g')) (ha : PE X a (TI X.K fa)) (hb : PE X b (TI X.K fb)) (hc : PE X c (TI X.K fc)) (hm : lastMarks [op, op'] [b, c] = false) :
    PT X (.Compare a [op, op'] [b, c] pos) (TIT X.K (tBl (fChain g g' fa fb fc))) := PT.imp (pt_chain ho ho' ha hb hc hm) fun _ _ _ h => ti_chain (tit_tb h)
theorem pti_not (ha : PT X a (TIT X.K ta)) : PT X (.UnaryOp .Not a pos) (TIT X.K (tNotD ta)) := PT.imp (pt_not ha) fun σ H Q h => by
  obtain ⟨m, ρ, μ, k, μ', r, s, e, b⟩ := h
  unfold tNotD at e
  split at e
  · cases e
  · rename_i k1 μ1 q1
    cases e
    exact ⟨m, ρ, μ, k1, _, r, s, q1, fun H1 m1 e1 s1 => b H1 m1 e1 s1⟩
variable {rest : List Expr}
theorem pwi_and1 (ha : PT X a (TIT X.K ta)) : PW X (.BoolOp .And [a] pos) (TIT X.K ta) := pw_and1 ha
theorem pwi_or1 (ha : PT X a (TIT X.K ta)) : PW X (.BoolOp .Or [a] pos) (TIT X.K ta) := pw_or1 ha
theorem pwi_and (ha : PT X a (TIT X.K ta)) (hb : PW X (.BoolOp .And (b :: rest) pos) (TIT X.K tb)) : PW X (.BoolOp .And (a :: b :: rest) pos) (TIT X.K (tAndD ta tb)) := PW.imp (pw_and ha hb) fun σ H Q h => by
  obtain ⟨m, ρ, μ, k, μ', r, s, e, b⟩ := h
  unfold tAndD at e
  split at e
  · cases e
  · rename_i μ1 q1
    refine ⟨m, ρ, μ, true, μ1, r, s, q1, fun H1 m1 e1 s1 => ?_⟩
    refine iteT ?_
    exact ⟨m1, ρ, μ1, k, μ', r.mono e1, s1, e, b.ext e1⟩
  · rename_i μ1 q1
    cases e
    refine ⟨m, ρ, μ, false, _, r, s, q1, fun H1 m1 e1 s1 => ?_⟩
    refine iteF ?_
    exact b H1 m1 e1 s1
theorem pwi_or (ha : PT X a (TIT X.K ta)) (hb : PW X (.BoolOp .Or (b :: rest) pos) (TIT X.K tb)) : PW X (.BoolOp .Or (a :: b :: rest) pos) (TIT X.K (tOrD ta tb)) := PW.imp (pw_or ha hb) fun σ H Q h => by
  obtain ⟨m, ρ, μ, k, μ', r, s, e, b⟩ := h
  unfold tOrD at e
  split at e
  · cases e
  · rename_i μ1 q1
    cases e
    refine ⟨m, ρ, μ, true, _, r, s, q1, fun H1 m1 e1 s1 => ?_⟩
    refine iteT ?_
    exact b H1 m1 e1 s1
  · rename_i μ1 q1
    refine ⟨m, ρ, μ, false, μ1, r, s, q1, fun H1 m1 e1 s1 => ?_⟩
    refine iteF ?_
    exact ⟨m1, ρ, μ1, k, μ', r.mono e1, s1, e, b.ext e1⟩
theorem pi_ite (hc : PT X c (TIT X.K ta)) (ha : PE X a (TI X.K fa)) (hb : PE X b (TI X.K fb)) : PE X (.IfExp c a b pos) (TI X.K (fIte ta fa fb)) := PE.imp (pe_ifExp hc ha hb) fun σ H Q h => by
  obtain ⟨m, ρ, μ, d, μ', r, s, e, b⟩ := h
  unfold fIte at e
  split at e
  · cases e
  · rename_i μ1 q1
    refine ⟨m, ρ, μ, true, μ1, r, s, q1, fun H1 m1 e1 s1 => ?_⟩
    refine iteT ?_
    exact ⟨m1, ρ, μ1, d, μ', r.mono e1, s1, e, b.ext e1⟩
  · rename_i μ1 q1
    refine ⟨m, ρ, μ, false, μ1, r, s, q1, fun H1 m1 e1 s1 => ?_⟩
    refine iteF ?_
    exact ⟨m1, ρ, μ1, d, μ', r.mono e1, s1, e, b.ext e1⟩
theorem pi_one {op : BoolOp} (h : PE X a (TI X.K fa)) : PE X (.BoolOp op [a] pos) (TI X.K fa) := pe_one h
theorem pi_and (ha : PE X a (TI X.K fa)) (hb : PE X (.BoolOp .And (b :: rest) pos) (TI X.K fb)) : PE X (.BoolOp .And (a :: b :: rest) pos) (TI X.K (fAnd fa fb)) := PE.imp (pe_and ha hb) fun σ H Q h => by
  obtain ⟨m, ρ, μ, d, μ', r, s, e, b⟩ := h
  unfold fAnd at e
  split at e
  · rename_i μ1 q1
    refine ⟨m, ρ, μ, _, μ1, r, s, q1, fun v H1 m1 e1 s1 r1 => ?_⟩
    simp only [RepV] at r1
    refine ⟨true, r1, ?_⟩
    refine iteT ?_
    exact ⟨m1, ρ, μ1, d, μ', r.mono e1, s1, e, b.ext e1⟩
  · rename_i μ1 q1
    cases e
    refine ⟨m, ρ, μ, _, _, r, s, q1, fun v H1 m1 e1 s1 r1 => ?_⟩
    simp only [RepV] at r1
    refine ⟨false, r1, ?_⟩
    refine iteF ?_
    exact (b.ext e1).bl s1
  · cases e
theorem pi_or (ha : PE X a (TI X.K fa)) (hb : PE X (.BoolOp .Or (b :: rest) pos) (TI X.K fb)) : PE X (.BoolOp .Or (a :: b :: rest) pos) (TI X.K (fOr fa fb)) := PE.imp (pe_or ha hb) fun σ H Q h => by
  obtain ⟨m, ρ, μ, d, μ', r, s, e, b⟩ := h
  unfold fOr at e
  split at e
  · rename_i μ1 q1
    cases e
    refine ⟨m, ρ, μ, _, _, r, s, q1, fun v H1 m1 e1 s1 r1 => ?_⟩
    simp only [RepV] at r1
    refine ⟨true, r1, ?_⟩
    refine iteT ?_
    exact (b.ext e1).bl s1
  · rename_i μ1 q1
    refine ⟨m, ρ, μ, _, μ1, r, s, q1, fun v H1 m1 e1 s1 r1 => ?_⟩
    simp only [RepV] at r1
    refine ⟨false, r1, ?_⟩
    refine iteF ?_
    exact ⟨m1, ρ, μ1, d, μ', r.mono e1, s1, e, b.ext e1⟩
  · cases e
theorem pi_not (ha : PE X a (TI X.K fa)) : PE X (.UnaryOp .Not a pos) (TI X.K (fUn dNot fa)) := PE.imp (pe_not ha) fun σ H Q h => by
  obtain ⟨m, ρ, μ, d, μ', r, s, e, b⟩ := h
  unfold fUn at e
  split at e
  · cases e
  · rename_i d1 μ1 q1
    unfold dNot at e
    split at e
    · cases e
      refine ⟨m, ρ, μ, _, _, r, s, q1, fun v H1 m1 e1 s1 r1 => ?_⟩
      simp only [RepV] at r1
      exact ⟨_, r1, (b.ext e1).bl s1⟩
    · cases e
end
end Mini
end

section
set_option Elab.async false
set_option linter.all false
set_option maxRecDepth 100000
/-! MLoop: statements, targets, loops, comprehensions on plain data. -/
namespace Mini
open PySem PySem.Spec PyProof.Rows L2 HT

inductive Out where
  | nx (ρ : Slots) (μ : Store) | ret (d : D) (μ : Store) | brk (ρ : Slots) (μ : Store) | ct (ρ : Slots) (μ : Store)
abbrev EvS := Slots → Store → Option Out
def BackN (K : PySem.W.Frag) (m : List Addr) (H : Hp) (ρ : Slots) (μ : Store) (Q : L2.St → Hp → Prop) : Prop :=
  ∀ σ' H' m', Ext K m H m' H' → Sto K m' H' μ → RelS K m' H' ρ σ' → Q σ' H'
def BackS (K : PySem.W.Frag) (m : List Addr) (H : Hp) (D : Ends) : Out → Prop
  | .nx ρ μ => BackN K m H ρ μ D.nx
  | .ret d μ => Back K m H d μ D.rt
  | .brk ρ μ => BackN K m H ρ μ D.bk
  | .ct ρ μ => BackN K m H ρ μ D.ct
def TSI (K : PySem.W.Frag) (f : EvS) : TS := fun D σ H => ∃ m ρ μ out, RelS K m H ρ σ ∧ Sto K m H μ ∧ f ρ μ = some out ∧ BackS K m H D out
section
variable {K : PySem.W.Frag} {m m' : List Addr} {H H' : Hp}
theorem BackN.ext {ρ : Slots} {μ : Store} {Q : L2.St → Hp → Prop} (e : Ext K m H m' H') (b : BackN K m H ρ μ Q) : BackN K m' H' ρ μ Q := fun σ H2 m2 e2 s r => b σ H2 m2 (e.trans e2) s r
theorem BackS.ext {D : Ends} {out : Out} (e : Ext K m H m' H') (b : BackS K m H D out) : BackS K m' H' D out := by
  cases out with
  | nx ρ μ => exact BackN.ext e b
  | brk ρ μ => exact BackN.ext e b
  | ct ρ μ => exact BackN.ext e b
  | ret d μ => exact Back.ext e b
theorem BackN.now {ρ : Slots} {μ : Store} {σ : L2.St} {Q : L2.St → Hp → Prop} (b : BackN K m H ρ μ Q) (s : Sto K m H μ) (r : RelS K m H ρ σ) : Q σ H := b σ H m Ext.refl s r
end

/-! ### statements -/
def sNil : EvS := fun ρ μ => some (.nx ρ μ)
def sSeq (f g : EvS) : EvS := fun ρ μ => match f ρ μ with
  | some (.nx ρ1 μ1) => g ρ1 μ1
  | o => o
def sRet (f : EvF) : EvS := fun ρ μ => match f ρ μ with
  | none => none
  | some (d, μ1) => some (.ret d μ1)
def sDrop (f : EvF) : EvS := fun ρ μ => match f ρ μ with
  | none => none
  | some (_, μ1) => some (.nx ρ μ1)
def sIf (c : EvT) (f g : EvS) : EvS := fun ρ μ => match c ρ μ with
  | none => none
  | some (true, μ1) => f ρ μ1
  | some (false, μ1) => g ρ μ1
def sNo : EvS := fun _ _ => none
def sBrk : EvS := fun ρ μ => some (.brk ρ μ)
def sCt : EvS := fun ρ μ => some (.ct ρ μ)
section
variable {X : Cx} {st : Stmt} {rest bs cs : List Stmt} {f g : EvS} {e : Expr} {fe : EvF} {tc : EvT} {pos : Pos}
theorem psi_nil : PSs X [] (TSI X.K sNil) := PSs.imp pss_nil fun D σ H h => by
  obtain ⟨m, ρ, μ, out, r, s, e, b⟩ := h
  cases e
  exact BackN.now b s r
theorem psi_cons (h1 : PS X st (TSI X.K f)) (h2 : PSs X rest (TSI X.K g)) : PSs X (st :: rest) (TSI X.K (sSeq f g)) := PSs.imp (pss_cons h1 h2) fun D σ H h => by
  obtain ⟨m, ρ, μ, out, r, s, e, b⟩ := h
  unfold sSeq at e
  refine ⟨m, ρ, μ, ?_⟩
  cases q : f ρ μ with
  | none => rw [q] at e; cases e
  | some o =>
    rw [q] at e
    refine ⟨o, r, s, rfl, ?_⟩
    cases o with
    | nx ρ1 μ1 =>
      exact fun σ' H' m' e1 s1 r1 => ⟨m', ρ1, μ1, out, r1, s1, e, b.ext e1⟩
    | ret d μ1 => cases e; exact b
    | brk ρ1 μ1 => cases e; exact b
    | ct ρ1 μ1 => cases e; exact b
theorem psi_pass : PS X (.Pass pos) (TSI X.K sNil) := PS.imp ps_pass fun D σ H h => by
  obtain ⟨m, ρ, μ, out, r, s, e, b⟩ := h
  cases e
  exact BackN.now b s r
theorem psi_doc {x : Str} {j : Nat} {pos' : Pos} : PS X (.Expr (.Constant (.str x) j pos) pos') (TSI X.K sNil) := PS.imp ps_doc fun D σ H h => by
  obtain ⟨m, ρ, μ, out, r, s, e, b⟩ := h
  cases e
  exact BackN.now b s r
theorem psi_break : PS X (.Break pos) (TSI X.K sBrk) := PS.imp ps_break fun D σ H h => by
  obtain ⟨m, ρ, μ, out, r, s, e, b⟩ := h
  cases e
  exact BackN.now b s r
theorem psi_continue : PS X (.Continue pos) (TSI X.K sCt) := PS.imp ps_continue fun D σ H h => by
  obtain ⟨m, ρ, μ, out, r, s, e, b⟩ := h
  cases e
  exact BackN.now b s r
theorem psi_no : PS X st (TSI X.K sNo) := PS.imp ps_never fun D σ H h => by
  obtain ⟨m, ρ, μ, out, r, s, e, b⟩ := h
  cases e
theorem psi_ret (he : PE X e (TI X.K fe)) : PS X (.Return (some e) pos) (TSI X.K (sRet fe)) := PS.imp (ps_ret he) fun D σ H h => by
  obtain ⟨m, ρ, μ, out, r, s, e, b⟩ := h
  unfold sRet at e
  split at e
  · cases e
  · rename_i d μ1 q
    cases e
    exact ⟨m, ρ, μ, d, μ1, r, s, q, b⟩
theorem psi_retN : PS X (.Return none pos) (TSI X.K (sRet (fCon .non))) := PS.imp ps_retN fun D σ H h => by
  obtain ⟨m, ρ, μ, out, r, s, e, b⟩ := h
  cases e
  exact Back.now b s (by simp [RepV])
theorem psi_expr (he : PE X e (TI X.K fe)) (hs : swapsWith e none pos.line X.env = pure false) : PS X (.Expr e pos) (TSI X.K (sDrop fe)) := PS.imp (ps_expr he hs) fun D σ H h => by
  obtain ⟨m, ρ, μ, out, r, s, e, b⟩ := h
  unfold sDrop at e
  split at e
  · cases e
  · rename_i d μ1 q
    cases e
    exact ⟨m, ρ, μ, d, μ1, r, s, q, fun v H1 m1 e1 s1 r1 => b σ H1 m1 e1 s1 (r.mono e1)⟩
theorem psi_if (hc : PT X e (TIT X.K tc)) (ha : PSs X bs (TSI X.K f)) (hb : PSs X cs (TSI X.K g)) : PS X (.If e bs cs pos) (TSI X.K (sIf tc f g)) := PS.imp (ps_if hc ha hb) fun D σ H h => by
  obtain ⟨m, ρ, μ, out, r, s, e, b⟩ := h
  unfold sIf at e
  split at e
  · cases e
  · rename_i μ1 q
    refine ⟨m, ρ, μ, true, μ1, r, s, q, fun H1 m1 e1 s1 => ?_⟩
    refine iteT ?_
    exact ⟨m1, ρ, μ1, out, r.mono e1, s1, e, b.ext e1⟩
  · rename_i μ1 q
    refine ⟨m, ρ, μ, false, μ1, r, s, q, fun H1 m1 e1 s1 => ?_⟩
    refine iteF ?_
    exact ⟨m1, ρ, μ1, out, r.mono e1, s1, e, b.ext e1⟩
end

/-! ### targets -/
abbrev EvG := D → Slots → Store → Option (Slots × Store)
abbrev EvGs := List D → Slots → Store → Option (Slots × Store)
/-- outside the slots of sl nothing changes -/
structure Agr (sl : List Nat) (σ σ' : L2.St) : Prop where
  len : σ'.length = σ.length
  at_ : ∀ i, i ∉ sl → σ'[i]? = σ[i]?
theorem Agr.refl {sl : List Nat} {σ : L2.St} : Agr sl σ σ := ⟨rfl, fun _ _ => rfl⟩
theorem Agr.trans {sl sl' : List Nat} {σ σ' σ'' : L2.St} (a : Agr sl σ σ') (b : Agr sl' σ' σ'') : Agr (sl ++ sl') σ σ'' :=
  ⟨b.len.trans a.len, fun i hi => (b.at_ i fun h => hi (List.mem_append_right _ h)).trans (a.at_ i fun h => hi (List.mem_append_left _ h))⟩
def TGI (K : PySem.W.Frag) (sl : List Nat) (f : EvG) : TG := fun v σ H Q => ∃ m d ρ μ ρ' μ', RelS K m H ρ σ ∧ Sto K m H μ ∧ RepV K m H d v ∧ f d ρ μ = some (ρ', μ') ∧
  ∀ σ' H' m', Agr sl σ σ' → Ext K m H m' H' → Sto K m' H' μ' → RelS K m' H' ρ' σ' → Q σ' H'
def TGsI (K : PySem.W.Frag) (sl : List Nat) (f : EvGs) : TGs := fun vs σ H Q => ∃ m ds ρ μ ρ' μ', RelS K m H ρ σ ∧ Sto K m H μ ∧ RepL K m H ds vs ∧ f ds ρ μ = some (ρ', μ') ∧
  ∀ σ' H' m', Agr sl σ σ' → Ext K m H m' H' → Sto K m' H' μ' → RelS K m' H' ρ' σ' → Q σ' H'
theorem PG.imp {X : Cx} {e : Expr} {t t' : TG} (h : PG X e t) (w : ∀ v σ H Q, t' v σ H Q → t v σ H Q) : PG X e t' :=
  ⟨fun pins s σ H v u Q I r q => h.run pins s σ H v u Q I r (w v σ H Q q)⟩
theorem PGs.imp {X : Cx} {e : List Expr} {t t' : TGs} (h : PGs X e t) (w : ∀ v σ H Q, t' v σ H Q → t v σ H Q) : PGs X e t' :=
  ⟨fun pins s σ H v u Q I r q => h.run pins s σ H v u Q I r (w v σ H Q q)⟩
theorem PG.or {X : Cx} {e : Expr} {t t' : TG} (h : PG X e t) (h' : PG X e t') : PG X e (fun v σ H Q => t v σ H Q ∨ t' v σ H Q) :=
  ⟨fun pins s σ H v u Q I r q => q.elim (h.run pins s σ H v u Q I r) (h'.run pins s σ H v u Q I r)⟩
def gName (i : Nat) : EvG := fun d ρ μ => some (ρ.set i (some d), μ)
def gNil : EvGs := fun ds ρ μ => match ds with
  | [] => some (ρ, μ)
  | _ => none
def gCons (f : EvG) (g : EvGs) : EvGs := fun ds ρ μ => match ds with
  | [] => none
  | d :: ds => match f d ρ μ with
    | none => none
    | some (ρ1, μ1) => g ds ρ1 μ1
def gTup (n : Nat) (g : EvGs) : EvG := fun d ρ μ => match seqOf μ d with
  | none => none
  | some ds => if ds.length = n then g ds ρ μ else none
def gSub (fo fi : EvF) : EvG := fun d ρ μ => match fo ρ μ with
  | some (.cel n, μ1) => match fi ρ μ1 with
    | some (.int i, μ2) => match μ2[n]? with
      | some (.lst ds) => match ixN ds.length i with
        | some j => some (ρ, μ2.set n (.lst (ds.set j d)))
        | none => none
      | none => none
    | _ => none
  | _ => none
theorem assignEach_len {env : Env} : ∀ {es : List Expr}, es.all (fun e => !isStar e) = true → (assignEach es env).length = es.length ∧ (assignEach es env).findIdx? (·.1) = none ∧ (assignEach es env).map (·.2) = es.map (assign · env)
  | [], _ => ⟨rfl, rfl, rfl⟩
  | e :: es, h => by
    rw [List.all_cons, Bool.and_eq_true] at h
    obtain ⟨h1, h2, h3⟩ := assignEach_len (env := env) h.2
    have q : assignEach (e :: es) env = (false, assign e env) :: assignEach es env := by
      have h1 := h.1
      cases e <;> first
        | rfl
        | (exact absurd h1 Bool.false_ne_true)
    rw [q]
    refine ⟨by rw [List.length_cons, List.length_cons, h1], ?_, by rw [List.map_cons, List.map_cons, h3]⟩
    rw [List.findIdx?_cons, h2]
    rfl
section
variable {X : Cx} {e : Expr} {es : List Expr} {pos : Pos} {g : EvG} {gs : EvGs} {sl sl' : List Nat}
theorem pgi_name {i : Nat} {x : Str} (hN : X.N.Nodup) (hi : X.N[i]? = some x) (hx : Loc X.env.scope x) (hf : X.fn x = true ∨ X.env.scope.names.lookup x = some .local) : PG X (.Name x pos) (TGI X.K [i] (gName i)) :=
  PG.imp (pg_name hN hi hx hf) fun v σ H Q h => by
    obtain ⟨m, d, ρ, μ, ρ', μ', r, s, rv, e, b⟩ := h
    cases e
    refine b _ H m ⟨List.length_set .., fun j hj => ?_⟩ Ext.refl s (r.set rv)
    exact List.getElem?_set_ne (fun q => hj (by simp [q]))
theorem pgsi_nil : PGs X [] (TGsI X.K [] gNil) := PGs.imp pgs_nil fun v σ H Q h => by
  obtain ⟨m, ds, ρ, μ, ρ', μ', r, s, rv, e, b⟩ := h
  unfold gNil at e
  split at e
  · cases e
    simp only [RepL] at rv
    exact ⟨rv, b σ H m Agr.refl Ext.refl s r⟩
  · cases e
theorem pgsi_cons (h1 : PG X e (TGI X.K sl g)) (h2 : PGs X es (TGsI X.K sl' gs)) (hs : (e :: es).all (fun e => !isStar e) = true) : PGs X (e :: es) (TGsI X.K (sl ++ sl') (gCons g gs)) := by
  refine PGs.imp (pgs_cons h1 h2 ?_) fun v σ H Q h => ?_
  · have := hs
    rw [List.all_cons, Bool.and_eq_true] at this
    rw [(assignEach_len hs).2.2, (assignEach_len this.2).2.2]
    rfl
  · obtain ⟨m, ds, ρ, μ, ρ', μ', r, s, rv, e, b⟩ := h
    unfold gCons at e
    cases ds with
    | nil => cases e
    | cons d ds =>
      dsimp only at e
      split at e
      · cases e
      · rename_i ρ1 μ1 q
        simp only [RepL] at rv
        obtain ⟨w, rr, rfl, h3, h4⟩ := rv
        refine ⟨w, rr, rfl, m, d, ρ, μ, ρ1, μ1, r, s, h3, q, fun σ1 H1 m1 a1 e1 s1 r1 => ?_⟩
        exact ⟨m1, ds, ρ1, μ1, ρ', μ', r1, s1, RepL.mono e1 _ _ h4, e, fun σ2 H2 m2 a2 e2 s2 r2 => b σ2 H2 m2 (a1.trans a2) (e1.trans e2) s2 r2⟩
theorem pgi_tup {k : Nat} (hc : X.calm = true) (h : PGs X es (TGsI X.K sl gs)) (hs : es.all (fun e => !isStar e) = true) : PG X (.Tuple es k pos) (TGI X.K sl (gTup es.length gs)) := by
  have q := assignEach_len (env := X.env) hs
  refine PG.imp (PG.or (pg_tup hc h q.1 q.2.1) (pg_unl hc h q.1 q.2.1)) fun v σ H Q h => ?_
  obtain ⟨m, d, ρ, μ, ρ', μ', r, s, rv, e, b⟩ := h
  unfold gTup at e
  split at e
  · cases e
  · rename_i ds q1
    split at e
    · rename_i hl
      obtain ⟨p, vs, rfl, hp, l⟩ := seq_of s rv q1
      rcases hp with hp | hp
      · exact .inr ⟨p, vs, rfl, hp, by rw [l.length]; exact hl, m, ds, ρ, μ, ρ', μ', r, s, l, e, b⟩
      · exact .inl ⟨p, vs, rfl, hp, by rw [l.length]; exact hl, m, ds, ρ, μ, ρ', μ', r, s, l, e, b⟩
    · cases e
theorem pgi_sub {o i : Expr} {fo fi : EvF} (ho : PE X o (TI X.K fo)) (hi : PE X i (TI X.K fi)) (hns : isSlice i = false) : PG X (.Subscript o i pos) (TGI X.K [] (gSub fo fi)) := by
  refine PG.imp (pg_sub ho hi set_list (fun v => ?_)) fun v σ H Q h => ?_
  · cases i <;> first
      | rfl
      | cases hns
  · obtain ⟨m, d, ρ, μ, ρ', μ', r, s, rv, e, b⟩ := h
    unfold gSub at e
    split at e
    · rename_i n μ1 q1
      split at e
      · rename_i k μ2 q2
        split at e
        · rename_i ds q3
          split at e
          · rename_i j q4
            cases e
            refine ⟨m, ρ, μ, _, μ1, r, s, q1, fun w H1 m1 e1 s1 r1 => ?_⟩
            refine ⟨m1, ρ, μ1, _, μ2, r.mono e1, s1, q2, fun w2 H2 m2 e2 s2 r2 => ?_⟩
            have r1' := RepV.mono e2 _ _ r1
            simp only [RepV] at r1' r2
            obtain ⟨a, rfl, ha⟩ := r1'
            subst r2
            obtain ⟨a', ws, ha', hx, l⟩ := s2.lst q3
            rw [ha] at ha'; cases ha'
            refine ⟨a, ws, k, j, rfl, rfl, hx, by rw [l.length]; exact q4, ?_⟩
            have l2 := l.set j (RepV.mono (e1.trans e2) _ _ rv)
            exact b σ _ m2 Agr.refl ((e1.trans e2).trans (Ext.write hx)) (s2.write ha hx l2) (((r.mono e1).mono e2).mono (Ext.write hx))
          · cases e
        · cases e
      · cases e
    · cases e
end

/-! ### assignments -/
def sAsg (f : EvF) (g : EvG) : EvS := fun ρ μ => match f ρ μ with
  | none => none
  | some (d, μ1) => match g d ρ μ1 with
    | none => none
    | some (ρ1, μ2) => some (.nx ρ1 μ2)
def sPar (i j : Nat) (fa : EvA) : EvS := fun ρ μ => match fa ρ μ with
  | some ([d, e], μ1) => some (.nx ((ρ.set i (some d)).set j (some e)) μ1)
  | _ => none
def sPar3 (i j k : Nat) (fa : EvA) : EvS := fun ρ μ => match fa ρ μ with
  | some ([d, e, c], μ1) => some (.nx (((ρ.set i (some d)).set j (some e)).set k (some c)) μ1)
  | _ => none
theorem ti_asg {K : PySem.W.Frag} {f : EvF} {g : EvG} {sl : List Nat} {D : Ends} {σ : L2.St} {H : Hp} (h : TSI K (sAsg f g) D σ H) : tAsg (TI K f) (TGI K sl g) D σ H := by
  obtain ⟨m, ρ, μ, out, r, s, e, b⟩ := h
  unfold sAsg at e
  split at e
  · cases e
  · rename_i d μ1 q1
    split at e
    · cases e
    · rename_i ρ1 μ2 q2
      cases e
      refine ⟨m, ρ, μ, d, μ1, r, s, q1, fun v H1 m1 e1 s1 r1 => ?_⟩
      exact ⟨m1, d, ρ, μ1, ρ1, μ2, r.mono e1, s1, r1, q2, fun σ2 H2 m2 _ e2 s2 r2 => b σ2 H2 m2 (e1.trans e2) s2 r2⟩
section
variable {X : Cx} {tg e : Expr} {pos : Pos} {f : EvF} {g : EvG} {sl : List Nat}
theorem psi_asg (he : PE X e (TI X.K f)) (hg : PG X tg (TGI X.K sl g)) (hs : swapsWithSole [tg] e pos.line X.env = pure false) (hw : swappedStores [tg] e X.env = pure none) (h1 : isStar tg = false) : PS X (.Assign [tg] e pos) (TSI X.K (sAsg f g)) := by
  refine PS.imp (ps_asg he hg hs hw ?_) fun D σ H h => ti_asg h
  cases tg <;> first
    | rfl
    | cases h1
theorem psi_set {i : Nat} {x : Str} {pos' : Pos} (hN : X.N.Nodup) (hi : X.N[i]? = some x) (hx : Loc X.env.scope x) (he : PE X e (TI X.K f)) (hs : swapsWith e (some (.Name x pos')) pos.line X.env = pure false) (hf : X.fn x = true ∨ X.env.scope.names.lookup x = some .local) :
    PS X (.Assign [.Name x pos'] e pos) (TSI X.K (sAsg f (gName i))) := PS.imp (ps_set hN hi hx he hs hf) fun D σ H h => by
  obtain ⟨m, ρ, μ, out, r, s, e, b⟩ := h
  unfold sAsg at e
  split at e
  · cases e
  · rename_i d μ1 q1
    cases e
    exact ⟨m, ρ, μ, d, μ1, r, s, q1, fun v H1 m1 e1 s1 r1 => b _ H1 m1 e1 s1 ((r.mono e1).set r1)⟩
theorem psi_par {i j : Nat} {x y : Str} {a c : Expr} {fa : EvA} {px py pt : Pos} {kt k2 : Nat} {pt2 : Pos} (hc : X.calm = true) (hN : X.N.Nodup) (hi : X.N[i]? = some x) (hj : X.N[j]? = some y) (hij : i ≠ j)
    (hx : X.env.scope.names.lookup x = some .local) (hy : X.env.scope.names.lookup y = some .local) (ha : PA X [a, c] (TIA X.K fa))
    (hw : swappedStores [.Tuple [.Name x px, .Name y py] kt pt] (.Tuple [a, c] k2 pt2) X.env = pure (some [x, y])) :
    PS X (.Assign [.Tuple [.Name x px, .Name y py] kt pt] (.Tuple [a, c] k2 pt2) pos) (TSI X.K (sPar i j fa)) := PS.imp (ps_par hc hN hi hj hij hx hy ha hw) fun D σ H h => by
  obtain ⟨m, ρ, μ, out, r, s, e, b⟩ := h
  unfold sPar at e
  split at e
  · rename_i d1 d2 μ1 q1
    cases e
    refine ⟨m, ρ, μ, _, μ1, r, s, q1, fun vs H1 m1 e1 s1 r1 => ?_⟩
    obtain ⟨v, w, rfl, h1, h2⟩ := RepL.two_of r1
    exact ⟨v, w, rfl, b _ H1 m1 e1 s1 (((r.mono e1).set h1).set h2)⟩
  · cases e
theorem psi_par3 {i j l : Nat} {x y z : Str} {a b c : Expr} {fa : EvA} {px py pz pt : Pos} {kt k2 : Nat} {pt2 : Pos} (hc : X.calm = true) (hN : X.N.Nodup) (hi : X.N[i]? = some x) (hj : X.N[j]? = some y) (hl : X.N[l]? = some z) (hij : i ≠ j) (hil : i ≠ l) (hjl : j ≠ l)
    (hx : X.env.scope.names.lookup x = some .local) (hy : X.env.scope.names.lookup y = some .local) (hz : X.env.scope.names.lookup z = some .local) (ha : PA X [a, b, c] (TIA X.K fa))
    (hw : swappedStores [.Tuple [.Name x px, .Name y py, .Name z pz] kt pt] (.Tuple [a, b, c] k2 pt2) X.env = pure (some [x, y, z])) :
    PS X (.Assign [.Tuple [.Name x px, .Name y py, .Name z pz] kt pt] (.Tuple [a, b, c] k2 pt2) pos) (TSI X.K (sPar3 i j l fa)) := PS.imp (ps_par3 hc hN hi hj hl hij hil hjl hx hy hz ha hw) fun D σ H h => by
  obtain ⟨m, ρ, μ, out, r, s, e, b⟩ := h
  unfold sPar3 at e
  split at e
  · rename_i d1 d2 d3 μ1 q1
    cases e
    refine ⟨m, ρ, μ, _, μ1, r, s, q1, fun vs H1 m1 e1 s1 r1 => ?_⟩
    simp only [RepL] at r1
    obtain ⟨v, rr, rfl, h1, v2, r2, rfl, h2, v3, r3, rfl, h3, rfl⟩ := r1
    exact ⟨v, v2, v3, rfl, b _ H1 m1 e1 s1 ((((r.mono e1).set h1).set h2).set h3)⟩
  · cases e
/-- name op= e -/
def sAug (i : Nat) (g : Op2) (f : EvF) : EvS := fun ρ μ => match ρ[i]? with
  | some (some d) => match f ρ μ with
    | none => none
    | some (e, μ1) => match g d e μ1 with
      | none => none
      | some (c, μ2) => some (.nx (ρ.set i (some c)) μ2)
  | _ => none
theorem psi_aug {i : Nat} {x : Str} {op : Operator} {g2 : Op2} {pos' : Pos} (hN : X.N.Nodup) (hi : X.N[i]? = some x) (hx : Loc X.env.scope x) (he : PE X e (TI X.K f)) (ho : PIp X op (rD X.K g2)) (hf : X.fn x = true ∨ X.env.scope.names.lookup x = some .local) :
    PS X (.AugAssign (.Name x pos') op e pos) (TSI X.K (sAug i g2 f)) := PS.imp (ps_aug hN hi hx he ho hf) fun D σ H h => by
  obtain ⟨m, ρ, μ, out, r, s, e, b⟩ := h
  unfold sAug at e
  split at e
  · rename_i d q0
    split at e
    · cases e
    · rename_i d1 μ1 q1
      split at e
      · cases e
      · rename_i c μ2 q2
        cases e
        obtain ⟨v, h1, h2⟩ := r.at_ i _ q0
        refine ⟨v, h1, m, ρ, μ, d1, μ1, r, s, q1, fun w H1 m1 e1 s1 r1 => ?_⟩
        exact ⟨m1, μ1, d, d1, c, μ2, s1, RepV.mono e1 _ _ h2, r1, q2, fun z H2 m2 e2 s2 r2 => b _ H2 m2 (e1.trans e2) s2 ((r.mono (e1.trans e2)).set r2)⟩
  · cases e
/-- ints alone -/
def dIAdd : Op2
  | .int a, .int b, μ => some (.int (a + b), μ)
  | _, _, _ => none
theorem pip_add : PIp X .Add (rD X.K dIAdd) := by
  intro pins s σ H x y v u Q I rx ry h
  obtain ⟨m, μ, d1, d2, d, μ', st, r1, r2, e, b⟩ := h
  unfold dIAdd at e
  split at e
  · cases e
    simp only [RepV] at r1 r2
    subst r1 r2
    exact ip_add pins s σ H _ _ v u Q I rx ry ⟨_, _, rfl, rfl, b.int st⟩
  · cases e
end

/-! ### methods of lists -/
/-- append to the list of a cell -/
def sApp (fo : EvF) (fe : EvF) : EvF := fun ρ μ => match fo ρ μ with
  | some (.cel n, μ1) => match fe ρ μ1 with
    | some (d, μ2) => match μ2[n]? with
      | some (.lst ds) => if ds.length < seqMax then some (.non, μ2.set n (.lst (ds ++ [d]))) else none
      | none => none
    | none => none
  | _ => none
theorem cel_there {K : PySem.W.Frag} {m : List Addr} {H : Hp} {μ : Store} {n : Nat} {v : V} (s : Sto K m H μ) (r : RepV K m H (.cel n) v) : ∃ a vs, v = .ref a ∧ m[n]? = some a ∧ H a = some (.lst vs) := by
  simp only [RepV] at r
  obtain ⟨a, rfl, ha⟩ := r
  have hn : n < μ.length := by rw [← s.len]; exact (List.getElem?_eq_some_iff.mp ha).1
  obtain ⟨a', h1, h2⟩ := s.at_ n _ (List.getElem?_eq_getElem hn)
  rw [ha] at h1; cases h1
  obtain ⟨vs, h3⟩ := h2.there
  exact ⟨a, vs, rfl, ha, h3⟩
section
variable {X : Cx} {o e : Expr} {apos cpos : Pos} {fo fe : EvF}
theorem few1 {es : List (Bool × Sem Value)} : True := trivial
theorem pi_append (ho : PE X o (TI X.K fo)) (he : PE X e (TI X.K fe)) (hb : attributeBase o "append" X.env (eval o X.env) = eval o X.env) (hl : (apos.endLine == cpos.line) = true) (hs : isStar e = false) :
    PE X (.Call (.Attribute o "append" apos) [e] [] cpos) (TI X.K (sApp fo fe)) := by
  have h1 := starEach_of (e := e) (es := []) (env := X.env) hs
  refine PE.imp (pe_bm PySem.F.plainAttrs_list PySem.F.slot_list_append PySem.F.type_list_append mt_append ho (pia_cons he pia_nil hs) hb ?_ hl h1 rfl) fun σ H Q h => ?_
  · rw [h1]
    rfl
  · obtain ⟨m, ρ, μ, d, μ', r, s, e, b⟩ := h
    unfold sApp at e
    split at e
    · rename_i n μ1 q1
      split at e
      · rename_i d1 μ2 q2
        split at e
        · rename_i ds q3
          split at e <;> cases e
          rename_i hz
          refine ⟨m, ρ, μ, _, μ1, r, s, q1, fun x H1 m1 e1 s1 r1 => ?_⟩
          obtain ⟨a, vs, rfl, ha, hx⟩ := cel_there s1 r1
          refine ⟨.inl ⟨rfl, vs, SqL.of hx⟩, m1, ρ, μ1, [d1], μ2, r.mono e1, s1, ?_, fun xs H2 m2 e2 s2 r2 => ?_⟩
          · unfold fCons fNil
            rw [q2]
          · obtain ⟨y, rfl, hy⟩ := RepL.one_of r2
            have ha2 := e2.pre _ _ ha
            obtain ⟨a', ws, ha', hx', l⟩ := s2.lst q3
            rw [ha2] at ha'; cases ha'
            refine ⟨a, ws, y, rfl, rfl, hx', by rw [l.length]; exact seqMax_lt hz, ?_⟩
            refine b _ _ m2 ((e1.trans e2).trans (Ext.write hx')) (s2.write ha2 hx' (l.append (RepL.one hy))) ?_
            simp [RepV]
        · cases e
      · cases e
    · cases e
end
end Mini
end

section
set_option Elab.async false
set_option linter.all false
set_option maxRecDepth 100000
/-! MComp: for, while, list comprehensions on plain data. -/
namespace Mini
open PySem PySem.Spec PyProof.Rows L2 HT

/-- what is walked -/
inductive Src where
  | seq (ds : List D)
  | cel (n : Nat)
  | rng (lo : Int) (n : Nat)
/-- the i-th item: none (stuck), some none (the end) -/
def Src.at : Src → Store → Nat → Option (Option D)
  | .seq ds, _, i => some ds[i]?
  | .cel n, μ, i => match μ[n]? with
    | some (.lst ds) => some ds[i]?
    | none => none
  | .rng lo n, _, i => some (if i < n then some (.int (lo + i)) else none)
abbrev EvI := Slots → Store → Option (Src × Store)
def SrcOk (K : PySem.W.Frag) (m0 : List Addr) (H0 : Hp) (src : Src) (J : It) : Prop :=
  ∀ m H μ i, Ext K m0 H0 m H → Sto K m H μ →
    (src.at μ i = some none → J.stop i H) ∧
    ∀ d, src.at μ i = some (some d) → J.go i H ∧ ∀ x H', J.yld i H x H' → ∃ m', Ext K m H m' H' ∧ Sto K m' H' μ ∧ RepV K m' H' d x
theorem SrcOk.ext {K : PySem.W.Frag} {m m' : List Addr} {H H' : Hp} {src : Src} {J : It} (h : SrcOk K m H src J) (e : Ext K m H m' H') : SrcOk K m' H' src J :=
  fun m2 H2 μ i e2 s => h m2 H2 μ i (e.trans e2) s
def TII (K : PySem.W.Frag) (f : EvI) : L2.TI := fun σ H R => ∃ m ρ μ src μ', RelS K m H ρ σ ∧ Sto K m H μ ∧ f ρ μ = some (src, μ') ∧
  ∀ J H' m', Ext K m H m' H' → Sto K m' H' μ' → SrcOk K m' H' src J → R J H'
theorem PI.imp {X : Cx} {tg e : Expr} {t t' : L2.TI} (h : PI X tg e t) (w : ∀ σ H Q, t' σ H Q → t σ H Q) : PI X tg e t' :=
  ⟨fun pins s σ H Q I q => h.run pins s σ H Q I (w σ H Q q)⟩
theorem PI.or {X : Cx} {tg e : Expr} {t t' : L2.TI} (h : PI X tg e t) (h' : PI X tg e t') : PI X tg e (fun σ H Q => t σ H Q ∨ t' σ H Q) :=
  ⟨fun pins s σ H Q I q => q.elim (h.run pins s σ H Q I) (h'.run pins s σ H Q I)⟩
def iSeq (f : EvF) : EvI := fun ρ μ => match f ρ μ with
  | some (.tup ds, μ1) => some (.seq ds, μ1)
  | some (.ls ds, μ1) => some (.seq ds, μ1)
  | some (.cel n, μ1) => some (.cel n, μ1)
  | _ => none
def iRng1 (f : EvA) : EvI := fun ρ μ => match f ρ μ with
  | some ([.int j], μ1) => if -(2 ^ 62) ≤ j ∧ j < 2 ^ 62 then some (.rng 0 j.toNat, μ1) else none
  | _ => none
def iRng2 (f : EvA) : EvI := fun ρ μ => match f ρ μ with
  | some ([.int i, .int j], μ1) => if -(2 ^ 62) ≤ i ∧ i < 2 ^ 62 ∧ -(2 ^ 62) ≤ j ∧ j < 2 ^ 62 then some (.rng i (j - i).toNat, μ1) else none
  | _ => none
section
variable {K : PySem.W.Frag} {m : List Addr} {H : Hp}
theorem src_tup {a : Addr} {vs : List V} {ds : List D} (hp : SqT K H a vs) (l : RepL K m H ds vs) : SrcOk K m H (.seq ds) (Itt K a) := by
  intro m1 H1 μ i e s
  have hp1 := e.tup _ _ hp
  have l1 := RepL.mono e _ _ l
  refine ⟨fun h => ?_, fun d h => ?_⟩
  · have h' : ds[i]? = none := Option.some.inj h
    exact ⟨vs, hp1, by rw [l1.length]; exact List.getElem?_eq_none_iff.mp h'⟩
  · have h' : ds[i]? = some d := Option.some.inj h
    obtain ⟨v, hv, rv⟩ := l1.get h'
    refine ⟨⟨vs, v, hp1, hv⟩, fun x H' y => ?_⟩
    obtain ⟨rfl, y⟩ := y
    have hx := y vs hp1
    rw [hv] at hx
    cases hx
    exact ⟨m1, Ext.refl, s, rv⟩
theorem src_ls {a : Addr} {vs : List V} {ds : List D} (hp : SqR K H a vs) (l : RepL K m H ds vs) : SrcOk K m H (.seq ds) (Itl K a) := by
  intro m1 H1 μ i e s
  have hp1 := (e.ro _ _ hp).seq
  have l1 := RepL.mono e _ _ l
  refine ⟨fun h => ?_, fun d h => ?_⟩
  · have h' : ds[i]? = none := Option.some.inj h
    exact ⟨vs, hp1, by rw [l1.length]; exact List.getElem?_eq_none_iff.mp h'⟩
  · have h' : ds[i]? = some d := Option.some.inj h
    obtain ⟨v, hv, rv⟩ := l1.get h'
    refine ⟨⟨vs, v, hp1, hv⟩, fun x H' y => ?_⟩
    obtain ⟨rfl, y⟩ := y
    have hx := y vs hp1
    rw [hv] at hx
    cases hx
    exact ⟨m1, Ext.refl, s, rv⟩
theorem src_cel {a : Addr} {n : Nat} (ha : m[n]? = some a) : SrcOk K m H (.cel n) (Itl K a) := by
  intro m1 H1 μ i e s
  have ha1 := e.pre _ _ ha
  refine ⟨fun h => ?_, fun d h => ?_⟩
  · simp only [Src.at] at h
    split at h
    · rename_i ds q
      have h' : ds[i]? = none := Option.some.inj h
      obtain ⟨a', vs, h1, h2, l⟩ := s.lst q
      rw [ha1] at h1; cases h1
      exact ⟨vs, SqL.of h2, by rw [l.length]; exact List.getElem?_eq_none_iff.mp h'⟩
    · cases h
  · simp only [Src.at] at h
    split at h
    · rename_i ds q
      have h' : ds[i]? = some d := Option.some.inj h
      obtain ⟨a', vs, h1, h2, l⟩ := s.lst q
      rw [ha1] at h1; cases h1
      obtain ⟨v, hv, rv⟩ := l.get h'
      refine ⟨⟨vs, v, SqL.of h2, hv⟩, fun x H' y => ?_⟩
      obtain ⟨rfl, y⟩ := y
      have hx := y vs (SqL.of h2)
      rw [hv] at hx
      cases hx
      exact ⟨m1, Ext.refl, s, rv⟩
    · cases h
theorem src_rng {lo : Int} {n : Nat} : SrcOk K m H (.rng lo n) (Itr lo n) := by
  intro m1 H1 μ i e s
  refine ⟨fun h => ?_, fun d h => ?_⟩
  · by_cases hi : i < n
    · simp only [Src.at] at h
      rw [if_pos hi] at h
      cases h
    · exact Nat.le_of_not_lt hi
  · by_cases hi : i < n
    · simp only [Src.at] at h
      rw [if_pos hi] at h
      cases h
      refine ⟨hi, fun x H' y => ?_⟩
      obtain ⟨rfl, rfl⟩ := y
      exact ⟨m1, Ext.refl, s, by simp [RepV]⟩
    · simp only [Src.at] at h
      rw [if_neg hi] at h
      cases h
end
section
variable {X : Cx} {tg a b : Expr} {fa : EvF} {fs : EvA} {p pos : Pos}
theorem pii_seq (ha : PE X a (TI X.K fa)) : PI X tg a (TII X.K (iSeq fa)) := by
  refine PI.imp (PI.or (L2.pi_tup ha) (L2.pi_list ha)) fun σ H R h => ?_
  obtain ⟨m, ρ, μ, src, μ', r, s, e, b⟩ := h
  unfold iSeq at e
  split at e
  · rename_i ds μ1 q
    cases e
    refine .inl ⟨m, ρ, μ, _, _, r, s, q, fun v H1 m1 e1 s1 r1 => ?_⟩
    simp only [RepV] at r1
    obtain ⟨p, vs, rfl, hp, l⟩ := r1
    exact ⟨p, rfl, ⟨vs, hp⟩, b _ H1 m1 e1 s1 (src_tup hp l)⟩
  · rename_i ds μ1 q
    cases e
    refine .inr ⟨m, ρ, μ, _, _, r, s, q, fun v H1 m1 e1 s1 r1 => ?_⟩
    simp only [RepV] at r1
    obtain ⟨p, vs, rfl, hp, l⟩ := r1
    exact ⟨p, rfl, ⟨vs, hp.seq⟩, b _ H1 m1 e1 s1 (src_ls hp l)⟩
  · rename_i n μ1 q
    cases e
    refine .inr ⟨m, ρ, μ, _, _, r, s, q, fun v H1 m1 e1 s1 r1 => ?_⟩
    obtain ⟨p, vs, rfl, hp, hx⟩ := cel_there s1 r1
    exact ⟨p, rfl, ⟨vs, SqL.of hx⟩, b _ H1 m1 e1 s1 (src_cel hp)⟩
  · cases e
theorem pii_rng1 (hg : Gl X "range") (hm : X.mg "range" = none) (ha : PA X [a] (TIA X.K fs)) (h1 : isStar a = false) : PI X tg (.Call (.Name "range" p) [a] [] pos) (TII X.K (iRng1 fs)) := by
  refine PI.imp (pi_range1 hg hm ha (starEach_of h1)) fun σ H R h => ?_
  obtain ⟨m, ρ, μ, src, μ', r, s, e, b⟩ := h
  unfold iRng1 at e
  split at e
  · rename_i j μ1 q
    split at e <;> cases e
    rename_i hz
    refine ⟨m, ρ, μ, _, _, r, s, q, fun vs H1 m1 e1 s1 r1 => ?_⟩
    obtain ⟨v, rfl, hv⟩ := RepL.one_of r1
    simp only [RepV] at hv
    subst hv
    exact ⟨j, rfl, hz.1, hz.2, b _ H1 m1 e1 s1 src_rng⟩
  · cases e
theorem pii_rng2 (hg : Gl X "range") (hm : X.mg "range" = none) (ha : PA X [a, b] (TIA X.K fs)) (h1 : isStar a = false) (h2 : isStar b = false) : PI X tg (.Call (.Name "range" p) [a, b] [] pos) (TII X.K (iRng2 fs)) := by
  refine PI.imp (pi_range2 hg hm ha (by rw [starEach_of h1, starEach_of h2]; rfl) (starEach_of h2)) fun σ H R h => ?_
  obtain ⟨m, ρ, μ, src, μ', r, s, e, b⟩ := h
  unfold iRng2 at e
  split at e
  · rename_i i j μ1 q
    split at e <;> cases e
    rename_i hz
    refine ⟨m, ρ, μ, _, _, r, s, q, fun vs H1 m1 e1 s1 r1 => ?_⟩
    obtain ⟨v, w, rfl, hv, hw⟩ := RepL.two_of r1
    simp only [RepV] at hv hw
    subst hv hw
    exact ⟨i, j, rfl, hz, b _ H1 m1 e1 s1 src_rng⟩
  · cases e
end

/-! ### for -/
def forF (src : Src) (g : EvG) (body : EvS) : Nat → Nat → EvS
  | 0, _, _, _ => none
  | n + 1, i, ρ, μ => match src.at μ i with
    | none => none
    | some none => some (.nx ρ μ)
    | some (some d) => match g d ρ μ with
      | none => none
      | some (ρ1, μ1) => match body ρ1 μ1 with
        | none => none
        | some (.nx ρ2 μ2) => forF src g body n (i + 1) ρ2 μ2
        | some (.ct ρ2 μ2) => forF src g body n (i + 1) ρ2 μ2
        | some (.brk ρ2 μ2) => some (.nx ρ2 μ2)
        | some (.ret d μ2) => some (.ret d μ2)
/-- more turns than any loop of the program has -/
def fuel : Nat := 2 ^ 10000
def sFor (it : EvI) (g : EvG) (body : EvS) : EvS := fun ρ μ => match it ρ μ with
  | none => none
  | some (src, μ1) => forF src g body fuel 0 ρ μ1
theorem ti_for {K : PySem.W.Frag} {it : EvI} {g : EvG} {body : EvS} {sl : List Nat} {D : Ends} {σ : L2.St} {H : Hp} (h : TSI K (sFor it g body) D σ H) : tFor (TII K it) (TGI K sl g) (TSI K body) D σ H := by
  obtain ⟨m, ρ, μ, out, r, s, e, b⟩ := h
  unfold sFor at e
  split at e
  · cases e
  · rename_i src μ1 q1
    refine ⟨m, ρ, μ, src, μ1, r, s, q1, fun J H1 m1 e1 s1 ok => ?_⟩
    refine ⟨fun i n σ2 H2 => ∃ m2 ρ2 μ2, Ext K m1 H1 m2 H2 ∧ RelS K m2 H2 ρ2 σ2 ∧ Sto K m2 H2 μ2 ∧ forF src g body n i ρ2 μ2 = some out, ⟨fuel, m1, ρ, μ1, Ext.refl, r.mono e1, s1, e⟩, ?_⟩
    rintro i n σ2 H2 ⟨m2, ρ2, μ2, e2, r2, s2, q2⟩
    cases n with
    | zero => cases q2
    | succ n =>
      unfold forF at q2
      obtain ⟨ok1, ok2⟩ := ok m2 H2 μ2 i e2 s2
      split at q2
      · cases q2
      · rename_i q3
        cases q2
        exact .inl ⟨ok1 q3, b σ2 H2 m2 (e1.trans e2) s2 r2⟩
      · rename_i d q3
        obtain ⟨go, yl⟩ := ok2 d q3
        refine .inr ⟨go, fun σ3 H3 => ∃ m3 ρ3 μ3, Ext K m1 H1 m3 H3 ∧ RelS K m3 H3 ρ3 σ3 ∧ Sto K m3 H3 μ3 ∧ forF src g body n (i + 1) ρ3 μ3 = some out, fun σ3 H3 h3 => ⟨n, Nat.lt_succ_self n, h3⟩, fun x H3 y => ?_⟩
        obtain ⟨m3, e3, s3, rx⟩ := yl x H3 y
        split at q2
        · cases q2
        · rename_i ρ4 μ4 q4
          refine ⟨m3, d, ρ2, μ2, ρ4, μ4, r2.mono e3, s3, rx, q4, fun σ5 H5 m5 _ e5 s5 r5 => ?_⟩
          have eb : Ext K m1 H1 m5 H5 := (e2.trans e3).trans e5
          cases q6 : body ρ4 μ4 with
          | none => rw [q6] at q2; cases q2
          | some o =>
            rw [q6] at q2
            refine ⟨m5, ρ4, μ4, o, r5, s5, q6, ?_⟩
            cases o with
            | nx ρ6 μ6 => exact fun σ7 H7 m7 e7 s7 r7 => ⟨m7, ρ6, μ6, eb.trans e7, r7, s7, q2⟩
            | ct ρ6 μ6 => exact fun σ7 H7 m7 e7 s7 r7 => ⟨m7, ρ6, μ6, eb.trans e7, r7, s7, q2⟩
            | brk ρ6 μ6 => cases q2; exact BackN.ext (e1.trans eb) b
            | ret d6 μ6 => cases q2; exact Back.ext (e1.trans eb) b
section
variable {X : Cx} {tg iter : Expr} {bs : List Stmt} {pos : Pos} {it : EvI} {g : EvG} {body : EvS} {sl : List Nat}
theorem folded_of (h : ∀ a b c, iter ≠ .Set a b c) (x : Value) : foldedSetIterable iter X.env x = pure x := by
  cases iter <;> first
    | rfl
    | exact absurd rfl (h _ _ _)
theorem psi_for (hx : X.xe = fun _ _ => False) (hc : X.calm = true) (hi : PI X tg iter (TII X.K it)) (hg : PG X tg (TGI X.K sl g)) (hb : PSs X bs (TSI X.K body)) (hs : ∀ x, foldedSetIterable iter X.env x = pure x) : PS X (.For tg iter bs [] pos) (TSI X.K (sFor it g body)) :=
  PS.imp (ps_for (by rw [hx]; exact PassesOwn.never) hc hi hg hb hs) fun D σ H h => ti_for h
end

/-! ### while -/
def whileF (c : EvT) (body : EvS) : Nat → EvS
  | 0, _, _ => none
  | n + 1, ρ, μ => match c ρ μ with
    | none => none
    | some (false, μ1) => some (.nx ρ μ1)
    | some (true, μ1) => match body ρ μ1 with
      | none => none
      | some (.nx ρ2 μ2) => whileF c body n ρ2 μ2
      | some (.ct ρ2 μ2) => whileF c body n ρ2 μ2
      | some (.brk ρ2 μ2) => some (.nx ρ2 μ2)
      | some (.ret d μ2) => some (.ret d μ2)
def sWhile (c : EvT) (body : EvS) : EvS := whileF c body fuel
theorem ti_while {K : PySem.W.Frag} {c : EvT} {body : EvS} {D : Ends} {σ : L2.St} {H : Hp} (h : TSI K (sWhile c body) D σ H) : tWhile (TIT K c) (TSI K body) D σ H := by
  obtain ⟨m, ρ, μ, out, r, s, e, b⟩ := h
  refine ⟨fun n σ2 H2 => ∃ m2 ρ2 μ2, Ext K m H m2 H2 ∧ RelS K m2 H2 ρ2 σ2 ∧ Sto K m2 H2 μ2 ∧ whileF c body n ρ2 μ2 = some out, ⟨fuel, m, ρ, μ, Ext.refl, r, s, e⟩, ?_⟩
  rintro n σ2 H2 ⟨m2, ρ2, μ2, e2, r2, s2, q2⟩
  cases n with
  | zero => cases q2
  | succ n =>
    unfold whileF at q2
    split at q2
    · cases q2
    · rename_i μ3 q3
      cases q2
      refine ⟨m2, ρ2, μ2, false, _, r2, s2, q3, fun H4 m4 e4 s4 => ?_⟩
      refine iteF ?_
      exact b σ2 H4 m4 (e2.trans e4) s4 (r2.mono e4)
    · rename_i μ3 q3
      refine ⟨m2, ρ2, μ2, true, μ3, r2, s2, q3, fun H4 m4 e4 s4 => ?_⟩
      refine iteT ?_
      refine ⟨fun σ5 H5 => ∃ m5 ρ5 μ5, Ext K m H m5 H5 ∧ RelS K m5 H5 ρ5 σ5 ∧ Sto K m5 H5 μ5 ∧ whileF c body n ρ5 μ5 = some out, fun σ5 H5 h5 => ⟨n, Nat.lt_succ_self n, h5⟩, ?_⟩
      have eb : Ext K m H m4 H4 := e2.trans e4
      cases q6 : body ρ2 μ3 with
      | none => rw [q6] at q2; cases q2
      | some o =>
        rw [q6] at q2
        refine ⟨m4, ρ2, μ3, o, r2.mono e4, s4, q6, ?_⟩
        cases o with
        | nx ρ6 μ6 => exact fun σ7 H7 m7 e7 s7 r7 => ⟨m7, ρ6, μ6, eb.trans e7, r7, s7, q2⟩
        | ct ρ6 μ6 => exact fun σ7 H7 m7 e7 s7 r7 => ⟨m7, ρ6, μ6, eb.trans e7, r7, s7, q2⟩
        | brk ρ6 μ6 => cases q2; exact BackN.ext eb b
        | ret d6 μ6 => cases q2; exact Back.ext eb b
section
variable {X : Cx} {e : Expr} {bs : List Stmt} {pos : Pos} {c : EvT} {body : EvS}
theorem psi_while (hx : X.xe = fun _ _ => False) (hc : PT X e (TIT X.K c)) (hb : PSs X bs (TSI X.K body)) : PS X (.While e bs [] pos) (TSI X.K (sWhile c body)) :=
  PS.imp (ps_while (by rw [hx]; exact PassesOwn.never) hc hb) fun D σ H h => ti_while h
end

/-! ### list comprehensions -/
/-- the turns of a comprehension whose list is the cell k -/
def lcF (src : Src) (g : EvG) (t : EvT) (f : EvF) (k : Nat) (ρ : Slots) : Nat → Nat → Store → Option Store
  | 0, _, _ => none
  | n + 1, i, μ => match src.at μ i with
    | none => none
    | some none => some μ
    | some (some d) => match g d ρ μ with
      | none => none
      | some (ρ1, μ1) => match t ρ1 μ1 with
        | none => none
        | some (false, μ2) => lcF src g t f k ρ n (i + 1) μ2
        | some (true, μ2) => match f ρ1 μ2 with
          | none => none
          | some (y, μ3) => match μ3[k]? with
            | some (.lst acc) => if acc.length < seqMax then lcF src g t f k ρ n (i + 1) (μ3.set k (.lst (acc ++ [y]))) else none
            | none => none
def fLc (it : EvI) (g : EvG) (t : EvT) (f : EvF) (own : List Nat) : EvF := fun ρ μ => match it ρ μ with
  | none => none
  | some (src, μ1) => match lcF src g t f μ1.length (wipeD ρ own) fuel 0 (μ1 ++ [.lst []]) with
    | none => none
    | some μ2 => some (.cel μ1.length, μ2)
def tYesD : EvT := fun _ μ => some (true, μ)
theorem wipe_agr {sl own : List Nat} {σ σ' : L2.St} (a : Agr sl σ σ') (h : ∀ i ∈ sl, i ∈ own) : L2.wipe σ' own = L2.wipe σ own := by
  have key : ∀ (τ : L2.St) (vs : List Nat) (i : Nat), (L2.wipe τ vs)[i]? = if i ∈ vs ∧ i < τ.length then some none else τ[i]? := by
    intro τ vs
    induction vs with
    | nil => intro i; simp [L2.wipe]
    | cons v vs ih =>
      intro i
      unfold L2.wipe
      by_cases hi : i = v
      · subst hi
        by_cases hl : i < τ.length
        · rw [List.getElem?_set_self (by rw [wipe_length]; exact hl), if_pos ⟨List.mem_cons_self, hl⟩]
        · rw [if_neg (fun q => hl q.2), List.getElem?_eq_none (by rw [List.length_set, wipe_length]; omega), List.getElem?_eq_none (by omega)]
      · rw [List.getElem?_set_ne (Ne.symm hi), ih i]
        have e : (i ∈ v :: vs) ↔ i ∈ vs := by simp [hi]
        simp only [e]
  apply List.ext_getElem?
  intro i
  rw [key, key, a.len]
  by_cases hi : i ∈ own
  · by_cases hl : i < σ.length
    · rw [if_pos ⟨hi, hl⟩, if_pos ⟨hi, hl⟩]
    · rw [if_neg (fun q => hl q.2), if_neg (fun q => hl q.2), List.getElem?_eq_none (by rw [a.len]; omega), List.getElem?_eq_none (by omega)]
  · rw [if_neg (fun q => hi q.1), if_neg (fun q => hi q.1), a.at_ i fun q => hi (h i q)]
theorem wipe_wipe (σ : L2.St) (own : List Nat) : L2.wipe (L2.wipe σ own) own = L2.wipe σ own := by
  have key : ∀ (τ : L2.St) (vs : List Nat) (i : Nat), (L2.wipe τ vs)[i]? = if i ∈ vs ∧ i < τ.length then some none else τ[i]? := by
    intro τ vs
    induction vs with
    | nil => intro i; simp [L2.wipe]
    | cons v vs ih =>
      intro i
      unfold L2.wipe
      by_cases hi : i = v
      · subst hi
        by_cases hl : i < τ.length
        · rw [List.getElem?_set_self (by rw [wipe_length]; exact hl), if_pos ⟨List.mem_cons_self, hl⟩]
        · rw [if_neg (fun q => hl q.2), List.getElem?_eq_none (by rw [List.length_set, wipe_length]; omega), List.getElem?_eq_none (by omega)]
      · rw [List.getElem?_set_ne (Ne.symm hi), ih i]
        have e : (i ∈ v :: vs) ↔ i ∈ vs := by simp [hi]
        simp only [e]
  apply List.ext_getElem?
  intro i
  rw [key, key, wipe_length]
  by_cases hi : i ∈ own ∧ i < σ.length
  · rw [if_pos hi, if_pos hi]
  · rw [if_neg hi, if_neg hi]
theorem ti_lc {K : PySem.W.Frag} {it : EvI} {g : EvG} {t : EvT} {f : EvF} {sl own : List Nat} {σ : L2.St} {H : Hp} {Q : VK} (hsl : ∀ i ∈ sl, i ∈ own) (h : TI K (fLc it g t f own) σ H Q) : tLc (TII K it) (TGI K sl g) (TIT K t) (TI K f) own σ H Q := by
  obtain ⟨m, ρ, μ, d, μ', r, s, e, b⟩ := h
  unfold fLc at e
  split at e
  · cases e
  · rename_i src μ1 q1
    split at e
    · cases e
    · rename_i μf qf
      cases e
      refine ⟨m, ρ, μ, src, μ1, r, s, q1, fun J H1 m1 e1 s1 ok => ?_⟩
      intro Da hD
      have s1' : Sto K (m1 ++ [Da]) (upd H1 Da (.lst [])) (μ1 ++ [.lst []]) := s1.new hD (by simp [RepL])
      have e1' : Ext K m1 H1 (m1 ++ [Da]) (upd H1 Da (.lst [])) := Sto.newExt hD
      have hk : (m1 ++ [Da])[μ1.length]? = some Da := by
        rw [List.getElem?_append_right (by rw [s1.len]; omega), s1.len]
        simp
      generalize hmb : m1 ++ [Da] = mb at s1' e1' hk
      generalize hHb : upd H1 Da (.lst []) = Hb at s1' e1'
      refine ⟨fun i n H2 => ∃ m2 μ2, Ext K mb Hb m2 H2 ∧ Sto K m2 H2 μ2 ∧ lcF src g t f μ1.length (wipeD ρ own) n i μ2 = some μ', ⟨fuel, mb, _, Ext.refl, s1', qf⟩, ?_⟩
      rintro i n H2 ⟨m2, μ2, e2, s2, q2⟩
      have eb : Ext K m H m2 H2 := (e1.trans e1').trans e2
      have rw2 : RelS K m2 H2 (wipeD ρ own) (L2.wipe σ own) := RelS.wipe (r.mono eb) own
      cases n with
      | zero => cases q2
      | succ n =>
        unfold lcF at q2
        obtain ⟨ok1, ok2⟩ := ok m2 H2 μ2 i (e1'.trans e2) s2
        split at q2
        · cases q2
        · rename_i q3
          cases q2
          refine .inl ⟨ok1 q3, b _ H2 m2 eb s2 ?_⟩
          simp only [RepV]
          exact ⟨Da, rfl, e2.pre _ _ hk⟩
        · rename_i d q3
          obtain ⟨go, yl⟩ := ok2 d q3
          refine .inr ⟨go, fun H3 => ∃ m3 μ3, Ext K mb Hb m3 H3 ∧ Sto K m3 H3 μ3 ∧ lcF src g t f μ1.length (wipeD ρ own) n (i + 1) μ3 = some μ', fun H3 h3 => ⟨n, Nat.lt_succ_self n, h3⟩, fun x H3 y => ?_⟩
          obtain ⟨m3, e3, s3, rx⟩ := yl x H3 y
          split at q2
          · cases q2
          · rename_i ρ4 μ4 q4
            refine ⟨m3, d, wipeD ρ own, μ2, ρ4, μ4, rw2.mono e3, s3, rx, q4, fun σ5 H5 m5 a5 e5 s5 r5 => ⟨?_, ?_⟩⟩
            · rw [wipe_agr a5 hsl, wipe_wipe]
            · have eb5 : Ext K mb Hb m5 H5 := (e2.trans e3).trans e5
              cases q6 : t ρ4 μ4 with
              | none => rw [q6] at q2; cases q2
              | some tb =>
                obtain ⟨bb, μ6⟩ := tb
                rw [q6] at q2
                refine ⟨m5, ρ4, μ4, bb, μ6, r5, s5, q6, fun H7 m7 e7 s7 => ?_⟩
                cases bb with
                | false =>
                  refine iteF ?_
                  exact ⟨m7, μ6, eb5.trans e7, s7, q2⟩
                | true =>
                  refine iteT ?_
                  dsimp only at q2
                  split at q2
                  · cases q2
                  · rename_i yv μ8 q8
                    refine ⟨m7, ρ4, μ6, yv, μ8, r5.mono e7, s7, q8, fun z H9 m9 e9 s9 r9 => ?_⟩
                    split at q2
                    · rename_i acc q10
                      split at q2
                      · rename_i hz
                        obtain ⟨a, ws, ha, hx, l⟩ := s9.lst q10
                        have eb9 : Ext K mb Hb m9 H9 := (eb5.trans e7).trans e9
                        have ha' := eb9.pre _ _ hk
                        rw [ha'] at ha
                        cases ha
                        exact ⟨ws, hx, by rw [l.length]; exact seqMax_lt hz, m9, _, eb9.trans (Ext.write hx), s9.write ha' hx (l.append (RepL.one r9)), q2⟩
                      · cases q2
                    · cases q2
section
variable {X : Cx} {elt tg iter : Expr} {ifs : List Expr} {scope : Scope} {own : List (Str × Nat)} {pos : Pos} {it : EvI} {g : EvG} {t : EvT} {f : EvF} {sl : List Nat}
theorem ptsi_nil : PTs X [] (TIT X.K tYesD) := ⟨fun pins s σ H Q I h => pts_nil.run pins s σ H Q I (by
  obtain ⟨m, ρ, μ, k, μ', r, st, e, b⟩ := h
  cases e
  exact b H m Ext.refl st)⟩
theorem ptsi_one {c : Expr} (h : PT X c (TIT X.K t)) : PTs X [c] (TIT X.K t) := pts_one h
theorem pi_lc (hc : X.calm = true) (hN : X.N.Nodup) (hi : PI X tg iter (TII X.K it)) (ok : BlkOk X.N X.env.scope scope own) (hsl : ∀ i ∈ sl, i ∈ own.map (·.2))
    (hg : ∀ (s : Shared) (H : Hp) (C : Addr) (cl : List (Str × Addr)) (fp : List Addr), PG (X.blk s H scope (compEnvC scope cl C X.env) fp) tg (TGI X.K sl g))
    (ht : ∀ (s : Shared) (H : Hp) (C : Addr) (cl : List (Str × Addr)) (fp : List Addr), PTs (X.blk s H scope (compEnvC scope cl C X.env) fp) ifs (TIT X.K t))
    (he : ∀ (s : Shared) (H : Hp) (C : Addr) (cl : List (Str × Addr)) (fp : List Addr), PE (X.blk s H scope (compEnvC scope cl C X.env) fp) elt (TI X.K f)) (hs : ∀ x, foldedSetIterable iter X.env x = pure x) :
    PE X (.ListComp elt [⟨tg, iter, ifs, 0⟩] scope pos) (TI X.K (fLc it g t f (own.map (·.2)))) :=
  PE.imp (pe_lc hc hN hi ok hg ht he hs) fun σ H Q h => ti_lc hsl h
theorem psi_setLc {i : Nat} {y : Str} {py spos : Pos} (hc : X.calm = true) (hN : X.N.Nodup) (hy : X.N[i]? = some y) (hyl : X.env.scope.names.lookup y = some .local)
    (hsw : swapsWith (.ListComp elt [⟨tg, iter, ifs, 0⟩] scope pos) (some (.Name y py)) spos.line X.env = pure true)
    (hi : PI X tg iter (TII X.K it)) (ok : BlkOk X.N X.env.scope scope own) (hsl : ∀ i ∈ sl, i ∈ own.map (·.2))
    (hg : ∀ (s : Shared) (H : Hp) (C : Addr) (cl : List (Str × Addr)) (fp : List Addr), PG (X.blk s H scope (compEnvC scope cl C X.env) fp) tg (TGI X.K sl g))
    (ht : ∀ (s : Shared) (H : Hp) (C : Addr) (cl : List (Str × Addr)) (fp : List Addr), PTs (X.blk s H scope (compEnvC scope cl C X.env) fp) ifs (TIT X.K t))
    (he : ∀ (s : Shared) (H : Hp) (C : Addr) (cl : List (Str × Addr)) (fp : List Addr), PE (X.blk s H scope (compEnvC scope cl C X.env) fp) elt (TI X.K f)) (hs : ∀ x, foldedSetIterable iter X.env x = pure x) :
    PS X (.Assign [.Name y py] (.ListComp elt [⟨tg, iter, ifs, 0⟩] scope pos) spos) (TSI X.K (sAsg (fLc it g t f (own.map (·.2))) (gName i))) := by
  refine PS.imp (ps_setLc hc hN hy hyl hsw hi ok hg ht he hs) fun D σ H h => ?_
  obtain ⟨m, ρ, μ, out, r, s, e, b⟩ := h
  unfold sAsg at e
  split at e
  · cases e
  · rename_i d μ1 q1
    cases e
    exact ti_lc (Q := fun x H1 => L2.gName i x σ H1 D.nx) hsl ⟨m, ρ, μ, d, μ1, r, s, q1, fun v H1 m1 e1 s1 r1 => b _ H1 m1 e1 s1 ((r.mono e1).set r1)⟩
end
end Mini
end

section
set_option Elab.async false
set_option linter.all false
set_option maxRecDepth 100000
/-! MSound: from the text to plain functions, and that these tell what the text does. -/
namespace Mini
open PySem PySem.Spec PyProof.Rows L2 HT

/-- what is known of a block while it is read -/
structure CC where
  N : List Str
  sc : Scope
  fn : Str → Bool
  gl : List (Str × D)
  fns : List (Str × Nat × Nat)
  free : List Str
  cl : Nat → OpA

def ixOf : List Str → Str → Option Nat
  | [], _ => none
  | y :: ys, x => if y = x then some 0 else (ixOf ys x).map (· + 1)
theorem ixOf_get : ∀ {N : List Str} {x : Str} {i : Nat}, ixOf N x = some i → N[i]? = some x
  | [], _, _, h => by cases h
  | y :: ys, x, i, h => by
    unfold ixOf at h
    split at h
    · rename_i e
      cases h
      rw [e]
      rfl
    · cases q : ixOf ys x with
      | none => rw [q] at h; cases h
      | some j =>
        rw [q] at h
        cases h
        rw [List.getElem?_cons_succ]
        exact ixOf_get q
def visB (sc : Scope) (x : Str) : Bool := match sc.names.lookup x with
  | some .local => true
  | some .cell => true
  | some .free => true
  | _ => false
theorem visB_ok {sc : Scope} {x : Str} (h : visB sc x = true) : Vis sc x := by
  unfold visB at h
  unfold Vis
  split at h
  · rename_i q; exact .inl q
  · rename_i q; exact .inr (.inl q)
  · rename_i q; exact .inr (.inr q)
  · cases h
def locB (c : CC) (x : Str) : Bool := match c.sc.names.lookup x with
  | some .local => true
  | some .cell => c.fn x
  | _ => false
theorem locB_ok {c : CC} {x : Str} (h : locB c x = true) : L2.Loc c.sc x ∧ (c.fn x = true ∨ c.sc.names.lookup x = some .local) := by
  unfold locB at h
  unfold L2.Loc
  split at h
  · rename_i q
    exact ⟨.inl q, .inr q⟩
  · rename_i q
    exact ⟨.inr q, .inl h⟩
  · cases h
def gloB (sc : Scope) (x : Str) : Bool := match sc.names.lookup x with
  | some .globalImplicit => true
  | _ => false
theorem gloB_ok {sc : Scope} {x : Str} (h : gloB sc x = true) : sc.names.lookup x = some .globalImplicit := by
  unfold gloB at h
  split at h
  · assumption
  · cases h
/-- a name that is neither of the two odd ones -/
def plainB (x : Str) : Bool := !(x == ("__debug__" : Str)) && !(x == ("__classdict__" : Str)) && !(x == ("__name__" : Str))
theorem plainB_ok {x : Str} (h : plainB x = true) : (x == ("__debug__" : Str)) = false ∧ (x == ("__classdict__" : Str)) = false ∧ x ≠ "__name__" := by
  unfold plainB at h
  simp only [Bool.and_eq_true, Bool.not_eq_true'] at h
  exact ⟨h.1.1, h.1.2, fun e => by rw [e] at h; exact absurd h.2 (by simp)⟩

def tyNamed (x : Str) : Option Ty :=
  if x = "int" then some .int else if x = "bool" then some .bool else if x = "str" then some .str else if x = "tuple" then some .tuple else if x = "list" then some .list else none
theorem tyNamed_ok {x : Str} {t : Ty} (h : tyNamed x = some t) : bootBuiltins x = some (.type t.name) := by
  unfold tyNamed at h
  split at h
  · rename_i e; subst e; cases h; decide +kernel
  · split at h
    · rename_i e; subst e; cases h; decide +kernel
    · split at h
      · rename_i e; subst e; cases h; decide +kernel
      · split at h
        · rename_i e; subst e; cases h; decide +kernel
        · split at h
          · rename_i e; subst e; cases h; decide +kernel
          · cases h
/-- the built-in functions -/
def biNamed (x : Str) : Option OpA :=
  if x = "abs" then some bAbs else if x = "len" then some bLen else if x = "all" then some bAll else if x = "any" then some bAny else if x = "isinstance" then some bIsi else none
theorem biNamed_ok {X : Cx} {x : Str} {g : OpA} (hc : X.calm = true) (h : biNamed x = some g) : ∃ id, CallR X (.builtin id) (rC X.K g) ∧ bootBuiltins x = some (.builtin id) := by
  unfold biNamed at h
  split at h
  · rename_i e; subst e; cases h; exact ⟨_, cd_abs, by decide +kernel⟩
  · split at h
    · rename_i e; subst e; cases h; exact ⟨_, cd_len, by decide +kernel⟩
    · split at h
      · rename_i e; subst e; cases h; exact ⟨_, cd_all hc, by decide +kernel⟩
      · split at h
        · rename_i e; subst e; cases h; exact ⟨_, cd_any hc, by decide +kernel⟩
        · split at h
          · rename_i e; subst e; cases h; exact ⟨_, cd_isi, by decide +kernel⟩
          · cases h
/-- the built-in classes as functions -/
def tyCall : Ty → Option OpA
  | .int => some bInt
  | .tuple => some bTuple
  | .list => some bList
  | _ => none
theorem tyCall_ok {X : Cx} {t : Ty} {g : OpA} (h : tyCall t = some g) : CallR X (.type t.name) (rC X.K g) := by
  cases t <;> cases h
  · exact cd_int
  · exact cd_tuple
  · exact cd_list
def binOf : Operator → Option Op2
  | .Add => some dAdd
  | .Sub => some dSub
  | .Mult => some dMul
  | .FloorDiv => some dDiv
  | .Mod => some dMod
  | .Pow => some dPow
  | _ => none
theorem binOf_ok {X : Cx} {op : Operator} {g : Op2} (h : binOf op = some g) : OpR X (binaryOp op) (rD X.K g) := by
  cases op <;> cases h
  · exact opd_add
  · exact opd_sub
  · exact opd_mul
  · exact opd_mod
  · exact opd_pow
  · exact opd_div
def cmpOf : CmpOp → Option Op2
  | .Eq => some dEq
  | .NotEq => some dNe
  | .Lt => some dLt
  | .LtE => some dLe
  | .Gt => some dGt
  | .GtE => some dGe
  | .Is => some dIs
  | .IsNot => some dIsN
  | _ => none
theorem cmpOf_ok {X : Cx} {op : CmpOp} {g : Op2} (hu : X.A.units + 64 < cLine) (h : cmpOf op = some g) : OpR X (compareOp op) (rD X.K g) := by
  cases op <;> cases h
  · exact opd_eq hu
  · exact opd_ne hu
  · exact opd_lt
  · exact opd_le
  · exact opd_gt
  · exact opd_ge
  · exact opd_is
  · exact opd_isN
def isSet : Expr → Bool
  | .Set _ _ _ => true
  | _ => false
theorem marks_of {b : Expr} {op : CmpOp} (h : isSet b = false) : behindInMarks op b = false := by
  cases b <;> first
    | rfl
    | cases h
theorem folded_ok {b : Expr} {env : Env} (h : isSet b = false) (x : Value) : foldedSetIterable b env x = pure x := by
  cases b <;> first
    | rfl
    | cases h
/-- the own names of a comprehension, with their places -/
def ownOf (N : List Str) (scope : Scope) : List (Str × Nat) := scope.names.filterMap fun y => match y.2 with
  | .local => (ixOf N y.1).map fun i => (y.1, i)
  | .cell => (ixOf N y.1).map fun i => (y.1, i)
  | _ => none
def CC.blk (c : CC) (scope : Scope) : CC := { c with sc := relS scope c.sc, fn := fun x => scope.names.lookup x == some .cell }
def isRange (x : Str) : Bool := decide (x = "range")


/-! ### stuck -/
def fNo : EvF := fun _ _ => none
def aNo : EvA := fun _ _ => none
def tNo : EvT := fun _ _ => none
def oNo : EvO := fun _ _ => none
def iNo : EvI := fun _ _ => none
def gNo : EvG := fun _ _ _ => none
def gsNo : EvGs := fun _ _ _ => none
section
variable {X : Cx}
theorem pi_no {e : Expr} : PE X e (TI X.K fNo) := ⟨fun _ _ _ _ _ _ h => by obtain ⟨m, ρ, μ, d, μ', r, s, e, b⟩ := h; cases e⟩
theorem pia_no {e : List Expr} : PA X e (TIA X.K aNo) := ⟨fun _ _ _ _ _ _ _ h => by obtain ⟨m, ρ, μ, d, μ', r, s, e, b⟩ := h; cases e⟩
theorem pti_no {e : Expr} : PT X e (TIT X.K tNo) := ⟨fun _ _ _ _ _ _ h => by obtain ⟨m, ρ, μ, d, μ', r, s, e, b⟩ := h; cases e⟩
theorem ptsi_no {e : List Expr} : PTs X e (TIT X.K tNo) := ⟨fun _ _ _ _ _ _ h => by obtain ⟨m, ρ, μ, d, μ', r, s, e, b⟩ := h; cases e⟩
theorem pwi_no {e : Expr} : PW X e (TIT X.K tNo) := ⟨fun _ _ _ _ _ _ _ h => by obtain ⟨m, ρ, μ, d, μ', r, s, e, b⟩ := h; cases e⟩
theorem poi_no {e : Option Expr} : PO X e (TIO X.K oNo) := ⟨fun _ _ _ _ _ _ h => by obtain ⟨m, ρ, μ, d, μ', r, s, e, b⟩ := h; cases e⟩
theorem pii_no {tg e : Expr} : PI X tg e (TII X.K iNo) := ⟨fun _ _ _ _ _ _ h => by obtain ⟨m, ρ, μ, d, μ', r, s, e, b⟩ := h; cases e⟩
theorem pgi_no {e : Expr} {sl : List Nat} : PG X e (TGI X.K sl gNo) := ⟨fun _ _ _ _ _ _ _ _ _ h => by obtain ⟨m, d, ρ, μ, ρ', μ', r, s, rv, e, b⟩ := h; cases e⟩
theorem pgsi_no {e : List Expr} {sl : List Nat} : PGs X e (TGsI X.K sl gsNo) := ⟨fun _ _ _ _ _ _ _ _ _ h => by obtain ⟨m, d, ρ, μ, ρ', μ', r, s, rv, e, b⟩ := h; cases e⟩
end

/-- a global name as a value -/
def cGlob (c : CC) (x : Str) : EvF := match c.gl.lookup x with
  | some d => fCon d
  | none => if c.free.contains x = true then (match tyNamed x with
    | some t => fCon (.ty t)
    | none => fNo) else fNo
/-- the call of a global name -/
def cCall (c : CC) (x : Str) (n : Nat) (fa : EvA) : EvF := match c.fns.lookup x with
  | some (i, m) => if m = n then fApp (c.cl i) fa else fNo
  | none => if c.free.contains x = true then (match biNamed x with
    | some g => fApp g fa
    | none => match tyNamed x with
      | some t => (match tyCall t with
        | some g => fApp g fa
        | none => fNo)
      | none => fNo) else fNo
def stars (es : List Expr) : Bool := es.all fun e => !isStar e
/-- what stands as the object of a member -/
def plainObj : Expr → Bool
  | .Name _ _ => true
  | .Attribute _ _ _ => true
  | .Subscript _ _ _ => true
  | _ => false
theorem base_of {o : Expr} {f : Str} {env : Env} (h : plainObj o = true) : attributeBase o f env (eval o env) = eval o env := by
  cases o <;> first
    | rfl
    | cases h

mutual
/-- an expression as a plain function -/
def cE : Nat → CC → Expr → EvF
  | 0, _, _ => fNo
  | n + 1, c, e => match e with
    | .Name x _ => if plainB x = true then (if visB c.sc x = true then (match ixOf c.N x with
      | some i => fVar i
      | none => fNo) else if gloB c.sc x = true then cGlob c x else fNo) else fNo
    | .Constant k _ _ => match k with
      | .int i => fCon (.int i)
      | .bool b => fCon (.bl b)
      | .str s => fCon (.str s)
      | .none => fCon .non
      | _ => fNo
    | .BinOp a op b _ => match binOf op with
      | some g => fBin g (cE n c a) (cE n c b)
      | none => fNo
    | .UnaryOp op a _ => match op with
      | .USub => fUn dNeg (cE n c a)
      | .Not => fUn dNot (cE n c a)
      | _ => fNo
    | .Compare a ops bs _ => match ops, bs with
      | [op], [b] => if isSet b = true then fNo else match cmpOf op with
        | some g => fBin g (cE n c a) (cE n c b)
        | none => fNo
      | [op, op'], [b, d] => if isSet d = true then fNo else match cmpOf op, cmpOf op' with
        | some g, some g' => fChain g g' (cE n c a) (cE n c b) (cE n c d)
        | _, _ => fNo
      | _, _ => fNo
    | .BoolOp op es _ => cBool n c op es
    | .IfExp t a b _ => fIte (cT n c t) (cE n c a) (cE n c b)
    | .Tuple es _ _ => fTup (cEs n c es)
    | .List es _ => fLst (cEs n c es)
    | .Subscript a s _ => match s with
      | .Slice lo hi st _ => match st with
        | none => fSl (cE n c a) (cO n c lo) (cO n c hi)
        | some st => match lo, hi, st with
          | none, none, .UnaryOp .USub (.Constant (.int i) _ _) _ => if i = 1 then fUn dRev (cE n c a) else fNo
          | _, _, _ => fNo
      | s => if isSlice s = true then fNo else fBin dIx (cE n c a) (cE n c s)
    | .Call f es kws cpos => match kws with
      | [] => match f with
        | .Name x _ => if (plainB x && gloB c.sc x && stars es && !es.isEmpty) = true then cCall c x es.length (cEs n c es) else fNo
        | .Attribute o m apos => match es with
          | [e] => if (decide (m = "append") && plainObj o && (apos.endLine == cpos.line) && !isStar e) = true then sApp (cE n c o) (cE n c e) else fNo
          | _ => fNo
        | _ => fNo
      | _ => fNo
    | .ListComp elt gens scope _ => match gens with
      | [⟨tg, iter, ifs, as⟩] => if (decide (as = 0) && !isSet iter && blkC c.N c.sc scope (ownOf c.N scope)) = true then cLc n c scope elt tg iter ifs else fNo
      | _ => fNo
    | _ => fNo
def cLc : Nat → CC → Scope → Expr → Expr → Expr → List Expr → EvF
  | 0, _, _, _, _, _, _ => fNo
  | n + 1, c, scope, elt, tg, iter, ifs =>
    if ((cG n (c.blk scope) tg).1.all fun i => ((ownOf c.N scope).map (·.2)).contains i) = true then
      fLc (cI n c iter) (cG n (c.blk scope) tg).2 (cTs n (c.blk scope) ifs) (cE n (c.blk scope) elt) ((ownOf c.N scope).map (·.2))
    else fNo
def cEs : Nat → CC → List Expr → EvA
  | 0, _, _ => aNo
  | n + 1, c, es => match es with
    | [] => fNil
    | e :: es => if isStar e = true then aNo else fCons (cE n c e) (cEs n c es)
def cO : Nat → CC → Option Expr → EvO
  | 0, _, _ => oNo
  | n + 1, c, o => match o with
    | none => fPart0
    | some e => fPart (cE n c e)
def cBool : Nat → CC → BoolOp → List Expr → EvF
  | 0, _, _, _ => fNo
  | n + 1, c, op, es => match es with
    | [] => fNo
    | e :: es => match es with
      | [] => cE n c e
      | e2 :: es => match op with
        | .And => fAnd (cE n c e) (cBool n c .And (e2 :: es))
        | .Or => fOr (cE n c e) (cBool n c .Or (e2 :: es))
/-- a test -/
def cT : Nat → CC → Expr → EvT
  | 0, _, _ => tNo
  | n + 1, c, e => match e with
    | .UnaryOp op a _ => match op with
      | .Not => tNotD (cT n c a)
      | _ => tNo
    | .BoolOp op es _ => cTBool n c op es
    | .Compare a ops bs _ => match ops, bs with
      | [op], [b] => if isSet b = true then tNo else match cmpOf op with
        | some g => tBl (fBin g (cE n c a) (cE n c b))
        | none => tNo
      | [op, op'], [b, d] => if isSet d = true then tNo else match cmpOf op, cmpOf op' with
        | some g, some g' => tBl (fChain g g' (cE n c a) (cE n c b) (cE n c d))
        | _, _ => tNo
      | _, _ => tNo
    | .Name x p => tVal (cE n c (.Name x p))
    | .Call f es kws p => tVal (cE n c (.Call f es kws p))
    | .Subscript a b p => tVal (cE n c (.Subscript a b p))
    | .Constant k j p => tVal (cE n c (.Constant k j p))
    | _ => tNo
def cTBool : Nat → CC → BoolOp → List Expr → EvT
  | 0, _, _, _ => tNo
  | n + 1, c, op, es => match es with
    | [] => tNo
    | e :: es => match es with
      | [] => cT n c e
      | e2 :: es => match op with
        | .And => tAndD (cT n c e) (cTBool n c .And (e2 :: es))
        | .Or => tOrD (cT n c e) (cTBool n c .Or (e2 :: es))
def cTs : Nat → CC → List Expr → EvT
  | 0, _, _ => tNo
  | n + 1, c, es => match es with
    | [] => tYesD
    | [e] => cT n c e
    | _ => tNo
/-- what is walked -/
def cI : Nat → CC → Expr → EvI
  | 0, _, _ => iNo
  | n + 1, c, e => match e with
    | .Call f es kws p => match f, es, kws with
      | .Name x p1, [a], [] => if (isRange x && gloB c.sc x && c.free.contains x && !isStar a) = true then iRng1 (cEs n c [a]) else iSeq (cE n c (.Call (.Name x p1) [a] [] p))
      | .Name x p1, [a, b], [] => if (isRange x && gloB c.sc x && c.free.contains x && !isStar a && !isStar b) = true then iRng2 (cEs n c [a, b]) else iSeq (cE n c (.Call (.Name x p1) [a, b] [] p))
      | f, es, kws => iSeq (cE n c (.Call f es kws p))
    | e => iSeq (cE n c e)
/-- a target, with its slots -/
def cG : Nat → CC → Expr → List Nat × EvG
  | 0, _, _ => ([], gNo)
  | n + 1, c, e => match e with
    | .Name x _ => if locB c x = true then (match ixOf c.N x with
      | some i => ([i], gName i)
      | none => ([], gNo)) else ([], gNo)
    | .Tuple es _ _ => if stars es = true then ((cGs n c es).1, gTup es.length (cGs n c es).2) else ([], gNo)
    | .Subscript o i _ => if isSlice i = true then ([], gNo) else ([], gSub (cE n c o) (cE n c i))
    | _ => ([], gNo)
def cGs : Nat → CC → List Expr → List Nat × EvGs
  | 0, _, _ => ([], gsNo)
  | n + 1, c, es => match es with
    | [] => ([], gNil)
    | e :: es => if stars (e :: es) = true then ((cG n c e).1 ++ (cGs n c es).1, gCons (cG n c e).2 (cGs n c es).2) else ([], gsNo)
end

/-! ### statements -/
/-- name = [..] that is stored within the comprehension's frame -/
def swB (sc : Scope) (scope : Scope) (x : Str) (l1 l2 : Nat) : Bool :=
  decide (sc.names.lookup x = some .local) && (l1 == l2) && !(scope.names.any fun (n, k) => n == x && (k == .local || k == .cell))
def kindB (sc : Scope) : Bool := match sc.kind with | .function => true | _ => false
def sameLine : List Nat → Bool
  | [] => true
  | l :: ls => ls.all fun k => k == l
def parB (sc : Scope) (xs : List Str) (ls : List Nat) (vs : List Expr) : Bool :=
  kindB sc && xs.all (fun x => decide (sc.names.lookup x = some .local)) && decide xs.Nodup && sameLine ls &&
    stars vs && !(vs.all (foldedForSure 8)) && !(vs.all (constantsAlone 8))
def isComp : Expr → Bool
  | .ListComp _ _ _ _ => true
  | .SetComp _ _ _ _ => true
  | .DictComp _ _ _ _ _ => true
  | _ => false
def isTuple : Expr → Bool
  | .Tuple _ _ _ => true
  | _ => false
def isNameE : Expr → Bool
  | .Name _ _ => true
  | _ => false
def augOf : Operator → Option Op2
  | .Add => some dIAdd
  | _ => none
mutual
def cS : Nat → CC → Stmt → EvS
  | 0, _, _ => sNo
  | n + 1, c, st => match st with
    | .Pass _ => sNil
    | .Break _ => sBrk
    | .Continue _ => sCt
    | .Return none _ => sRet (fCon .non)
    | .Return (some e) _ => sRet (cE n c e)
    | .Expr e _ => match e with
      | .Constant (.str _) _ _ => sNil
      | e => if isComp e = true then sNo else sDrop (cE n c e)
    | .If t a b _ => sIf (cT n c t) (cSs n c a) (cSs n c b)
    | .While t a b _ => match b with
      | [] => sWhile (cT n c t) (cSs n c a)
      | _ => sNo
    | .For tg it a b _ => match b with
      | [] => if isSet it = true then sNo else sFor (cI n c it) (cG n c tg).2 (cSs n c a)
      | _ => sNo
    | .AugAssign tg op e _ => match tg with
      | .Name x _ => if locB c x = true then (match ixOf c.N x, augOf op with
        | some i, some g => sAug i g (cE n c e)
        | _, _ => sNo) else sNo
      | _ => sNo
    | .Assign tgs e spos => match tgs with
      | [.Name x xpos] => if locB c x = true then (match ixOf c.N x with
        | none => sNo
        | some i => match e with
          | .ListComp elt gens scope lpos => if kindB c.sc = false then sNo else if swB c.sc scope x xpos.line lpos.line = true then (match gens with
            | [⟨tg, iter, ifs, as⟩] => if (decide (as = 0) && !isSet iter && blkC c.N c.sc scope (ownOf c.N scope)) = true then sAsg (cLc n c scope elt tg iter ifs) (gName i) else sNo
            | _ => sNo) else sAsg (cE n c (.ListComp elt gens scope lpos)) (gName i)
          | e => if isComp e = true then sNo else sAsg (cE n c e) (gName i)) else sNo
      | [.Tuple ts kt tpos] => match e with
        | .Tuple vs kv vpos => match ts, vs with
          | [.Name x p1, .Name y p2], [a, b] => if parB c.sc [x, y] [p1.line, p2.line] [a, b] = true then (match ixOf c.N x, ixOf c.N y with
            | some i, some j => sPar i j (cEs n c [a, b])
            | _, _ => sNo) else sNo
          | [.Name x p1, .Name y p2, .Name z p3], [a, b, d] => if parB c.sc [x, y, z] [p1.line, p2.line, p3.line] [a, b, d] = true then (match ixOf c.N x, ixOf c.N y, ixOf c.N z with
            | some i, some j, some k => sPar3 i j k (cEs n c [a, b, d])
            | _, _, _ => sNo) else sNo
          | ts, vs => if (ts.length == vs.length && (ts.length == 2 || ts.length == 3) && ts.all isNameE) = true then sNo else sAsg (cE n c (.Tuple vs kv vpos)) (cG n c (.Tuple ts kt tpos)).2
        | e => if isTuple e = true then sNo else sAsg (cE n c e) (cG n c (.Tuple ts kt tpos)).2
      | [.Subscript o i p] => sAsg (cE n c e) (cG n c (.Subscript o i p)).2
      | _ => sNo
    | _ => sNo
def cSs : Nat → CC → List Stmt → EvS
  | 0, _, _ => sNo
  | n + 1, c, sts => match sts with
    | [] => sNil
    | st :: sts => sSeq (cS n c st) (cSs n c sts)
end
end Mini
end

section
set_option Elab.async false
set_option linter.all false
set_option maxRecDepth 100000
/-! MTrue: the plain functions tell what the text does. -/
namespace Mini
open PySem PySem.Spec PyProof.Rows L2 HT

/-- a def of the text, apart from where it is called -/
structure FnS (P : Program) (w : World) (K : PySem.W.Frag) (mg : Str → Option Value) (base : Heap) (k : Nat) (x : Str) (n : Nat) (F : OpA) : Prop where
  ex : ∃ (f : Addr) (fd : FuncData) (ps : List Str), mg x = some (.ref f) ∧ PySem.W.keepIn K (.ref f) = true ∧ Binds K fd ps [] ∧ FnOk P w K mg base CX0 k f fd ps (spI K n F)
structure Agree (c : CC) (k : Nat) (X : Cx) : Prop where
  N : X.N = c.N
  nd : c.N.Nodup
  sc : X.env.scope = c.sc
  calm : X.calm = true
  xe : X.xe = fun _ _ => False
  fn : X.fn = c.fn
  room : Room k X.A
  gl : ∀ x d, c.gl.lookup x = some d → ∃ v u, X.mg x = some u ∧ L2.RelV v u ∧ ∀ m H, RepV X.K m H d v
  fns : ∀ x i n, c.fns.lookup x = some (i, n) → FnS X.prog X.w X.K X.mg X.base k x n (c.cl i)
  free : ∀ x, c.free.contains x = true → X.mg x = none
theorem Agree.blk {c : CC} {k : Nat} {X : Cx} (a : Agree c k X) (scope : Scope) (s : Shared) (H : Hp) (C : Addr) (cl : List (Str × Addr)) (fp : List Addr) : Agree (c.blk scope) k (X.blk s H scope (compEnvC scope cl C X.env) fp) := by
  refine ⟨a.N, a.nd, ?_, a.calm, rfl, rfl, a.room, a.gl, a.fns, a.free⟩
  show relS scope X.env.scope = relS scope c.sc
  rw [a.sc]

structure SoundAt (n : Nat) : Prop where
  e : ∀ {c k X}, Agree c k X → ∀ e, PE X e (TI X.K (cE n c e))
  lcp : ∀ {c k X}, Agree c k X → ∀ (scope : Scope) (elt tg iter : Expr) (ifs : List Expr) (pos : Pos), isSet iter = false → blkC c.N c.sc scope (ownOf c.N scope) = true →
    PE X (.ListComp elt [⟨tg, iter, ifs, 0⟩] scope pos) (TI X.K (cLc n c scope elt tg iter ifs)) ∧
    ∀ (i : Nat) (y : Str) (py spos : Pos), X.N[i]? = some y → X.env.scope.names.lookup y = some .local → swapsWith (.ListComp elt [⟨tg, iter, ifs, 0⟩] scope pos) (some (.Name y py)) spos.line X.env = pure true →
      PS X (.Assign [.Name y py] (.ListComp elt [⟨tg, iter, ifs, 0⟩] scope pos) spos) (TSI X.K (sAsg (cLc n c scope elt tg iter ifs) (gName i)))
  es : ∀ {c k X}, Agree c k X → ∀ es, PA X es (TIA X.K (cEs n c es))
  o : ∀ {c k X}, Agree c k X → ∀ e, PO X e (TIO X.K (cO n c e))
  bool : ∀ {c k X}, Agree c k X → ∀ op es pos, PE X (.BoolOp op es pos) (TI X.K (cBool n c op es))
  t : ∀ {c k X}, Agree c k X → ∀ e, PT X e (TIT X.K (cT n c e))
  tbool : ∀ {c k X}, Agree c k X → ∀ op es pos, PW X (.BoolOp op es pos) (TIT X.K (cTBool n c op es))
  ts : ∀ {c k X}, Agree c k X → ∀ es, PTs X es (TIT X.K (cTs n c es))
  i : ∀ {c k X}, Agree c k X → ∀ tg e, PI X tg e (TII X.K (cI n c e))
  g : ∀ {c k X}, Agree c k X → ∀ e, PG X e (TGI X.K (cG n c e).1 (cG n c e).2)
  gs : ∀ {c k X}, Agree c k X → ∀ es, PGs X es (TGsI X.K (cGs n c es).1 (cGs n c es).2)

theorem cEs_len : ∀ (n : Nat) (c : CC) (es : List Expr) (ρ : Slots) (μ : Store) (ds : List D) (μ' : Store), cEs n c es ρ μ = some (ds, μ') → ds.length = es.length
  | 0, _, _, _, _, _, _, h => by simp only [cEs, aNo] at h; cases h
  | n + 1, c, [], _, _, _, _, h => by simp only [cEs, fNil] at h; cases h; rfl
  | n + 1, c, e :: es, ρ, μ, ds, μ', h => by
    simp only [cEs] at h
    split at h
    · simp only [aNo] at h; cases h
    · unfold fCons at h
      split at h
      · cases h
      · rename_i d1 μ1 q1
        split at h
        · cases h
        · rename_i ds2 μ2 q2
          cases h
          rw [List.length_cons, List.length_cons, cEs_len n c es ρ μ1 ds2 _ q2]

theorem cEs_cons_nil {X : Cx} {e : Expr} {es : List Expr} {x : Str} {p pos : Pos} {fa : EvA} : True := trivial

section
variable {c : CC} {k : Nat} {X : Cx}
theorem Agree.glb (a : Agree c k X) {x : Str} (h : gloB c.sc x = true) : Gl X x := by
  show X.env.scope.names.lookup x = _
  rw [a.sc]
  exact gloB_ok h
theorem glob_ok (a : Agree c k X) {x : Str} {pos : Pos} (hp : plainB x = true) (hg : gloB c.sc x = true) : PE X (.Name x pos) (TI X.K (cGlob c x)) := by
  obtain ⟨h1, h2, h3⟩ := plainB_ok hp
  unfold cGlob
  split
  · rename_i d q
    obtain ⟨v, u, hm, r, hr⟩ := a.gl x d q
    exact pi_glob (a.glb hg) hm r hr h1
  · split
    · rename_i hf
      split
      · rename_i t q
        exact pi_ty (a.glb hg) (a.free x hf) (tyNamed_ok q) h3 h1
      · exact pi_no
    · exact pi_no
theorem call_ok (a : Agree c k X) {x : Str} {p pos : Pos} {e : Expr} {es : List Expr} {fa : EvA} (hp : plainB x = true) (hg : gloB c.sc x = true) (hs : stars (e :: es) = true) (ha : PA X (e :: es) (TIA X.K fa))
    (hl : ∀ ρ μ ds μ', fa ρ μ = some (ds, μ') → ds.length = (e :: es).length) : PE X (.Call (.Name x p) (e :: es) [] pos) (TI X.K (cCall c x (e :: es).length fa)) := by
  obtain ⟨h1, h2, h3⟩ := plainB_ok hp
  unfold cCall
  split
  · rename_i i n q
    split
    · rename_i hn
      have F := a.fns x i n q
      exact pi_call (n := n) ⟨F.ex⟩ a.room (a.glb hg) h1 ha hs (by rw [hn]; exact hl)
    · exact pi_no
  · split
    · rename_i hf
      split
      · rename_i g q
        obtain ⟨id, hc, hb⟩ := biNamed_ok (X := X) a.calm q
        exact pi_callB hc (a.glb hg) (a.free x hf) hb ha h3 h1 hs
      · split
        · rename_i t q
          split
          · rename_i g q2
            exact pi_callTy (tyCall_ok q2) (a.glb hg) (a.free x hf) (tyNamed_ok q) ha h3 h1 hs
          · exact pi_no
        · exact pi_no
    · exact pi_no
theorem notTrue {b : Bool} (h : ¬ b = true) : b = false := by
  cases b with
  | false => rfl
  | true => exact absurd rfl h
end

theorem sound0 : SoundAt 0 where
  e := fun _ _ => pi_no
  lcp := fun a scope elt tg iter ifs pos h1 h2 => ⟨pi_no, fun i y py spos _ _ _ => ⟨fun pins s σ H D I h => by
    obtain ⟨m, ρ, μ, out, r, st, e, b⟩ := h
    cases e⟩⟩
  es := fun _ _ => pia_no
  o := fun _ _ => poi_no
  bool := fun _ _ _ _ => pi_no
  t := fun _ _ => pti_no
  tbool := fun _ _ _ _ => pwi_no
  ts := fun _ _ => ptsi_no
  i := fun _ _ _ => pii_no
  g := fun _ _ => pgi_no
  gs := fun _ _ => pgsi_no

theorem soundE {n : Nat} (S : SoundAt n) {c : CC} {k : Nat} {X : Cx} (a : Agree c k X) (e : Expr) : PE X e (TI X.K (cE (n + 1) c e)) := by
  cases e with
  | Name x pos =>
    simp only [cE]
    split
    · rename_i hp
      obtain ⟨h1, h2, h3⟩ := plainB_ok hp
      split
      · rename_i hv
        split
        · rename_i i q
          exact pi_var (by rw [a.N]; exact ixOf_get q) (by rw [a.sc]; exact visB_ok hv) h1 h2
        · exact pi_no
      · split
        · rename_i hg
          exact glob_ok a hp hg
        · exact pi_no
    · exact pi_no
  | Constant v j pos =>
    cases v with
    | int i => exact pi_int
    | bool b => exact pi_bl
    | str s => exact pi_str
    | none => exact pi_non
    | _ => exact pi_no
  | BinOp l op r pos =>
    simp only [cE]
    split
    · rename_i g q
      exact pi_op (binOf_ok q) (S.e a l) (S.e a r)
    · exact pi_no
  | UnaryOp op x pos =>
    cases op with
    | USub => exact pi_neg (S.e a x)
    | Not => exact pi_not (S.e a x)
    | _ => exact pi_no
  | Compare l ops bs pos =>
    simp only [cE]
    split
    · rename_i op b
      split
      · exact pi_no
      · rename_i hb
        split
        · rename_i g q
          exact pi_cmp (cmpOf_ok a.room.units q) (S.e a l) (S.e a b) (marks_of (notTrue hb))
        · exact pi_no
    · rename_i op op' b d
      split
      · exact pi_no
      · rename_i hb
        split
        · rename_i g g' q q'
          refine pi_chain (cmpOf_ok a.room.units q) (cmpOf_ok a.room.units q') (S.e a l) (S.e a b) (S.e a d) ?_
          show behindInMarks op' d = false
          exact marks_of (notTrue hb)
        · exact pi_no
    · exact pi_no
  | BoolOp op es pos => exact S.bool a op es pos
  | IfExp t x y pos => exact pi_ite (S.t a t) (S.e a x) (S.e a y)
  | Tuple es j pos => exact Mini.pi_tup (S.es a es)
  | List es pos => exact pi_lst (S.es a es)
  | Subscript x s pos =>
    simp only [cE]
    split
    · rename_i lo hi st p2
      split
      · exact pi_slice (S.e a x) (S.o a lo) (S.o a hi)
      · split
        · split
          · rename_i hi
            subst hi
            exact pi_rev (S.e a x)
          · exact pi_no
        · exact pi_no
    · split
      · exact pi_no
      · rename_i hs
        exact pi_ix (S.e a x) (S.e a s) (notTrue hs)
  | Call f es kws cpos =>
    simp only [cE]
    split
    · split
      · rename_i x p
        split
        · rename_i hh
          simp only [Bool.and_eq_true, Bool.not_eq_true'] at hh
          obtain ⟨⟨⟨h1, h2⟩, h3⟩, h4⟩ := hh
          cases es with
          | nil => cases h4
          | cons e es => exact call_ok a h1 h2 h3 (S.es a (e :: es)) (cEs_len n c (e :: es))
        · exact pi_no
      · rename_i o m apos
        split
        · rename_i e
          split
          · rename_i hh
            simp only [Bool.and_eq_true, Bool.not_eq_true', decide_eq_true_eq] at hh
            obtain ⟨⟨⟨rfl, h2⟩, h3⟩, h4⟩ := hh
            exact pi_append (S.e a o) (S.e a e) (base_of h2) h3 h4
          · exact pi_no
        · exact pi_no
      · exact pi_no
    · exact pi_no
  | ListComp elt gens scope pos =>
    simp only [cE]
    split
    · rename_i tg iter ifs as
      split
      · rename_i hh
        simp only [Bool.and_eq_true, Bool.not_eq_true', decide_eq_true_eq] at hh
        obtain ⟨⟨rfl, h2⟩, h3⟩ := hh
        exact (S.lcp a scope elt tg iter ifs pos h2 h3).1
      · exact pi_no
    · exact pi_no
  | _ => exact pi_no
theorem soundT {n : Nat} (S : SoundAt n) {c : CC} {k : Nat} {X : Cx} (a : Agree c k X) (e : Expr) : PT X e (TIT X.K (cT (n + 1) c e)) := by
  cases e with
  | UnaryOp op x pos =>
    cases op with
    | Not => exact pti_not (S.t a x)
    | _ => exact pti_no
  | BoolOp op es pos => exact (S.tbool a op es pos).pt
  | Compare l ops bs pos =>
    simp only [cT]
    split
    · rename_i op b
      split
      · exact pti_no
      · rename_i hb
        split
        · rename_i g q
          exact pti_cmp (cmpOf_ok a.room.units q) (S.e a l) (S.e a b) (marks_of (notTrue hb))
        · exact pti_no
    · rename_i op op' b d
      split
      · exact pti_no
      · rename_i hb
        split
        · rename_i g g' q q'
          refine pti_chain (cmpOf_ok a.room.units q) (cmpOf_ok a.room.units q') (S.e a l) (S.e a b) (S.e a d) ?_
          show behindInMarks op' d = false
          exact marks_of (notTrue hb)
        · exact pti_no
    · exact pti_no
  | Name x p => exact pti_val (S.e a _) (fun _ => rfl)
  | Call f es kws p => exact pti_val (S.e a _) (fun _ => rfl)
  | Subscript x b p => exact pti_val (S.e a _) (fun _ => rfl)
  | Constant v j p => exact pti_val (S.e a _) (fun _ => rfl)
  | _ => exact pti_no
theorem soundI {n : Nat} (S : SoundAt n) {c : CC} {k : Nat} {X : Cx} (a : Agree c k X) (tg e : Expr) : PI X tg e (TII X.K (cI (n + 1) c e)) := by
  unfold cI
  split
  · split
    · rename_i x p1 b
      split
      · rename_i hh
        simp only [Bool.and_eq_true, Bool.not_eq_true', isRange, decide_eq_true_eq] at hh
        obtain ⟨⟨⟨rfl, h2⟩, h3⟩, h4⟩ := hh
        exact pii_rng1 (a.glb h2) (a.free _ h3) (S.es a [b]) h4
      · exact pii_seq (S.e a _)
    · rename_i x p1 b d
      split
      · rename_i hh
        simp only [Bool.and_eq_true, Bool.not_eq_true', isRange, decide_eq_true_eq] at hh
        obtain ⟨⟨⟨⟨rfl, h2⟩, h3⟩, h4⟩, h5⟩ := hh
        exact pii_rng2 (a.glb h2) (a.free _ h3) (S.es a [b, d]) h4 h5
      · exact pii_seq (S.e a _)
    · exact pii_seq (S.e a _)
  · exact pii_seq (S.e a _)
theorem soundG {n : Nat} (S : SoundAt n) {c : CC} {k : Nat} {X : Cx} (a : Agree c k X) (e : Expr) : PG X e (TGI X.K (cG (n + 1) c e).1 (cG (n + 1) c e).2) := by
  unfold cG
  split
  · rename_i x p
    split
    · rename_i hl
      split
      · rename_i i q
        obtain ⟨h1, h2⟩ := locB_ok hl
        exact pgi_name (by rw [a.N]; exact a.nd) (by rw [a.N]; exact ixOf_get q) (by rw [a.sc]; exact h1) (by rw [a.fn, a.sc]; exact h2)
      · exact pgi_no
    · exact pgi_no
  · rename_i es j p
    split
    · rename_i hs
      exact pgi_tup a.calm (S.gs a es) hs
    · exact pgi_no
  · rename_i o i p
    split
    · exact pgi_no
    · rename_i hs
      exact pgi_sub (S.e a o) (S.e a i) (notTrue hs)
  · exact pgi_no
theorem soundGs {n : Nat} (S : SoundAt n) {c : CC} {k : Nat} {X : Cx} (a : Agree c k X) (es : List Expr) : PGs X es (TGsI X.K (cGs (n + 1) c es).1 (cGs (n + 1) c es).2) := by
  unfold cGs
  split
  · exact pgsi_nil
  · rename_i e es
    split
    · rename_i hs
      exact pgsi_cons (S.g a e) (S.gs a es) hs
    · exact pgsi_no
theorem soundLc {n : Nat} (S : SoundAt n) {c : CC} {k : Nat} {X : Cx} (a : Agree c k X) (scope : Scope) (elt tg iter : Expr) (ifs : List Expr) (pos : Pos) (h1 : isSet iter = false) (h2 : blkC c.N c.sc scope (ownOf c.N scope) = true) :
    PE X (.ListComp elt [⟨tg, iter, ifs, 0⟩] scope pos) (TI X.K (cLc (n + 1) c scope elt tg iter ifs)) ∧
    ∀ (i : Nat) (y : Str) (py spos : Pos), X.N[i]? = some y → X.env.scope.names.lookup y = some .local → swapsWith (.ListComp elt [⟨tg, iter, ifs, 0⟩] scope pos) (some (.Name y py)) spos.line X.env = pure true →
      PS X (.Assign [.Name y py] (.ListComp elt [⟨tg, iter, ifs, 0⟩] scope pos) spos) (TSI X.K (sAsg (cLc (n + 1) c scope elt tg iter ifs) (gName i))) := by
  have ok : BlkOk X.N X.env.scope scope (ownOf c.N scope) := by
    rw [a.N, a.sc]
    exact blkOk_by h2
  have hN : X.N.Nodup := by rw [a.N]; exact a.nd
  unfold cLc
  by_cases hs : ((cG n (c.blk scope) tg).1.all fun i => ((ownOf c.N scope).map (·.2)).contains i) = true
  · rw [if_pos hs]
    have hsl : ∀ i ∈ (cG n (c.blk scope) tg).1, i ∈ (ownOf c.N scope).map (·.2) := fun i hi => by
      have := List.all_eq_true.mp hs i hi
      simpa using this
    exact ⟨pi_lc a.calm hN (S.i a tg iter) ok hsl (fun s H C cl fp => S.g (a.blk scope s H C cl fp) tg) (fun s H C cl fp => S.ts (a.blk scope s H C cl fp) ifs) (fun s H C cl fp => S.e (a.blk scope s H C cl fp) elt) (fun x => folded_ok h1 x),
      fun i y py spos hy hl hsw => psi_setLc a.calm hN hy hl hsw (S.i a tg iter) ok hsl (fun s H C cl fp => S.g (a.blk scope s H C cl fp) tg) (fun s H C cl fp => S.ts (a.blk scope s H C cl fp) ifs) (fun s H C cl fp => S.e (a.blk scope s H C cl fp) elt) (fun x => folded_ok h1 x)⟩
  · rw [if_neg hs]
    exact ⟨pi_no, fun i y py spos _ _ _ => ⟨fun pins s σ H D I h => by
      obtain ⟨m, ρ, μ, out, r, st, e, b⟩ := h
      cases e⟩⟩
theorem sound : ∀ n, SoundAt n
  | 0 => sound0
  | n + 1 => by
    have S := sound n
    refine ⟨fun a e => soundE S a e, fun a scope elt tg iter ifs pos h1 h2 => soundLc S a scope elt tg iter ifs pos h1 h2, fun a es => ?_, fun a o => ?_, fun a op es pos => ?_, fun a e => soundT S a e, fun a op es pos => ?_, fun a es => ?_, fun a tg e => soundI S a tg e, fun a e => soundG S a e, fun a es => soundGs S a es⟩
    · unfold cEs
      split
      · exact pia_nil
      · rename_i e es
        split
        · exact pia_no
        · rename_i h
          exact pia_cons (S.e a e) (S.es a es) (notTrue h)
    · unfold cO
      split
      · exact po_0
      · exact po_1 (S.e a _)
    · unfold cBool
      split
      · exact pi_no
      · split
        · exact pi_one (S.e a _)
        · split
          · exact pi_and (S.e a _) (S.bool a _ _ _)
          · exact pi_or (S.e a _) (S.bool a _ _ _)
    · unfold cTBool
      split
      · exact pwi_no
      · split
        · cases op with
          | And => exact pwi_and1 (S.t a _)
          | Or => exact pwi_or1 (S.t a _)
        · split
          · exact pwi_and (S.t a _) (S.tbool a _ _ _)
          · exact pwi_or (S.t a _) (S.tbool a _ _ _)
    · unfold cTs
      split
      · exact ptsi_nil
      · exact ptsi_one (S.t a _)
      · exact ptsi_no
end Mini
end

section
set_option Elab.async false
set_option linter.all false
set_option maxRecDepth 100000
/-! MTrueS: statements, blocks, defs. -/
namespace Mini
open PySem PySem.Spec PyProof.Rows L2 HT

theorem psi_stuck {X : Cx} {st : Stmt} : PS X st (TSI X.K sNo) := psi_no
theorem sw_no {e : Expr} {t : Option Expr} {l : Nat} {env : Env} (h : isComp e = false) : swapsWith e t l env = pure false := by
  cases e <;> first
    | rfl
    | cases h
theorem kindB_ok {sc : Scope} (h : kindB sc = true) : sc.kind = .function := by
  unfold kindB at h
  split at h
  · assumption
  · cases h
theorem blockKind_of {env : Env} (h : env.scope.kind = .function) : env.blockKind = .function := by
  unfold Env.blockKind
  rw [h]
  rfl
theorem sw_lc {elt : Expr} {gs : List Comprehension} {scope : Scope} {pos py : Pos} {y : Str} {l : Nat} {env : Env} (hk : env.scope.kind = .function) :
    swapsWith (.ListComp elt gs scope pos) (some (.Name y py)) l env = pure (swB env.scope scope y py.line pos.line) := by
  have hb := blockKind_of hk
  unfold swapsWith swB
  have e1 : (env.kindOf y == some NameKind.local) = decide (env.scope.names.lookup y = some .local) := by
    show (env.scope.names.lookup y == some NameKind.local) = _
    by_cases q : env.scope.names.lookup y = some .local
    · rw [q]
      rfl
    · rw [decide_eq_false q]
      exact beq_eq_false_iff_ne.mpr q
  simp only [hb, e1, Expr.pos]
  rfl
theorem sw_sole {e t : Expr} {l : Nat} {env : Env} (h : isNameE t = false) : swapsWithSole [t] e l env = pure false := by
  cases t <;> first
    | (cases h; done)
    | (cases e <;> rfl)
theorem st_none1 {e t : Expr} {env : Env} (h : isTuple e = false) : swappedStores [t] e env = pure none := by
  cases e <;> first
    | (cases h; done)
    | (cases t <;> rfl)
theorem st_none2 {e o i : Expr} {p : Pos} {env : Env} : swappedStores [.Subscript o i p] e env = pure none := by
  cases e <;> rfl
theorem filterMap_lt {α β : Type} (f : α → Option β) : ∀ (l : List α), (∃ a ∈ l, f a = none) → (l.filterMap f).length < l.length
  | [], h => by obtain ⟨a, ha, _⟩ := h; cases ha
  | b :: l, h => by
    obtain ⟨a, ha, q⟩ := h
    have h1 : (l.filterMap f).length ≤ l.length := List.length_filterMap_le _ _
    rw [List.filterMap_cons]
    rcases List.mem_cons.mp ha with rfl | ha
    · rw [q]
      exact Nat.lt_succ_of_le h1
    · have ih := filterMap_lt f l ⟨a, ha, q⟩
      split
      · exact Nat.lt_succ_of_lt ih
      · exact Nat.succ_lt_succ ih
theorem not_name : ∀ {ts : List Expr}, ts.all isNameE = false → ∃ t ∈ ts, isNameE t = false
  | [], h => by cases h
  | t :: ts, h => by
    cases q : isNameE t with
    | false => exact ⟨t, List.mem_cons_self, q⟩
    | true =>
      rw [List.all_cons, q, Bool.true_and] at h
      obtain ⟨u, hu, e⟩ := not_name h
      exact ⟨u, List.mem_cons_of_mem _ hu, e⟩
theorem st_none3 {ts vs : List Expr} {kt kv : Nat} {pt pv : Pos} {env : Env} (h : ¬ (ts.length == vs.length && (ts.length == 2 || ts.length == 3) && ts.all isNameE) = true) :
    swappedStores [.Tuple ts kt pt] (.Tuple vs kv pv) env = pure none := by
  unfold swappedStores
  dsimp only
  by_cases h1 : (!(ts.length == 2 || ts.length == 3) || vs.length != ts.length || env.blockKind != .function) = true
  · rw [if_pos h1]
  · rw [if_neg h1]
    split
    · rfl
    · have h3 : ts.all isNameE = false := by
        apply notTrue
        intro q
        apply h
        simp only [Bool.or_eq_true, Bool.not_eq_true', bne_iff_ne, ne_eq, not_or, Decidable.not_not, Bool.not_eq_false] at h1
        have e1 : (ts.length == vs.length) = true := by simp [h1.1.2]
        have e2 : (ts.length == 2 || ts.length == 3) = true := by simpa using h1.1.1
        rw [e1, e2, q]
        rfl
      rw [if_pos]
      rw [Bool.or_eq_true]
      left
      rw [bne_iff_ne]
      refine Nat.ne_of_lt (filterMap_lt _ _ ?_)
      obtain ⟨t, ht, q⟩ := not_name h3
      refine ⟨t, ht, ?_⟩
      cases t <;> first
        | rfl
        | cases q
theorem parB_ok {sc : Scope} {xs : List Str} {ls : List Nat} {vs : List Expr} (h : parB sc xs ls vs = true) :
    sc.kind = .function ∧ (∀ x ∈ xs, sc.names.lookup x = some .local) ∧ xs.Nodup ∧ sameLine ls = true ∧ stars vs = true ∧ vs.all (foldedForSure 8) = false ∧ vs.all (constantsAlone 8) = false := by
  unfold parB at h
  simp only [Bool.and_eq_true, Bool.not_eq_true', decide_eq_true_eq, List.all_eq_true] at h
  obtain ⟨⟨⟨⟨⟨⟨h1, h2⟩, h3⟩, h4⟩, h5⟩, h6⟩, h7⟩ := h
  exact ⟨kindB_ok h1, h2, h3, h4, h5, h6, h7⟩
theorem nostar_any {vs : List Expr} (h : stars vs = true) : (vs.any fun | .Starred .. => true | _ => false) = false := by
  rw [List.any_eq_false]
  intro e he
  have h1 : isStar e = false := by
    have := List.all_eq_true.mp h e he
    simpa using this
  cases e <;> first
    | (intro q; cases q; done)
    | cases h1
theorem st_par2 {x y : Str} {p1 p2 pt pv : Pos} {a b : Expr} {kt kv : Nat} {env : Env} {sc : Scope} (hsc : env.scope = sc) (h : parB sc [x, y] [p1.line, p2.line] [a, b] = true) :
    swappedStores [.Tuple [.Name x p1, .Name y p2] kt pt] (.Tuple [a, b] kv pv) env = pure (some [x, y]) := by
  obtain ⟨h1, h2, h3, h4, h5, h6, h7⟩ := parB_ok h
  have hb : env.blockKind = .function := blockKind_of (by rw [hsc]; exact h1)
  have kx : env.kindOf x = some .local := by show env.scope.names.lookup x = _; rw [hsc]; exact h2 x (by simp)
  have ky : env.kindOf y = some .local := by show env.scope.names.lookup y = _; rw [hsc]; exact h2 y (by simp)
  have hne : x ≠ y := by
    intro e
    subst e
    simp at h3
  have hl : (p2.line == p1.line) = true := by simpa [sameLine] using h4
  have hed : [x, y].eraseDups.length = 2 := by
    have hyx : (y == x) = false := beq_eq_false_iff_ne.mpr (Ne.symm hne)
    simp [List.eraseDups_cons, hyx]
  unfold swappedStores
  dsimp only
  rw [if_neg (by simp [hb]), if_neg (fun q => absurd (q.symm.trans (nostar_any h5)) (by decide))]
  simp only [List.filterMap_cons, List.filterMap_nil, List.head?_cons, Option.map_some, Option.getD_some, Expr.pos, kx, ky, beq_self_eq_true, hl, Bool.and_self, if_true]
  rw [if_neg (by rw [hed]; simp), if_neg (by rw [h6]; exact Bool.false_ne_true), if_neg (by rw [h7]; exact Bool.false_ne_true)]
theorem st_par3 {x y z : Str} {p1 p2 p3 pt pv : Pos} {a b d : Expr} {kt kv : Nat} {env : Env} {sc : Scope} (hsc : env.scope = sc) (h : parB sc [x, y, z] [p1.line, p2.line, p3.line] [a, b, d] = true) :
    swappedStores [.Tuple [.Name x p1, .Name y p2, .Name z p3] kt pt] (.Tuple [a, b, d] kv pv) env = pure (some [x, y, z]) := by
  obtain ⟨h1, h2, h3, h4, h5, h6, h7⟩ := parB_ok h
  have hb : env.blockKind = .function := blockKind_of (by rw [hsc]; exact h1)
  have kx : env.kindOf x = some .local := by show env.scope.names.lookup x = _; rw [hsc]; exact h2 x (by simp)
  have ky : env.kindOf y = some .local := by show env.scope.names.lookup y = _; rw [hsc]; exact h2 y (by simp)
  have kz : env.kindOf z = some .local := by show env.scope.names.lookup z = _; rw [hsc]; exact h2 z (by simp)
  have hxy : (y == x) = false := beq_eq_false_iff_ne.mpr (fun e => by subst e; simp at h3)
  have hxz : (z == x) = false := beq_eq_false_iff_ne.mpr (fun e => by subst e; simp at h3)
  have hyz : (z == y) = false := beq_eq_false_iff_ne.mpr (fun e => by subst e; simp at h3)
  have hl : (p2.line == p1.line) = true ∧ (p3.line == p1.line) = true := by simpa [sameLine] using h4
  have hed : [x, y, z].eraseDups.length = 3 := by
    simp [List.eraseDups_cons, hxy, hxz, hyz]
  unfold swappedStores
  dsimp only
  rw [if_neg (by simp [hb]), if_neg (fun q => absurd (q.symm.trans (nostar_any h5)) (by decide))]
  simp only [List.filterMap_cons, List.filterMap_nil, List.head?_cons, Option.map_some, Option.getD_some, Expr.pos, kx, ky, kz, beq_self_eq_true, hl.1, hl.2, Bool.and_self, if_true]
  rw [if_neg (by rw [hed]; simp), if_neg (by rw [h6]; exact Bool.false_ne_true), if_neg (by rw [h7]; exact Bool.false_ne_true)]

structure SoundSAt (n : Nat) : Prop where
  s : ∀ {c k X}, Agree c k X → ∀ st, PS X st (TSI X.K (cS n c st))
  ss : ∀ {c k X}, Agree c k X → ∀ sts, PSs X sts (TSI X.K (cSs n c sts))
theorem pss_stuck {X : Cx} {sts : List Stmt} : PSs X sts (TSI X.K sNo) := PSs.imp pss_never fun D σ H h => by
  obtain ⟨m, ρ, μ, out, r, s, e, b⟩ := h
  cases e
theorem augOf_ok {X : Cx} {op : Operator} {g : Op2} (h : augOf op = some g) : PIp X op (rD X.K g) := by
  cases op <;> cases h
  exact pip_add
theorem soundStm {n : Nat} (S : SoundSAt n) {c : CC} {k : Nat} {X : Cx} (a : Agree c k X) (st : Stmt) : PS X st (TSI X.K (cS (n + 1) c st)) := by
  have E := sound n
  have hN : X.N.Nodup := by rw [a.N]; exact a.nd
  have hIx : ∀ {x : Str} {i : Nat}, ixOf c.N x = some i → X.N[i]? = some x := fun {x i} q => by rw [a.N]; exact ixOf_get q
  have hLoc : ∀ {x : Str}, locB c x = true → L2.Loc X.env.scope x ∧ (X.fn x = true ∨ X.env.scope.names.lookup x = some .local) := fun {x} q => by
    obtain ⟨h1, h2⟩ := locB_ok q
    exact ⟨by rw [a.sc]; exact h1, by rw [a.fn, a.sc]; exact h2⟩
  unfold cS
  split
  · exact psi_pass
  · exact psi_break
  · exact psi_continue
  · exact psi_retN
  · exact psi_ret (E.e a _)
  · split
    · exact psi_doc
    · split
      · exact psi_stuck
      · rename_i h
        exact psi_expr (E.e a _) (sw_no (notTrue h))
  · exact psi_if (E.t a _) (S.ss a _) (S.ss a _)
  · split
    · exact psi_while a.xe (E.t a _) (S.ss a _)
    · exact psi_stuck
  · split
    · split
      · exact psi_stuck
      · rename_i h
        exact psi_for a.xe a.calm (E.i a _ _) (E.g a _) (S.ss a _) (fun x => folded_ok (notTrue h) x)
    · exact psi_stuck
  · split
    · split
      · rename_i hl
        obtain ⟨h1, h2⟩ := hLoc hl
        split
        · rename_i i g q1 q2
          exact psi_aug hN (hIx q1) h1 (E.e a _) (augOf_ok q2) h2
        · exact psi_stuck
      · exact psi_stuck
    · exact psi_stuck
  · split
    · split
      · rename_i hl
        obtain ⟨h1, h2⟩ := hLoc hl
        split
        · exact psi_stuck
        · rename_i i q
          split
          · rename_i elt gens scope lpos
            split
            · exact psi_stuck
            · rename_i hk
              have hk' : kindB c.sc = true := by
                cases z : kindB c.sc with
                | true => rfl
                | false => exact absurd z hk
              have hkf : X.env.scope.kind = .function := by rw [a.sc]; exact kindB_ok hk'
              split
              · rename_i hsw
                have hsw' := hsw
                unfold swB at hsw'
                simp only [Bool.and_eq_true, decide_eq_true_eq] at hsw'
                split
                · rename_i tg iter ifs as
                  split
                  · rename_i hh
                    simp only [Bool.and_eq_true, Bool.not_eq_true', decide_eq_true_eq] at hh
                    obtain ⟨⟨rfl, h3⟩, h4⟩ := hh
                    refine (E.lcp a scope elt tg iter ifs lpos h3 h4).2 i _ _ _ (hIx q) (by rw [a.sc]; exact hsw'.1.1) ?_
                    rw [sw_lc hkf, a.sc, hsw]
                  · exact psi_stuck
                · exact psi_stuck
              · rename_i hsw
                refine psi_set hN (hIx q) h1 (E.e a _) ?_ h2
                rw [sw_lc hkf, a.sc, notTrue hsw]
          · split
            · exact psi_stuck
            · rename_i h
              exact psi_set hN (hIx q) h1 (E.e a _) (sw_no (notTrue h)) h2
      · exact psi_stuck
    · split
      · split
        · split
          · rename_i hp
            obtain ⟨h1, h2, h3, h4, h5, h6, h7⟩ := parB_ok hp
            split
            · rename_i i j q1 q2
              refine psi_par a.calm hN (hIx q1) (hIx q2) (fun e => ?_) (by rw [a.sc]; exact h2 _ (by simp)) (by rw [a.sc]; exact h2 _ (by simp)) (E.es a _) (st_par2 a.sc hp)
              subst e
              have e2 := (ixOf_get q1).symm.trans (ixOf_get q2)
              cases e2
              simp at h3
            · exact psi_stuck
          · exact psi_stuck
        · split
          · rename_i hp
            obtain ⟨h1, h2, h3, h4, h5, h6, h7⟩ := parB_ok hp
            split
            · rename_i i j l q1 q2 q3
              refine psi_par3 a.calm hN (hIx q1) (hIx q2) (hIx q3) (fun e => ?_) (fun e => ?_) (fun e => ?_) (by rw [a.sc]; exact h2 _ (by simp)) (by rw [a.sc]; exact h2 _ (by simp)) (by rw [a.sc]; exact h2 _ (by simp)) (E.es a _) (st_par3 a.sc hp)
              · subst e
                have e2 := (ixOf_get q1).symm.trans (ixOf_get q2)
                cases e2
                simp at h3
              · subst e
                have e2 := (ixOf_get q1).symm.trans (ixOf_get q3)
                cases e2
                simp at h3
              · subst e
                have e2 := (ixOf_get q2).symm.trans (ixOf_get q3)
                cases e2
                simp at h3
            · exact psi_stuck
          · exact psi_stuck
        · split
          · exact psi_stuck
          · rename_i h
            exact psi_asg (E.e a _) (E.g a _) (sw_sole rfl) (st_none3 h) rfl
      · split
        · exact psi_stuck
        · rename_i h
          exact psi_asg (E.e a _) (E.g a _) (sw_sole rfl) (st_none1 (notTrue h)) rfl
    · exact psi_asg (E.e a _) (E.g a _) (sw_sole rfl) st_none2 rfl
    · exact psi_stuck
  · exact psi_stuck
theorem soundS : ∀ n, SoundSAt n
  | 0 => ⟨fun _ _ => psi_stuck, fun _ _ => pss_stuck⟩
  | n + 1 => by
    have S := soundS n
    refine ⟨fun a st => soundStm S a st, fun a sts => ?_⟩
    unfold cSs
    split
    · exact psi_nil
    · exact psi_cons (S.s a _) (S.ss a _)
end Mini
end

section
set_option Elab.async false
set_option linter.all false
set_option maxRecDepth 100000
/-! MFn: the defs of a text as plain functions, by levels. -/
namespace Mini
open PySem PySem.Spec PyProof.Rows L2 HT

/-! ### equality of data, decided -/
mutual
def D.beq : D → D → Bool
  | .non, .non => true
  | .bl a, .bl b => a == b
  | .int a, .int b => decide (a = b)
  | .str a, .str b => decide (a = b)
  | .tup a, .tup b => D.beqs a b
  | .ls a, .ls b => D.beqs a b
  | .cel a, .cel b => a == b
  | .ty a, .ty b => decide (a = b)
  | _, _ => false
def D.beqs : List D → List D → Bool
  | [], [] => true
  | a :: as, b :: bs => D.beq a b && D.beqs as bs
  | _, _ => false
end
mutual
theorem D.beq_refl : ∀ a : D, D.beq a a = true
  | .non => rfl
  | .bl a => by simp [D.beq]
  | .int a => by simp [D.beq]
  | .str a => by simp [D.beq]
  | .tup a => by simp only [D.beq]; exact D.beqs_refl a
  | .ls a => by simp only [D.beq]; exact D.beqs_refl a
  | .cel a => by simp [D.beq]
  | .ty a => by simp [D.beq]
theorem D.beqs_refl : ∀ a : List D, D.beqs a a = true
  | [] => rfl
  | a :: as => by simp only [D.beqs, D.beq_refl a, D.beqs_refl as, Bool.and_self]
end
mutual
theorem D.beq_eq : ∀ a b : D, D.beq a b = true → a = b
  | .non, b, h => by cases b <;> first | rfl | (simp [D.beq] at h)
  | .bl a, b, h => by cases b <;> simp [D.beq] at h; rw [h]
  | .int a, b, h => by cases b <;> simp [D.beq] at h; rw [h]
  | .str a, b, h => by cases b <;> simp [D.beq] at h; rw [h]
  | .tup a, b, h => by
    cases b <;> simp only [D.beq] at h <;> first
      | (cases h; done)
      | rw [D.beqs_eq a _ h]
  | .ls a, b, h => by
    cases b <;> simp only [D.beq] at h <;> first
      | (cases h; done)
      | rw [D.beqs_eq a _ h]
  | .cel a, b, h => by cases b <;> simp [D.beq] at h; rw [h]
  | .ty a, b, h => by cases b <;> simp [D.beq] at h; rw [h]
theorem D.beqs_eq : ∀ a b : List D, D.beqs a b = true → a = b
  | [], b, h => by
    cases b with
    | nil => rfl
    | cons _ _ => simp only [D.beqs] at h; cases h
  | a :: as, b, h => by
    cases b with
    | nil => simp only [D.beqs] at h; cases h
    | cons b bs =>
      simp only [D.beqs, Bool.and_eq_true] at h
      rw [D.beq_eq a b h.1, D.beqs_eq as bs h.2]
end
instance : DecidableEq D := fun a b => decidable_of_iff (D.beq a b = true) ⟨D.beq_eq a b, fun h => by rw [h]; exact D.beq_refl b⟩
instance : DecidableEq Cell := fun a b => match a, b with
  | .lst x, .lst y => decidable_of_iff (x = y) ⟨fun h => by rw [h], fun h => by cases h; rfl⟩

/-! ### cells below n -/
mutual
def below (n : Nat) : D → Bool
  | .tup ds => belows n ds
  | .ls ds => belows n ds
  | .cel k => decide (k < n)
  | _ => true
def belows (n : Nat) : List D → Bool
  | [] => true
  | d :: ds => below n d && belows n ds
end
section
variable {K : PySem.W.Frag} {m m' : List Addr} {H H' : Hp}
mutual
theorem below_of : ∀ {d : D} {v : V}, RepV K m H d v → below m.length d = true
  | .non, _, _ => by simp [below]
  | .bl _, _, _ => by simp [below]
  | .int _, _, _ => by simp [below]
  | .str _, _, _ => by simp [below]
  | .ty _, _, _ => by simp [below]
  | .tup ds, v, h => by
    simp only [RepV] at h
    obtain ⟨a, vs, rfl, _, l⟩ := h
    simp only [below]
    exact belows_of l
  | .ls ds, v, h => by
    simp only [RepV] at h
    obtain ⟨a, vs, rfl, _, l⟩ := h
    simp only [below]
    exact belows_of l
  | .cel k, v, h => by
    simp only [RepV] at h
    obtain ⟨a, rfl, e⟩ := h
    simp only [below]
    exact decide_eq_true (List.getElem?_eq_some_iff.mp e).1
theorem belows_of : ∀ {ds : List D} {vs : List V}, RepL K m H ds vs → belows m.length ds = true
  | [], _, _ => by simp [belows]
  | d :: ds, vs, h => by
    simp only [RepL] at h
    obtain ⟨v, r, rfl, h1, h2⟩ := h
    simp only [belows, below_of h1, belows_of h2, Bool.and_self]
end
mutual
theorem rep_less (n : Nat) (hm : ∀ (i : Nat) (a : Addr), i < n → m'[i]? = some a → m[i]? = some a) : ∀ {d : D} {v : V}, below n d = true → RepV K m' H d v → RepV K m H d v
  | .non, _, _, h => by simpa only [RepV] using h
  | .bl _, _, _, h => by simpa only [RepV] using h
  | .int _, _, _, h => by simpa only [RepV] using h
  | .str _, _, _, h => by simpa only [RepV] using h
  | .ty _, _, _, h => by simpa only [RepV] using h
  | .tup ds, v, b, h => by
    simp only [RepV] at h ⊢
    simp only [below] at b
    obtain ⟨a, vs, h1, h2, l⟩ := h
    exact ⟨a, vs, h1, h2, reps_less n hm b l⟩
  | .ls ds, v, b, h => by
    simp only [RepV] at h ⊢
    simp only [below] at b
    obtain ⟨a, vs, h1, h2, l⟩ := h
    exact ⟨a, vs, h1, h2, reps_less n hm b l⟩
  | .cel k, v, b, h => by
    simp only [RepV] at h ⊢
    simp only [below, decide_eq_true_eq] at b
    obtain ⟨a, h1, h2⟩ := h
    exact ⟨a, h1, hm k a b h2⟩
theorem reps_less (n : Nat) (hm : ∀ (i : Nat) (a : Addr), i < n → m'[i]? = some a → m[i]? = some a) : ∀ {ds : List D} {vs : List V}, belows n ds = true → RepL K m' H ds vs → RepL K m H ds vs
  | [], _, _, h => by simpa only [RepL] using h
  | d :: ds, vs, b, h => by
    simp only [RepL] at h ⊢
    simp only [belows, Bool.and_eq_true] at b
    obtain ⟨v, r, h1, h2, h3⟩ := h
    exact ⟨v, r, h1, rep_less n hm b.1 h2, reps_less n hm b.2 h3⟩
end
end

/-- what a call has made and nobody holds is forgotten -/
def gc (μ : Store) (d : D) (μ1 : Store) : D × Store :=
  if μ1.take μ.length = μ then
    if below μ.length d = true then (d, μ)
    else match d with
      | .cel j => match μ1[j]? with
        | some (.lst ds) => if μ.length ≤ j ∧ belows μ.length ds = true then (.cel μ.length, μ ++ [.lst ds]) else (d, μ1)
        | none => (d, μ1)
      | _ => (d, μ1)
  else (d, μ1)
def fnF (N : List Str) (np : Nat) (body : EvS) : OpA := fun ds μ => if ds.length = np then
  (match body (ds.map some ++ List.replicate (N.length - ds.length) none) μ with
    | some (.ret d μ1) => some (gc μ d μ1)
    | some (.nx _ μ1) => some (gc μ .non μ1)
    | _ => none) else none
theorem gc_back {K : PySem.W.Frag} {m : List Addr} {H : Hp} {μ μ1 : Store} {d : D} {Q : VK} (s : Sto K m H μ) (b : Back K m H (gc μ d μ1).1 (gc μ d μ1).2 Q) : Back K m H d μ1 Q := by
  intro v H' m' e s' r
  unfold gc at b
  by_cases h1 : μ1.take μ.length = μ
  · have hm : ∀ (i : Nat) (a : Addr), i < m.length → m'[i]? = some a → m[i]? = some a := fun i a hi ha => by
      have := e.pre i _ (List.getElem?_eq_getElem hi)
      rw [this] at ha
      rw [List.getElem?_eq_getElem hi]
      exact ha
    have e0 : Ext K m H m H' := ⟨fun _ _ h => h, e.tup, e.ro⟩
    have s0 : Sto K m H' μ := by
      refine ⟨s.len, s.nd, fun i c hc => ?_⟩
      obtain ⟨a, ha, rc⟩ := s.at_ i c hc
      have hi : i < μ.length := (List.getElem?_eq_some_iff.mp hc).1
      have hc1 : μ1[i]? = some c := by
        rw [← h1, List.getElem?_take_of_lt hi] at hc
        exact hc
      obtain ⟨a', ha', rc'⟩ := s'.at_ i c hc1
      have := e.pre i a ha
      rw [this] at ha'; cases ha'
      cases c with
      | lst ds =>
        obtain ⟨vs, _, l⟩ := rc
        obtain ⟨vs', h2, l'⟩ := rc'
        exact ⟨a, ha, vs', h2, reps_less m.length hm (belows_of l) l'⟩
    rw [if_pos h1] at b
    by_cases h2 : below μ.length d = true
    · rw [if_pos h2] at b
      rw [← s.len] at h2
      exact b v H' m e0 s0 (rep_less m.length hm h2 r)
    · rw [if_neg h2] at b
      split at b
      · rename_i j
        split at b
        · rename_i ds hj
          split at b
          · rename_i h3
            have r' := r
            simp only [RepV] at r'
            obtain ⟨a, rfl, ha⟩ := r'
            obtain ⟨a', vs, ha', hx, l⟩ := s'.lst hj
            rw [ha] at ha'; cases ha'
            have hb : belows m.length ds = true := by rw [s.len]; exact h3.2
            have hnin : a ∉ m := by
              intro hin
              obtain ⟨i, hi, ei⟩ := List.getElem_of_mem hin
              have q1 := e.pre i a (by rw [List.getElem?_eq_getElem hi, ei])
              obtain ⟨i1, e1⟩ := List.getElem?_eq_some_iff.mp q1
              obtain ⟨i2, e2⟩ := List.getElem?_eq_some_iff.mp ha
              have := (List.getElem_inj s'.nd).mp (e1.trans e2.symm)
              have := s.len
              omega
            have eb : Ext K m H' (m ++ [a]) H' := Ext.more
            refine b (.ref a) H' (m ++ [a]) (e0.trans eb) ⟨by rw [List.length_append, List.length_append, s.len]; rfl, ?_, fun i c hc => ?_⟩ ?_
            · rw [List.nodup_append]
              exact ⟨s.nd, by simp, fun x hx2 y hy q => by
                have hy' : y = a := by simpa using hy
                rw [q, hy'] at hx2
                exact hnin hx2⟩
            · by_cases hi : i < μ.length
              · rw [List.getElem?_append_left hi] at hc
                obtain ⟨a2, h4, rc⟩ := s0.at_ i c hc
                exact ⟨a2, eb.pre i a2 h4, rc.mono eb fun vs h => h⟩
              · rw [List.getElem?_append_right (by omega)] at hc
                have hi0 : i - μ.length = 0 := by
                  cases q : i - μ.length with
                  | zero => rfl
                  | succ k => rw [q] at hc; simp at hc
                rw [hi0] at hc
                cases hc
                refine ⟨a, ?_, vs, hx, RepL.mono eb _ _ (reps_less m.length hm hb l)⟩
                rw [List.getElem?_append_right (by rw [s.len]; omega), s.len, hi0]
                rfl
            · simp only [RepV]
              refine ⟨a, rfl, ?_⟩
              rw [List.getElem?_append_right (by rw [s.len]; omega), s.len]
              simp
          · exact b v H' m' e s' r
        · exact b v H' m' e s' r
      · exact b v H' m' e s' r
  · rw [if_neg h1] at b
    exact b v H' m' e s' r

/-! ### the defs of a text -/
structure DefI where
  name : Str
  ps : List Str
  N : List Str
  st : Stmt
structure Top where
  defs : List DefI
  gl : List (Str × D)
  free : List Str
def tableFrom : Nat → List DefI → List (Str × Nat × Nat)
  | _, [] => []
  | i, d :: ds => (d.name, i, d.ps.length) :: tableFrom (i + 1) ds
def Top.cc (T : Top) (d : DefI) (cl : Nat → OpA) : CC := ⟨d.N, defScope d.st, fun _ => true, T.gl, tableFrom 0 T.defs, T.free, cl⟩
def deep : Nat := 100
def Top.body (T : Top) (d : DefI) (cl : Nat → OpA) : EvS := cSs deep (T.cc d cl) (defBody d.st)
/-- the defs, k calls deep -/
def Top.run (T : Top) : Nat → Nat → OpA
  | 0, _ => fun _ _ => none
  | k + 1, i => match T.defs[i]? with
    | some d => fnF d.N d.ps.length (T.body d (T.run k))
    | none => fun _ _ => none
theorem table_get : ∀ (ds : List DefI) (j : Nat) (x : Str) (i n : Nat), (tableFrom j ds).lookup x = some (i, n) → j ≤ i ∧ ∃ d, ds[i - j]? = some d ∧ d.name = x ∧ d.ps.length = n
  | [], _, _, _, _, h => by simp [tableFrom] at h
  | d :: ds, j, x, i, n, h => by
    simp only [tableFrom, List.lookup_cons] at h
    cases q : x == d.name with
    | true =>
      rw [q] at h
      cases h
      exact ⟨Nat.le_refl _, d, by simp, (eq_of_beq q).symm, rfl⟩
    | false =>
      rw [q] at h
      obtain ⟨h1, e, h2, h3, h4⟩ := table_get ds (j + 1) x i n h
      refine ⟨by omega, e, ?_, h3, h4⟩
      have : i - j = (i - (j + 1)) + 1 := by omega
      rw [this, List.getElem?_cons_succ]
      exact h2
/-- what the head tells of the text -/
structure TopOk (T : Top) (K : PySem.W.Frag) (mg : Str → Option Value) : Prop where
  gl : ∀ x d, T.gl.lookup x = some d → ∃ v u, mg x = some u ∧ L2.RelV v u ∧ ∀ m H, RepV K m H d v
  free : ∀ x, T.free.contains x = true → mg x = none
  fn : ∀ d ∈ T.defs, ∃ (f : Addr) (fd : FuncData), mg d.name = some (.ref f) ∧ L2.Fun K d.name d.name d.st f fd ∧ Binds K fd d.ps []
  sc : ∀ d ∈ T.defs, FnScope d.N d.ps (defScope d.st)
theorem run_fn' {T : Top} {P : Program} {w : World} {K : PySem.W.Frag} {mg : Str → Option Value} {base : Heap} (ok : TopOk T K mg) : ∀ (k i : Nat) (d : DefI), T.defs[i]? = some d → ∀ (f : Addr) (fd : FuncData), L2.Fun K d.name d.name d.st f fd → FnOk P w K mg base CX0 k f fd d.ps (spI K d.ps.length (T.run k i))
  | 0, i, d, h, f, fd, hF => by
    refine ⟨fun vs H Q E hs => hs.1, fun A outer s H args us vs Q E hr he hb hv hs => ?_⟩
    obtain ⟨_, m, μ, ds, d', μ', st, rl, e, b⟩ := hs
    cases e
  | k + 1, i, d, h, f, fd, hF => by
    have S := ok.sc d (List.mem_of_getElem? h)
    refine hF.ok S (fun vs H Q E hs => hs.1) fun cdv A outer s H vs Q E hr hs => ?_
    obtain ⟨hl, m, μ, ds, d', μ', st, rl, e, b⟩ := hs
    have er : T.run (k + 1) i = fnF d.N d.ps.length (T.body d (T.run k)) := by
      show (match T.defs[i]? with
        | some d => fnF d.N d.ps.length (T.body d (T.run k))
        | none => fun _ _ => none) = _
      rw [h]
    rw [er] at e
    unfold fnF at e
    split at e
    · rename_i hn
      have rs : RelS K m H (ds.map some ++ List.replicate (d.N.length - ds.length) none) (L2.start d.N vs) := by
        unfold L2.start
        have hlen := rl.length
        refine ⟨by simp [hlen], fun j c hc => ?_⟩
        by_cases hj : j < ds.length
        · rw [List.getElem?_append_left (by simpa using hj), List.getElem?_map] at hc
          rw [List.getElem?_append_left (by simpa [hlen] using hj), List.getElem?_map]
          cases q : ds[j]? with
          | none => rw [q] at hc; cases hc
          | some c' =>
            rw [q] at hc
            cases hc
            obtain ⟨v, hv, rv⟩ := rl.get q
            exact ⟨v, by rw [hv]; rfl, rv⟩
        · rw [List.getElem?_append_right (by simpa using hj), List.getElem?_replicate] at hc
          split at hc <;> cases hc
      have ag : Agree (T.cc d (T.run k)) k (cxOf CX0 P w K mg base d.N d.name (defScope d.st) f cdv A outer s H E).nox := by
        refine ⟨rfl, S.nd, rfl, rfl, rfl, rfl, hr, ok.gl, fun x i2 n hx => ?_, ok.free⟩
        obtain ⟨_, d2, h2, rfl, rfl⟩ := table_get T.defs 0 x i2 n hx
        have h3 : T.defs[i2]? = some d2 := by simpa using h2
        obtain ⟨f2, fd2, hm2, hF2, hb2⟩ := ok.fn d2 (List.mem_of_getElem? h3)
        exact ⟨f2, fd2, d2.ps, hm2, hF2.kp, hb2, run_fn' ok k i2 d2 h3 f2 fd2 hF2⟩
      have B := (soundS deep).ss ag (defBody d.st)
      refine ⟨_, B, ?_⟩
      split at e
      · rename_i d1 μ1 q
        have e1 : gc μ d1 μ1 = (d', μ') := Option.some.inj e
        refine ⟨m, _, μ, _, rs, st, q, ?_⟩
        exact gc_back st (by rw [e1]; exact b)
      · rename_i ρ1 μ1 q
        have e1 : gc μ .non μ1 = (d', μ') := Option.some.inj e
        refine ⟨m, _, μ, _, rs, st, q, fun σ' H' m' e2 s2 r2 => ?_⟩
        exact gc_back st (by rw [e1]; exact b) .non H' m' e2 s2 (by simp [RepV])
      · cases e
    · cases e
end Mini
namespace Mini
open PySem PySem.Spec PyProof.Rows L2 HT
/-- a body's end, as a call's -/
def fin (μ : Store) (r : Option Out) : Res := match r with
  | some (.ret d μ1) => some (gc μ d μ1)
  | some (.nx _ μ1) => some (gc μ .non μ1)
  | _ => none
end Mini
end

section
set_option Elab.async false
set_option linter.all false
set_option maxRecDepth 100000
/-! MHead: what the top of a text leaves, by one look. -/
namespace Mini
open PySem PySem.Spec PyProof.Rows L2 HT

/-! ### how plain parameters are bound -/
theorem lookup_zip : ∀ {ps : List Str} {us : List Value} {x : Str} {j : Nat}, ps.Nodup → ps[j]? = some x → (ps.zip us).lookup x = us[j]?
  | [], _, _, _, _, h => by simp at h
  | p :: ps, [], _, _, _, _ => by simp
  | p :: ps, u :: us, x, 0, nd, h => by
    simp at h
    subst h
    simp
  | p :: ps, u :: us, x, j + 1, nd, h => by
    have h' : ps[j]? = some x := by simpa using h
    have hne : (x == p) = false := beq_eq_false_iff_ne.mpr fun e => by
      subst e
      exact (List.nodup_cons.mp nd).1 (List.mem_of_getElem? h')
    rw [List.zip_cons_cons, List.lookup_cons, hne, List.getElem?_cons_succ]
    exact lookup_zip (List.nodup_cons.mp nd).2 h'
theorem zip_self : ∀ {ps : List Str} {us : List Value} (qs : List Str) (vs : List Value), us.length = ps.length → (qs ++ ps).Nodup → vs.length = qs.length →
    (ps.filterMap fun n => (((qs ++ ps).zip (vs ++ us)).lookup n).map fun v => (n, v)) = ps.zip us
  | [], us, _, _, h, _, _ => by simp
  | p :: ps, [], _, _, h, _, _ => by simp at h
  | p :: ps, u :: us, qs, vs, h, nd, hv => by
    have hl : (((qs ++ p :: ps).zip (vs ++ u :: us)).lookup p) = some u := by
      rw [lookup_zip (j := qs.length) nd (by simp)]
      rw [List.getElem?_append_right (by omega), hv]
      simp
    rw [List.filterMap_cons, hl]
    have ih := zip_self (ps := ps) (us := us) (qs ++ [p]) (vs ++ [u]) (by simpa using h) (by simpa using nd) (by simp [hv])
    simp only [List.append_assoc, List.singleton_append] at ih
    simp only [Option.map_some, List.zip_cons_cons, ih]
/-- plain parameters, by their names -/
def plainArgs (a : Arguments) (ps : List Str) : Bool := a.posonlyargs.isEmpty && a.vararg.isNone && a.kwonlyargs.isEmpty && a.kwarg.isNone && decide (a.args.map (·.arg) = ps)
theorem bind_plain {x qual : Str} {a : Arguments} {ps : List Str} {body : List Stmt} {scope : Scope} {kV doc pm : Value} {an : Option Addr} {cdv ct : Value} {us : List Value} (h : plainArgs a ps = true) (nd : ps.Nodup) (hl : us.length = ps.length) :
    bindArgs (PySem.W.fnOf x qual a body scope .none kV doc pm an cdv ct) ⟨us, []⟩ = pure (ps.zip us) := by
  obtain ⟨a1, a2, a3, a4, a5, a6, a7⟩ := a
  unfold plainArgs at h
  simp only [Bool.and_eq_true, decide_eq_true_eq, List.isEmpty_iff, Option.isNone_iff_eq_none] at h
  obtain ⟨⟨⟨⟨rfl, rfl⟩, rfl⟩, rfl⟩, rfl⟩ := h
  have hz : (a2.map (·.arg)).filterMap (fun n => (((a2.map (·.arg)).zip us).lookup n).map fun v => (n, v)) = (a2.map (·.arg)).zip us := by
    have := zip_self (ps := a2.map (·.arg)) (us := us) [] [] hl (by simpa using nd) rfl
    simpa using this
  have hmiss : (a2.map (·.arg)).filter (fun n => (((a2.map (·.arg)).zip us).lookup n).isNone) = [] := by
    rw [List.filter_eq_nil_iff]
    intro n hn
    obtain ⟨j, hj, e⟩ := List.getElem_of_mem hn
    rw [lookup_zip (j := j) nd (by rw [List.getElem?_eq_getElem hj, e])]
    rw [List.getElem?_eq_getElem (by omega)]
    simp
  have hgt : ¬ (us.length > (a2.map (·.arg)).length) := by omega
  unfold bindArgs PySem.W.fnOf
  have hsq : seqItems? Value.none = pure none := rfl
  simp only [List.map_nil, List.nil_append, hsq, pure_bind, Option.getD_none, List.append_nil, List.forIn_nil, List.drop_nil, List.length_nil, Nat.sub_zero, List.take_length, hmiss, List.zip_nil_right, List.isEmpty_nil,
    Bool.not_true, decide_eq_false hgt, Bool.false_and, Bool.false_eq_true, if_false, hz]

/-! ### constants of the module -/
mutual
def dvB (K : PySem.W.Frag) : D → Value → Bool
  | .non, .none => true
  | .bl b, .bool c => b == c
  | .int i, .int j _ => decide (i = j)
  | .str x, .str y _ => decide (x = y)
  | .tup ds, .ref a => match K.lookup a with
    | some ⟨.type c, _, .seq its _, _⟩ => decide (c = "tuple") && decide (its.size ≤ sizeLine) && dvBs K ds its.toList
    | _ => false
  | .ls ds, .ref a => match K.lookup a with
    | some ⟨.type c, none, .seq its _, _⟩ => decide (c = "list") && decide (its.size ≤ sizeLine) && dvBs K ds its.toList
    | _ => false
  | _, _ => false
def dvBs (K : PySem.W.Frag) : List D → List Value → Bool
  | [], [] => true
  | d :: ds, u :: us => dvB K d u && dvBs K ds us
  | _, _ => false
end
mutual
theorem dvB_ok {K : PySem.W.Frag} : ∀ (d : D) (u : Value), dvB K d u = true → ∃ v, L2.RelV v u ∧ ∀ m H, RepV K m H d v
  | .non, u, h => by
    cases u <;> simp only [dvB] at h <;> first
      | (cases h; done)
      | exact ⟨.non, rfl, fun _ _ => by simp [RepV]⟩
  | .bl b, u, h => by
    cases u <;> simp only [dvB] at h <;> first
      | (cases h; done)
      | exact ⟨.bl b, by rw [eq_of_beq h]; rfl, fun _ _ => by simp [RepV]⟩
  | .int b, u, h => by
    cases u <;> simp only [dvB] at h <;> first
      | (cases h; done)
      | exact ⟨.int b, by rw [of_decide_eq_true h]; exact ⟨_, rfl⟩, fun _ _ => by simp [RepV]⟩
  | .str b, u, h => by
    cases u <;> simp only [dvB] at h <;> first
      | (cases h; done)
      | exact ⟨.str b, by rw [of_decide_eq_true h]; exact ⟨_, rfl⟩, fun _ _ => by simp [RepV]⟩
  | .cel _, u, h => by cases u <;> simp [dvB] at h
  | .ty _, u, h => by cases u <;> simp [dvB] at h
  | .tup ds, u, h => by
    cases u <;> simp only [dvB] at h <;> first
      | (cases h; done)
      | skip
    rename_i a
    split at h
    · rename_i c od its n sl q
      simp only [Bool.and_eq_true, decide_eq_true_eq] at h
      obtain ⟨⟨rfl, h2⟩, h3⟩ := h
      obtain ⟨vs, rv, hr⟩ := dvBs_ok ds its.toList h3
      refine ⟨.ref a, rfl, fun m H => ?_⟩
      simp only [RepV]
      exact ⟨a, vs, rfl, .inr ⟨_, its, n, q, rfl, rfl, h2, rv⟩, hr m H⟩
    · cases h
  | .ls ds, u, h => by
    cases u <;> simp only [dvB] at h <;> first
      | (cases h; done)
      | skip
    rename_i a
    split at h
    · rename_i c its n sl q
      simp only [Bool.and_eq_true, decide_eq_true_eq] at h
      obtain ⟨⟨rfl, h2⟩, h3⟩ := h
      obtain ⟨vs, rv, hr⟩ := dvBs_ok ds its.toList h3
      refine ⟨.ref a, rfl, fun m H => ?_⟩
      simp only [RepV]
      exact ⟨a, vs, rfl, .inr ⟨_, its, n, q, rfl, rfl, rfl, h2, rv⟩, hr m H⟩
    · cases h
theorem dvBs_ok {K : PySem.W.Frag} : ∀ (ds : List D) (us : List Value), dvBs K ds us = true → ∃ vs, L2.Vals vs us ∧ ∀ m H, RepL K m H ds vs
  | [], us, h => by
    cases us with
    | nil => exact ⟨[], .nil, fun _ _ => by simp [RepL]⟩
    | cons _ _ => simp only [dvBs] at h; cases h
  | d :: ds, us, h => by
    cases us with
    | nil => simp only [dvBs] at h; cases h
    | cons u us =>
      simp only [dvBs, Bool.and_eq_true] at h
      obtain ⟨v, rv, hv⟩ := dvB_ok d u h.1
      obtain ⟨vs, rvs, hvs⟩ := dvBs_ok ds us h.2
      exact ⟨v :: vs, .cons rv rvs, fun m H => by simp only [RepL]; exact ⟨v, vs, rfl, hv m H, hvs m H⟩⟩
end
def glB (K : PySem.W.Frag) (p : Str × D) : Bool := match PySem.W.nsIn K mainGlobals p.1 with
  | some (some u) => dvB K p.2 u
  | _ => false

/-! ### the look -/
def DefI.dd (d : DefI) : He.DefD := ⟨(d.name, none), d.name, d.name, defArgs d.st, defBody d.st, defScope d.st, [], []⟩
def obsM (T : Top) (K : PySem.W.Frag) : He.AlD := ((T.gl.all fun p => glB K p) && ((T.free.all fun x => (He.Fa.free x).ok K) && (T.defs.all fun d => (He.Fa.glo d.name).ok K && d.dd.ok K)), T.defs.map fun d => He.fnW K (d.name, none))
def valM (T : Top) : He.AlD := (true, T.defs.map fun d => d.dd.val)
def SaysM (T : Top) (K : PySem.W.Frag) : Prop := obsM T K = valM T
def obsMG (n : Nat) (T : Top) (g : Addr → Option Obj) : He.AlD := obsM T (He.frG g (He.asD g n))
def hookM (n : Nat) (T : Top) : PySem.W.Hook where
  α := He.AlD
  obs := fun s => obsMG n T s.heap.get?
  val := fun _ => valM T
  says := fun _ h => ∃ K : PySem.W.Frag, K.In h ∧ SaysM T K
  of := fun _ _ e => ⟨_, He.frG_in, e⟩
  keeps := fun _ _ _ ⟨K, hK, c⟩ k => ⟨K, PySem.W.Frag.In.keeps hK k, c⟩
theorem obsMG_eq {n : Nat} {T : Top} {g : Addr → Option Obj} {s : Shared} (h : ∀ a, g a = s.heap.get? a) : obsMG n T g = (hookM n T).obs s := by
  have e : g = s.heap.get? := funext h
  rw [e] <;> rfl
def obM (n : Nat) (T : Top) (s : PySem.W.SharedT) : He.AlD := obsMG n T (HandSHeadRun.getT s)
theorem obM_eq (n : Nat) (T : Top) (s : PySem.W.SharedT) : obM n T s = (hookM n T).obs s.abs := obsMG_eq (HandSHeadRun.getT_eq s)

/-- what is seen of a def by its text alone -/
def scB (d : DefI) : Bool := kindB (defScope d.st) && !(defScope d.st).isCoroutine && !(defScope d.st).isGenerator && decide d.N.Nodup && decide (d.N.take d.ps.length = d.ps) &&
  (d.ps.all fun x => decide ((defScope d.st).names.lookup x = some .local) || decide ((defScope d.st).names.lookup x = some .cell)) && ((defScope d.st).names.all fun y => decide (y.2 ≠ .free)) && plainArgs (defArgs d.st) d.ps
theorem scB_ok {d : DefI} (h : scB d = true) : FnScope d.N d.ps (defScope d.st) ∧ plainArgs (defArgs d.st) d.ps = true := by
  unfold scB at h
  simp only [Bool.and_eq_true, Bool.not_eq_true', decide_eq_true_eq, List.all_eq_true, Bool.or_eq_true] at h
  obtain ⟨⟨⟨⟨⟨⟨⟨h1, h2⟩, h3⟩, h4⟩, h5⟩, h6⟩, h7⟩, h8⟩ := h
  exact ⟨⟨kindB_ok h1, h2, h3, h4, h5, h6, h7⟩, h8⟩
theorem topOk {T : Top} {K : PySem.W.Frag} {h : Heap} {mg : Str → Option Value} (X : K.In h) (G : h.Ns mainGlobals mg) (c : SaysM T K) (sc : T.defs.all scB = true) : TopOk T K mg := by
  have c1 : ((T.gl.all fun p => glB K p) && ((T.free.all fun x => (He.Fa.free x).ok K) && (T.defs.all fun d => (He.Fa.glo d.name).ok K && d.dd.ok K))) = true := congrArg (fun z : He.AlD => z.1) c
  have c2 : T.defs.map (fun d => He.fnW K (d.name, none)) = T.defs.map fun d => d.dd.val := congrArg (fun z : He.AlD => z.2) c
  simp only [Bool.and_eq_true, List.all_eq_true] at c1 sc
  obtain ⟨g1, g2, g3⟩ := c1
  refine ⟨fun x d e => ?_, fun x e => ?_, fun d hd => ?_, fun d hd => (scB_ok (sc d hd)).1⟩
  · have hm : (x, d) ∈ T.gl := PySem.mem_of_lookup e
    have q := g1 (x, d) hm
    unfold glB at q
    split at q
    · rename_i u hu
      obtain ⟨v, rv, hv⟩ := dvB_ok d u q
      exact ⟨v, u, PySem.W.mg_of X G hu, rv, hv⟩
    · cases q
  · have hm : x ∈ T.free := by simpa using e
    exact He.free_ok X G (g2 x hm)
  · obtain ⟨q1, q2⟩ := g3 d hd
    have e : He.fnW K d.dd.at_ = d.dd.val := by
      have := List.map_eq_map_iff.mp c2 d hd
      exact this
    obtain ⟨fd, F⟩ := He.DefD.funD e q2
    have S := scB_ok (sc d hd)
    have hps : d.ps.Nodup := by
      rw [← S.1.pre]
      exact S.1.nd.sublist (List.take_sublist _ _)
    refine ⟨_, fd, He.glo_ok X G q1, ?_, FunD.bindsN F fun kV doc pm an cdv ct us hl => bind_plain S.2 hps hl⟩
    obtain ⟨oc, od, dV, kV, doc, pm, an, cdv, ct, osl, e1, lk, hcd, hD, hK⟩ := F.ex
    rcases hD with ⟨_, rfl⟩ | ⟨ne, _⟩
    · exact ⟨⟨oc, od, kV, doc, pm, an, cdv, ct, osl, e1, lk, hcd⟩, F.kp⟩
    · exact absurd rfl ne

/-! ### the law -/
/-- what is left of a law: the plain function of its def gives True for every script -/
theorem law_end {l : PySem.W.OpenLaw} {q : Program} {loose : List Str} {XP : (Str → Option Value) → Heap → Prop} {d : DefRec} {T : Top} {N : Nat} {k i : Nat} {di : DefI}
    (hn : l.most = some 63) (hdf : d.params.defaults = []) (hr : Room k callerA) (sc : T.defs.all scB = true) (hi : T.defs[i]? = some di) (hname : d.name = di.name) (hps : di.ps = [("script" : Str)])
    (main : ∀ ns : List Int, ns.length ≤ 63 → ∃ μ', T.run k i [.ls (ns.map D.int)] [] = some (.bl true, μ')) :
    PySem.W.WalkO q loose XP (hookM N T).says l.row.toRowW d [] (fun f vs => PySem.call f vs) := by
  refine L2.walk_ofE (l := l) (n := 63) (k := k) (x := "script") (CX := CX0) hn (by decide) hdf hr ?_ (fun _ _ _ _ z => z)
  intro w mg fa h Y G hmg
  obtain ⟨K, KX, c⟩ := Y
  have ok := topOk KX G c sc
  obtain ⟨f, fd, hf, hF, hb⟩ := ok.fn di (List.mem_of_getElem? hi)
  have hfa : f = fa := by
    rw [hname, hf] at hmg
    cases hmg
    rfl
  subst hfa
  refine ⟨K, fd, spI K di.ps.length (T.run k i), KX, ?_, ?_, fun base hKb hGb => ?_⟩
  · obtain ⟨oc, od, kV, doc, pm, an, cdv, ct, osl, rfl, lk, hcd⟩ := hF.ex
    have S := scB_ok (List.all_eq_true.mp sc di (List.mem_of_getElem? hi))
    intro s u
    have := bind_plain (x := di.name) (qual := di.name) (body := defBody di.st) (scope := defScope di.st) (kV := kV) (doc := doc) (pm := pm) (an := an) (cdv := cdv) (ct := ct) (us := [u]) S.2 (by rw [hps]; simp) (by rw [hps]; rfl)
    rw [hps] at this
    exact .of_eq this
  · intro H a ns hl hO hS
    obtain ⟨μ', e⟩ := main ns hl
    refine ⟨by rw [hps]; rfl, [], [], [.ls (ns.map D.int)], .bl true, μ', ⟨rfl, List.nodup_nil, fun n c h => by simp at h⟩, ?_, e, fun v H' m' _ _ r => ?_⟩
    · simp only [RepL, RepV]
      refine ⟨.ref a, [], rfl, ⟨a, ns.map V.int, rfl, ?_, ?_⟩, rfl⟩
      · rcases hS with (hS | ⟨o, hS⟩) | hS
        · rcases hO a with q | ⟨o, xs, q⟩
          · rw [hS] at q; cases q
          · rw [hS] at q; cases q
        · exact .inl ⟨o, hS⟩
        · exact .inr hS
      · have : ∀ ns : List Int, RepL K [] H (ns.map D.int) (ns.map V.int) := by
          intro ns
          induction ns with
          | nil => simp [RepL]
          | cons n ns ih => simp only [List.map_cons, RepL, RepV]; exact ⟨_, _, rfl, rfl, ih⟩
        exact this ns
    · simp only [RepV] at r
      exact r
  · have R := run_fn' (P := l.prog) (w := w) (base := base) ok k i di hi f fd hF
    rw [hps] at R
    rw [hps]
    exact R
end Mini
end

section
set_option Elab.async false
set_option linter.all false
set_option maxRecDepth 100000
set_option exponentiation.threshold 20000
/-! MEval: laws of the plain functions: loops, comprehensions, what a call forgets. -/
namespace Mini
open PySem
open L2 (atI ixN)

theorem fuel_gt {n : Nat} (h : n ≤ 1000000) : n < fuel := by
  unfold fuel
  have h1 : (1000000 : Nat) < 2 ^ 20 := by decide
  have h2 : 2 ^ 20 ≤ 2 ^ 10000 := Nat.pow_le_pow_right (by decide) (by decide)
  omega

theorem gc_self (μ : Store) (d : D) : gc μ d μ = (d, μ) := by
  unfold gc
  rw [if_pos (List.take_length)]
  split
  · rfl
  · split
    · split
      · split
        · rename_i h1 _ _ _ hh
          have := (List.getElem?_eq_some_iff.mp (by assumption : μ[_]? = some _)).1
          omega
        · rfl
      · rfl
    · rfl
theorem gc_pure (μ t : Store) (d : D) (h : below μ.length d = true) : gc μ d (μ ++ t) = (d, μ) := by
  unfold gc
  rw [if_pos (by simp), if_pos h]
theorem gc_new (μ t : Store) (ds : List D) (h : belows μ.length ds = true) (j : Nat) (hj : μ.length ≤ j) (e : (μ ++ t)[j]? = some (.lst ds)) : gc μ (.cel j) (μ ++ t) = (.cel μ.length, μ ++ [.lst ds]) := by
  unfold gc
  rw [if_pos (by simp), if_neg (by simp only [below, decide_eq_true_eq]; omega)]
  simp only [e]
  rw [if_pos ⟨hj, h⟩]
theorem gc_last (μ : Store) (ds : List D) : gc μ (.cel μ.length) (μ ++ [.lst ds]) = (.cel μ.length, μ ++ [.lst ds]) := by
  unfold gc
  rw [if_pos (by simp), if_neg (by simp [below])]
  have e : (μ ++ [Cell.lst ds])[μ.length]? = some (.lst ds) := by simp
  simp only [e]
  split <;> rfl
@[simp] theorem fin_ret (μ : Store) (d : D) : fin μ (some (.ret d μ)) = some (d, μ) := by
  show some (gc μ d μ) = _
  rw [gc_self]
@[simp] theorem fin_nx (μ : Store) (ρ : Slots) : fin μ (some (.nx ρ μ)) = some (.non, μ) := by
  show some (gc μ .non μ) = _
  rw [gc_self]
theorem fin_more (μ t : Store) (d : D) (h : below μ.length d = true) : fin μ (some (.ret d (μ ++ t))) = some (d, μ) := by
  show some (gc μ d (μ ++ t)) = _
  rw [gc_pure μ t d h]
theorem fin_nxmore (μ t : Store) (ρ : Slots) : fin μ (some (.nx ρ (μ ++ t))) = some (.non, μ) := by
  show some (gc μ .non (μ ++ t)) = _
  rw [gc_pure μ t .non (by simp [below])]
theorem fin_last (μ : Store) (ds : List D) : fin μ (some (.ret (.cel μ.length) (μ ++ [.lst ds]))) = some (.cel μ.length, μ ++ [.lst ds]) := by
  show some (gc μ _ _) = _
  rw [gc_last]

/-! ### for -/
theorem forF_inv {src : Src} {g : EvG} {body : EvS} (xs : List D) (P : Nat → Slots → Store → Prop) (hat : ∀ i ρ μ, P i ρ μ → src.at μ i = some xs[i]?)
    (step : ∀ i x ρ μ, xs[i]? = some x → P i ρ μ → ∃ ρ1 μ1 ρ2 μ2, g x ρ μ = some (ρ1, μ1) ∧ (body ρ1 μ1 = some (.nx ρ2 μ2) ∨ body ρ1 μ1 = some (.ct ρ2 μ2)) ∧ P (i + 1) ρ2 μ2) :
    ∀ n i ρ μ, xs.length - i < n → i ≤ xs.length → P i ρ μ → ∃ ρ' μ', forF src g body n i ρ μ = some (.nx ρ' μ') ∧ P xs.length ρ' μ'
  | 0, _, _, _, h, _, _ => absurd h (Nat.not_lt_zero _)
  | n + 1, i, ρ, μ, h, hi, p => by
    unfold forF
    rw [hat i ρ μ p]
    by_cases hl : i < xs.length
    · rw [List.getElem?_eq_getElem hl]
      obtain ⟨ρ1, μ1, ρ2, μ2, e1, e2, p2⟩ := step i _ ρ μ (List.getElem?_eq_getElem hl) p
      simp only [e1]
      have ih := forF_inv xs P hat step n (i + 1) ρ2 μ2 (by omega) (by omega) p2
      rcases e2 with e2 | e2 <;> simp only [e2] <;> exact ih
    · have e : i = xs.length := by omega
      subst e
      rw [List.getElem?_eq_none (Nat.le_refl _)]
      exact ⟨ρ, μ, rfl, p⟩
theorem for_inv {it : EvI} {src : Src} {g : EvG} {body : EvS} {ρ : Slots} {μ μ0 : Store} (xs : List D) (P : Nat → Slots → Store → Prop) (hit : it ρ μ0 = some (src, μ)) (hx : xs.length ≤ 999999) (h0 : P 0 ρ μ) (hat : ∀ i ρ μ, P i ρ μ → src.at μ i = some xs[i]?)
    (step : ∀ i x ρ μ, xs[i]? = some x → P i ρ μ → ∃ ρ1 μ1 ρ2 μ2, g x ρ μ = some (ρ1, μ1) ∧ (body ρ1 μ1 = some (.nx ρ2 μ2) ∨ body ρ1 μ1 = some (.ct ρ2 μ2)) ∧ P (i + 1) ρ2 μ2) :
    ∃ ρ' μ', sFor it g body ρ μ0 = some (.nx ρ' μ') ∧ P xs.length ρ' μ' := by
  unfold sFor
  rw [hit]
  exact forF_inv xs P hat step fuel 0 ρ μ (Nat.lt_of_le_of_lt (Nat.sub_le _ _) (fuel_gt (by omega))) (Nat.zero_le _) h0
/-- a range's items -/
def rngs (lo : Int) (n : Nat) : List D := (List.range n).map fun (i : Nat) => .int (lo + (i : Int))
theorem rngs_length (lo : Int) (n : Nat) : (rngs lo n).length = n := by simp [rngs]
theorem rngs_get {lo : Int} {n i : Nat} {x : D} (h : (rngs lo n)[i]? = some x) : i < n ∧ x = .int (lo + i) := by
  unfold rngs at h
  rw [List.getElem?_map] at h
  by_cases hi : i < n
  · rw [List.getElem?_range hi] at h
    cases h
    exact ⟨hi, rfl⟩
  · rw [List.getElem?_eq_none (by simpa using hi)] at h
    cases h
theorem rng_at (lo : Int) (n : Nat) (μ : Store) (i : Nat) : (Src.rng lo n).at μ i = some (rngs lo n)[i]? := by
  unfold rngs
  simp only [Src.at, List.getElem?_map]
  by_cases hi : i < n
  · rw [if_pos hi, List.getElem?_range hi]
    rfl
  · rw [if_neg hi, List.getElem?_eq_none (by simpa using hi)]
    rfl

/-! ### comprehensions -/
theorem lcF_map {src : Src} {g : EvG} {t : EvT} {f : EvF} (xs : List D) (F : D → D) (k : Nat) (ρ : Slots) (μ : Store) (hk : k = μ.length) (hm : xs.length ≤ 999999) (hat : ∀ acc i, src.at (μ ++ [.lst acc]) i = some xs[i]?)
    (step : ∀ x acc, x ∈ xs → ∃ ρ1, g x ρ (μ ++ [.lst acc]) = some (ρ1, μ ++ [.lst acc]) ∧ t ρ1 (μ ++ [.lst acc]) = some (true, μ ++ [.lst acc]) ∧ f ρ1 (μ ++ [.lst acc]) = some (F x, μ ++ [.lst acc])) :
    ∀ n i, xs.length - i < n → i ≤ xs.length → lcF src g t f k ρ n i (μ ++ [.lst ((xs.take i).map F)]) = some (μ ++ [.lst (xs.map F)])
  | 0, _, h, _ => absurd h (Nat.not_lt_zero _)
  | n + 1, i, h, hi => by
    unfold lcF
    rw [hat]
    by_cases hl : i < xs.length
    · rw [List.getElem?_eq_getElem hl]
      obtain ⟨ρ1, e1, e2, e3⟩ := step xs[i] ((xs.take i).map F) (List.getElem_mem hl)
      simp only [e1, e2, e3]
      subst hk
      have e4 : (μ ++ [Cell.lst ((xs.take i).map F)])[μ.length]? = some (.lst ((xs.take i).map F)) := by simp
      simp only [e4]
      rw [if_pos (by rw [List.length_map, List.length_take]; have : seqMax = 1000000 := rfl; omega)]
      have e5 : (μ ++ [Cell.lst ((xs.take i).map F)]).set μ.length (.lst ((xs.take i).map F ++ [F xs[i]])) = μ ++ [.lst ((xs.take (i + 1)).map F)] := by
        rw [List.set_append_right _ _ (Nat.le_refl _), Nat.sub_self, List.set_cons_zero, List.take_add_one, List.getElem?_eq_getElem hl, List.map_append]
        rfl
      rw [e5]
      exact lcF_map xs F μ.length ρ μ rfl hm hat step n (i + 1) (by omega) (by omega)
    · have e : i = xs.length := by omega
      subst e
      rw [List.getElem?_eq_none (Nat.le_refl _), List.take_length]
theorem fLc_map {it : EvI} {src : Src} {g : EvG} {t : EvT} {f : EvF} {own : List Nat} {ρ : Slots} {μ μ0 : Store} (xs : List D) (F : D → D) (hit : it ρ μ0 = some (src, μ)) (hm : xs.length ≤ 999999) (hat : ∀ acc i, src.at (μ ++ [.lst acc]) i = some xs[i]?)
    (step : ∀ x acc, x ∈ xs → ∃ ρ1, g x (wipeD ρ own) (μ ++ [.lst acc]) = some (ρ1, μ ++ [.lst acc]) ∧ t ρ1 (μ ++ [.lst acc]) = some (true, μ ++ [.lst acc]) ∧ f ρ1 (μ ++ [.lst acc]) = some (F x, μ ++ [.lst acc])) :
    fLc it g t f own ρ μ0 = some (.cel μ.length, μ ++ [.lst (xs.map F)]) := by
  unfold fLc
  rw [hit]
  have h := lcF_map xs F μ.length (wipeD ρ own) μ rfl hm hat step fuel 0 (Nat.lt_of_le_of_lt (Nat.sub_le _ _) (fuel_gt (by omega))) (Nat.zero_le _)
  simp only [List.take_zero, List.map_nil] at h
  simp only [h]
theorem bls_true {α : Type} (xs : List α) : blsOf (xs.map fun _ => D.bl true) = some (xs.map fun _ => true) := by
  induction xs with
  | nil => rfl
  | cons x xs ih => simp only [List.map_cons, blsOf, ih, Option.map_some]
theorem all_true {α : Type} (xs : List α) : (xs.map fun _ => true).all id = true := by
  rw [List.all_eq_true]
  intro b hb
  obtain ⟨_, _, rfl⟩ := List.mem_map.mp hb
  rfl
theorem bAll_true {α : Type} (xs : List α) (μ : Store) : bAll [.cel μ.length] (μ ++ [.lst (xs.map fun _ => D.bl true)]) = some (.bl true, μ ++ [.lst (xs.map fun _ => D.bl true)]) := by
  have e : (μ ++ [Cell.lst (xs.map fun _ => D.bl true)])[μ.length]? = some (.lst (xs.map fun _ => D.bl true)) := by simp
  simp only [bAll, e, bls_true, Option.map_some, all_true]

/-! ### equality -/
theorem shaped_int (i : Int) : SeqAt.shaped (.int i) = true := rfl
theorem eqD_int (a b : Int) (μ : Store) : eqD (.int a) (.int b) μ = some (decide (a = b)) := by
  simp only [eqD, toPy, toPyC, shaped_int, Bool.and_self, if_true, PyData.eqv]
  congr 1
theorem eqD_str (a b : Str) (μ : Store) (ha : PyData.strOk a = true) (hb : PyData.strOk b = true) : eqD (.str a) (.str b) μ = some (decide (a = b)) := by
  have h1 : SeqAt.shaped (.str a) = true := by simp [SeqAt.shaped, PyData.canLay0, ha, PyData.depth]
  have h2 : SeqAt.shaped (.str b) = true := by simp [SeqAt.shaped, PyData.canLay0, hb, PyData.depth]
  simp only [eqD, toPy, toPyC, h1, h2, Bool.and_self, if_true, PyData.eqv]
  congr 1
end Mini
end

section
set_option Elab.async false
set_option linter.all false
set_option maxRecDepth 100000
set_option exponentiation.threshold 20000
/-! MEq: plain data equal themselves. -/
namespace Mini
open PySem
open L2 (atI ixN)
open PyData (depth depthAll canLay0 canLayAll0 eqv eqvAll)

def plain : Nat → D → Bool
  | 0, _ => false
  | n + 1, d => match d with
    | .non => true
    | .bl _ => true
    | .int _ => true
    | .str s => PyData.strOk s
    | .tup ds => ds.all (plain n)
    | _ => false
structure PyOk (n : Nat) (v : PyData) : Prop where
  lay : canLay0 v = true
  dep : depth v ≤ n
  eqv : eqv v v = true
structure PysOk (n : Nat) (v : List PyData) : Prop where
  lay : canLayAll0 v = true
  dep : depthAll v ≤ n
  eqv : eqvAll v v = true
theorem plains_py {n : Nat} {c : Nat → Option PyData} (ih : ∀ d, plain n d = true → ∃ v, toPyC c d = some v ∧ PyOk n v) : ∀ ds : List D, ds.all (plain n) = true → ∃ vs, toPysC c ds = some vs ∧ PysOk n vs
  | [], _ => ⟨[], rfl, by simp [canLayAll0], by simp [depthAll], by simp [eqvAll]⟩
  | d :: ds, h => by
    rw [List.all_cons, Bool.and_eq_true] at h
    obtain ⟨v, h1, h2⟩ := ih d h.1
    obtain ⟨vs, h3, h4⟩ := plains_py ih ds h.2
    refine ⟨v :: vs, by simp only [toPysC, h1, h3], ?_, ?_, ?_⟩
    · simp [canLayAll0, h2.lay, h4.lay]
    · have := h2.dep
      have := h4.dep
      simp [depthAll]
      omega
    · simp [eqvAll, h2.eqv, h4.eqv]
theorem plain_py {c : Nat → Option PyData} : ∀ (n : Nat) (d : D), plain n d = true → ∃ v, toPyC c d = some v ∧ PyOk n v
  | 0, _, h => by cases h
  | n + 1, d, h => by
    unfold plain at h
    cases d with
    | non => exact ⟨.none, by simp [toPyC], by simp [canLay0], by simp [depth], by simp [PyData.eqv]⟩
    | bl b => exact ⟨.bool b, by simp [toPyC], by simp [canLay0], by simp [depth], by simp [PyData.eqv]⟩
    | int b => exact ⟨.int b, by simp [toPyC], by simp [canLay0], by simp [depth], by simp [PyData.eqv]⟩
    | str s => exact ⟨.str s, by simp [toPyC], by simpa [canLay0] using h, by simp [depth], by simp [PyData.eqv]⟩
    | tup ds =>
      obtain ⟨vs, h1, h2⟩ := plains_py (c := c) (plain_py n) ds h
      refine ⟨.tuple vs, by simp [toPyC, h1], ?_, ?_, ?_⟩
      · simpa [canLay0] using h2.lay
      · have := h2.dep
        simp [depth]
        omega
      · simpa [PyData.eqv] using h2.eqv
    | ls ds => cases h
    | cel k => cases h
    | ty t => cases h
theorem PyOk.shaped {n : Nat} {v : PyData} (h : PyOk n v) (l : n ≤ 64) : SeqAt.shaped v = true := by
  unfold SeqAt.shaped
  rw [h.lay, Bool.true_and]
  exact decide_eq_true (Nat.le_trans h.dep l)
theorem eqD_of {x y : D} {μ : Store} {v : PyData} {n : Nat} (h1 : toPy μ x = some v) (h2 : toPy μ y = some v) (h : PyOk n v) (l : n ≤ 64) : eqD x y μ = some true := by
  unfold eqD
  rw [h1, h2]
  simp only [h.shaped l, Bool.and_self, if_true, h.eqv]
theorem eqD_self {d : D} (n : Nat) (l : n ≤ 64) (h : plain n d = true) (μ : Store) : eqD d d μ = some true := by
  obtain ⟨v, h1, h2⟩ := plain_py (c := celPy μ 4) n d h
  exact eqD_of h1 h1 h2 l
theorem eqD_cel {i j : Nat} {ds : List D} {μ : Store} (n : Nat) (l : n ≤ 63) (hi : μ[i]? = some (.lst ds)) (hj : μ[j]? = some (.lst ds)) (h : ds.all (plain n) = true) : eqD (.cel i) (.cel j) μ = some true := by
  obtain ⟨vs, h1, h2⟩ := plains_py (c := celPy μ 3) (plain_py n) ds h
  have hh : PyOk (n + 1) (.list vs) := ⟨by simpa [canLay0] using h2.lay, by have := h2.dep; simp [depth]; omega, by simpa [PyData.eqv] using h2.eqv⟩
  refine eqD_of (v := .list vs) ?_ ?_ hh (by omega)
  · have e : toPy μ (.cel i) = celPy μ 4 i := by simp [toPy, toPyC]
    rw [e, celPy, hi]
    simp only [h1, Option.map_some]
  · have e : toPy μ (.cel j) = celPy μ 4 j := by simp [toPy, toPyC]
    rw [e, celPy, hj]
    simp only [h1, Option.map_some]

/-! ### sequences of statements and tests -/
theorem seq_nx {A B : EvS} {ρ ρ1 : Slots} {μ μ1 : Store} (h : A ρ μ = some (.nx ρ1 μ1)) : sSeq A B ρ μ = B ρ1 μ1 := by
  unfold sSeq
  rw [h]
theorem app_at {s n : Nat} {fe : EvF} {ρ : Slots} {μ : Store} {ds : List D} {d : D} (h : ρ[s]? = some (some (.cel n))) (he : fe ρ μ = some (d, μ)) (hn : μ[n]? = some (.lst ds)) (hl : ds.length < seqMax) :
    sDrop (sApp (fVar s) fe) ρ μ = some (.nx ρ (μ.set n (.lst (ds ++ [d])))) := by
  simp only [sDrop, sApp, fVar, h, he, hn, hl, if_true]
theorem if_tt {t : EvT} {A B : EvS} {ρ : Slots} {μ μ1 : Store} (h : t ρ μ = some (true, μ1)) : sIf t A B ρ μ = A ρ μ1 := by
  unfold sIf
  rw [h]
theorem if_ff {t : EvT} {A B : EvS} {ρ : Slots} {μ μ1 : Store} (h : t ρ μ = some (false, μ1)) : sIf t A B ρ μ = B ρ μ1 := by
  unfold sIf
  rw [h]
theorem if_t {t : EvT} {A B : EvS} {ρ : Slots} {μ : Store} (h : t ρ μ = some (true, μ)) : sIf t A B ρ μ = A ρ μ := if_tt h
theorem if_f {t : EvT} {A B : EvS} {ρ : Slots} {μ : Store} (h : t ρ μ = some (false, μ)) : sIf t A B ρ μ = B ρ μ := if_ff h
theorem or_ff {t u : EvT} {ρ : Slots} {μ μ1 μ2 : Store} (h : t ρ μ = some (false, μ1)) (g : u ρ μ1 = some (false, μ2)) : tOrD t u ρ μ = some (false, μ2) := by
  unfold tOrD
  rw [h]
  exact g
theorem and_ff {t u : EvT} {ρ : Slots} {μ μ1 : Store} (h : t ρ μ = some (false, μ1)) : tAndD t u ρ μ = some (false, μ1) := by
  unfold tAndD
  rw [h]
theorem and_tt {t u : EvT} {ρ : Slots} {μ μ1 : Store} {r : Option (Bool × Store)} (h : t ρ μ = some (true, μ1)) (g : u ρ μ1 = r) : tAndD t u ρ μ = r := by
  unfold tAndD
  rw [h]
  exact g
theorem ne_ff {a b : EvF} {ρ : Slots} {μ μ1 μ2 : Store} {x y : D} (h : a ρ μ = some (x, μ1)) (g : b ρ μ1 = some (y, μ2)) (e : eqD x y μ2 = some true) : tBl (fBin dNe a b) ρ μ = some (false, μ2) := by
  simp only [tBl, fBin, h, g, dNe, mapB, e, Option.map_some, Bool.not_true]
theorem app1 {o : OpA} {f : EvF} {ρ : Slots} {μ μ1 : Store} {x : D} (h : f ρ μ = some (x, μ1)) : fApp o (fCons f fNil) ρ μ = o [x] μ1 := by
  simp only [fApp, fCons, fNil, h]
theorem app2 {o : OpA} {f g : EvF} {ρ : Slots} {μ μ1 μ2 : Store} {x y : D} (h : f ρ μ = some (x, μ1)) (h2 : g ρ μ1 = some (y, μ2)) : fApp o (fCons f (fCons g fNil)) ρ μ = o [x, y] μ2 := by
  simp only [fApp, fCons, fNil, h, h2]
theorem bin {o : Op2} {f g : EvF} {ρ : Slots} {μ μ1 μ2 : Store} {x y : D} (h : f ρ μ = some (x, μ1)) (h2 : g ρ μ1 = some (y, μ2)) : fBin o f g ρ μ = o x y μ2 := by
  simp only [fBin, h, h2]
theorem tup1 {f : EvF} {ρ : Slots} {μ μ1 : Store} {x : D} (h : f ρ μ = some (x, μ1)) : fTup (fCons f fNil) ρ μ = some (.tup [x], μ1) := by
  simp only [fTup, fCons, fNil, h]
  simp [seqMax]
theorem tup2 {f g : EvF} {ρ : Slots} {μ μ1 μ2 : Store} {x y : D} (h : f ρ μ = some (x, μ1)) (h2 : g ρ μ1 = some (y, μ2)) : fTup (fCons f (fCons g fNil)) ρ μ = some (.tup [x, y], μ2) := by
  simp only [fTup, fCons, fNil, h, h2]
  simp [seqMax]
theorem asg {f : EvF} {g : EvG} {ρ ρ1 : Slots} {μ μ1 μ2 : Store} {x : D} (h : f ρ μ = some (x, μ1)) (h2 : g x ρ μ1 = some (ρ1, μ2)) : sAsg f g ρ μ = some (.nx ρ1 μ2) := by
  simp only [sAsg, h, h2]
theorem var {i : Nat} {ρ : Slots} {d : D} (μ : Store) (h : ρ[i]? = some (some d)) : fVar i ρ μ = some (d, μ) := by
  simp only [fVar, h]
theorem add_int {f g : EvF} {ρ : Slots} {μ μ1 μ2 : Store} {x y : Int} (h : f ρ μ = some (.int x, μ1)) (h2 : g ρ μ1 = some (.int y, μ2)) : fBin dAdd f g ρ μ = some (.int (x + y), μ2) := bin h h2
theorem sub_int {f g : EvF} {ρ : Slots} {μ μ1 μ2 : Store} {x y : Int} (h : f ρ μ = some (.int x, μ1)) (h2 : g ρ μ1 = some (.int y, μ2)) : fBin dSub f g ρ μ = some (.int (x - y), μ2) := bin h h2
theorem mul_int {f g : EvF} {ρ : Slots} {μ μ1 μ2 : Store} {x y : Int} (h : f ρ μ = some (.int x, μ1)) (h2 : g ρ μ1 = some (.int y, μ2)) (hx : x.natAbs < 2 ^ 100) (hy : y.natAbs < 2 ^ 100) : fBin dMul f g ρ μ = some (.int (x * y), μ2) := by
  refine (bin h h2).trans ?_
  have b : ∀ z : Int, z.natAbs < 2 ^ 100 → bits z 9000 = true := fun z hz => decide_eq_true (Nat.lt_of_lt_of_le hz (Nat.pow_le_pow_right (by decide) (by decide)))
  simp only [dMul, b x hx, b y hy, Bool.and_self, if_true]
theorem mod_int {f g : EvF} {ρ : Slots} {μ μ1 μ2 : Store} {x y : Int} (h : f ρ μ = some (.int x, μ1)) (h2 : g ρ μ1 = some (.int y, μ2)) (hy : 0 < y) : fBin dMod f g ρ μ = some (.int (x % y), μ2) := by
  refine (bin h h2).trans ?_
  simp only [dMod, hy, if_true]
theorem div_int {f g : EvF} {ρ : Slots} {μ μ1 μ2 : Store} {x y : Int} (h : f ρ μ = some (.int x, μ1)) (h2 : g ρ μ1 = some (.int y, μ2)) (hy : 0 < y) (hb : y.natAbs < 2 ^ 100) : fBin dDiv f g ρ μ = some (.int (x / y), μ2) := by
  refine (bin h h2).trans ?_
  have b : bits y 8000 = true := decide_eq_true (Nat.lt_of_lt_of_le hb (Nat.pow_le_pow_right (by decide) (by decide)))
  simp only [dDiv, hy, b, and_self, if_true]
theorem eq_int {f g : EvF} {ρ : Slots} {μ μ1 μ2 : Store} {x y : Int} (h : f ρ μ = some (.int x, μ1)) (h2 : g ρ μ1 = some (.int y, μ2)) : tBl (fBin dEq f g) ρ μ = some (decide (x = y), μ2) := by
  simp only [tBl, bin h h2, dEq, mapB, eqD_int]
/-- int(list[i]) -/
theorem draw_at {s c n : Nat} {fi : EvF} {ρ : Slots} {μ : Store} {ds : List Int} (h : ρ[s]? = some (some (.cel c))) (hc : μ[c]? = some (.lst (ds.map D.int))) (hi : fi ρ μ = some (.int (n : Int), μ)) (hn : n < ds.length) :
    fApp bInt (fCons (fBin dIx (fVar s) fi) fNil) ρ μ = some (.int ds[n], μ) := by
  refine (app1 ((bin (var μ h) hi).trans (c := some (.int ds[n], μ)) ?_)).trans rfl
  have e : atI (ds.map D.int) (n : Int) = some (.int ds[n]) := by
    unfold atI ixN
    rw [if_pos (by omega), List.length_map, if_pos (by omega)]
    simp [hn]
  simp only [dIx, hc, e, Option.map_some]
/-- a comprehension whose items may leave cells -/
theorem lcF_grow {src : Src} {g : EvG} {t : EvT} {f : EvF} (xs : List D) (R : Nat → D → Prop) (ρ : Slots) (μ : Store) (hm : xs.length ≤ 999999) (hat : ∀ acc w i, src.at (μ ++ Cell.lst acc :: w) i = some xs[i]?)
    (step : ∀ i x acc w, xs[i]? = some x → ∃ ρ1 d w', g x ρ (μ ++ Cell.lst acc :: w) = some (ρ1, μ ++ Cell.lst acc :: w) ∧ t ρ1 (μ ++ Cell.lst acc :: w) = some (true, μ ++ Cell.lst acc :: w) ∧ f ρ1 (μ ++ Cell.lst acc :: w) = some (d, μ ++ Cell.lst acc :: w') ∧ R i d) :
    ∀ n i acc w, xs.length - i < n → i ≤ xs.length → acc.length = i → (∀ j d, acc[j]? = some d → R j d) → ∃ L w', lcF src g t f μ.length ρ n i (μ ++ Cell.lst acc :: w) = some (μ ++ Cell.lst L :: w') ∧ L.length = xs.length ∧ ∀ j d, L[j]? = some d → R j d
  | 0, _, _, _, h, _, _, _ => absurd h (Nat.not_lt_zero _)
  | n + 1, i, acc, w, h, hi, ha, hr => by
    unfold lcF
    rw [hat]
    by_cases hl : i < xs.length
    · rw [List.getElem?_eq_getElem hl]
      obtain ⟨ρ1, d, w', e1, e2, e3, r⟩ := step i xs[i] acc w (List.getElem?_eq_getElem hl)
      have e4 : (μ ++ Cell.lst acc :: w')[μ.length]? = some (.lst acc) := by simp
      have e5 : (μ ++ Cell.lst acc :: w').set μ.length (.lst (acc ++ [d])) = μ ++ Cell.lst (acc ++ [d]) :: w' := by
        rw [List.set_append_right _ _ (Nat.le_refl _), Nat.sub_self, List.set_cons_zero]
      simp only [e1, e2, e3, e4]
      rw [if_pos (by have : seqMax = 1000000 := rfl; omega), e5]
      refine lcF_grow xs R ρ μ hm hat step n (i + 1) (acc ++ [d]) w' (by omega) (by omega) (by rw [List.length_append, ha]; rfl) fun j d' hj => ?_
      rw [List.getElem?_append] at hj
      split at hj
      · exact hr j d' hj
      · have : j = acc.length := by
          have := (List.getElem?_eq_some_iff.mp hj).1
          simp at this
          omega
        subst this
        rw [Nat.sub_self] at hj
        cases hj
        exact ha ▸ r
    · have e : i = xs.length := by omega
      subst e
      rw [List.getElem?_eq_none (Nat.le_refl _)]
      exact ⟨acc, w, rfl, ha, hr⟩
theorem fLc_grow {it : EvI} {src : Src} {g : EvG} {t : EvT} {f : EvF} {own : List Nat} {ρ : Slots} {μ μ0 : Store} (xs : List D) (R : Nat → D → Prop) (hit : it ρ μ0 = some (src, μ)) (hm : xs.length ≤ 999999) (hat : ∀ acc w i, src.at (μ ++ Cell.lst acc :: w) i = some xs[i]?)
    (step : ∀ i x acc w, xs[i]? = some x → ∃ ρ1 d w', g x (wipeD ρ own) (μ ++ Cell.lst acc :: w) = some (ρ1, μ ++ Cell.lst acc :: w) ∧ t ρ1 (μ ++ Cell.lst acc :: w) = some (true, μ ++ Cell.lst acc :: w) ∧ f ρ1 (μ ++ Cell.lst acc :: w) = some (d, μ ++ Cell.lst acc :: w') ∧ R i d) :
    ∃ L w, fLc it g t f own ρ μ0 = some (.cel μ.length, μ ++ Cell.lst L :: w) ∧ L.length = xs.length ∧ ∀ j d, L[j]? = some d → R j d := by
  obtain ⟨L, w', h1, h2, h3⟩ := lcF_grow xs R (wipeD ρ own) μ hm hat step fuel 0 [] [] (Nat.lt_of_le_of_lt (Nat.sub_le _ _) (fuel_gt (by omega))) (Nat.zero_le _) rfl (fun j d h => by simp at h)
  refine ⟨L, w', ?_, h2, h3⟩
  unfold fLc
  rw [hit]
  simp only [h1]
end Mini
end

section
set_option Elab.async false
set_option linter.all false
set_option maxRecDepth 100000
set_option maxHeartbeats 0
namespace K05
open PySem PySem.Spec PyProof.Rows L2 HT Mini
def topS (i : Nat) : Stmt := PySem.Challenge.pw_lightwrit_k05_main_rows_of_lenses_togeth.main.body.getD i (.Pass ⟨0, 0, 0, 0⟩)
def d0 : DefI := ⟨"is_integer", ["value"], ["value"], topS 9⟩
def d1 : DefI := ⟨"_divisor", ["first", "second"], ["first", "second", "one", "two"], topS 10⟩
def d2 : DefI := ⟨"is_ratio", ["value"], ["value"], topS 11⟩
def d3 : DefI := ⟨"_checked", ["first", "second"], ["first", "second"], topS 12⟩
def d4 : DefI := ⟨"_lowest", ["above", "below"], ["above", "below", "by"], topS 13⟩
def d5 : DefI := ⟨"ratio", ["above", "below"], ["above", "below"], topS 14⟩
def d6 : DefI := ⟨"plus", ["first", "second"], ["first", "second"], topS 15⟩
def d7 : DefI := ⟨"minus", ["first", "second"], ["first", "second"], topS 16⟩
def d8 : DefI := ⟨"times", ["first", "second"], ["first", "second"], topS 17⟩
def d9 : DefI := ⟨"over", ["first", "second"], ["first", "second"], topS 18⟩
def d10 : DefI := ⟨"less", ["first", "second"], ["first", "second"], topS 19⟩
def d11 : DefI := ⟨"_is_element", ["value"], ["value"], topS 25⟩
def d12 : DefI := ⟨"check_row", ["row"], ["row", "one"], topS 26⟩
def d13 : DefI := ⟨"check_ray", ["ray"], ["ray", "one"], topS 27⟩
def d14 : DefI := ⟨"is_matrix", ["value"], ["value", "one"], topS 28⟩
def d15 : DefI := ⟨"check_matrix", ["matrix"], ["matrix"], topS 29⟩
def d16 : DefI := ⟨"element_matrix", ["element"], ["element"], topS 30⟩
def d17 : DefI := ⟨"product", ["first", "second"], ["first", "second", "a", "b", "c", "d", "e", "f", "g", "h"], topS 31⟩
def d18 : DefI := ⟨"_through", ["matrix", "ray"], ["matrix", "ray", "a", "b", "c", "d"], topS 32⟩
def d19 : DefI := ⟨"carried", ["row", "ray"], ["row", "ray", "found", "element"], topS 33⟩
def d20 : DefI := ⟨"matrix_of", ["row"], ["row", "found", "element"], topS 34⟩
def d21 : DefI := ⟨"passed", ["matrix", "ray"], ["matrix", "ray"], topS 35⟩
def d22 : DefI := ⟨"behind", ["first", "second"], ["first", "second"], topS 36⟩
def d23 : DefI := ⟨"undone", ["matrix"], ["matrix"], topS 37⟩
def d24 : DefI := ⟨"image", ["matrix", "distance"], ["matrix", "distance", "high", "steep", "a", "b", "c", "d"], topS 38⟩
def d25 : DefI := ⟨"_law_draws", ["script", "many"], ["script", "many", "draws", "seed", "cell", "k", "number"], topS 40⟩
def d26 : DefI := ⟨"_law_row", ["draws", "many"], ["draws", "many", "found", "k", "draw", "own"], topS 41⟩
def d27 : DefI := ⟨"law", ["script"], ["script", "draws", "turn", "both", "ray", "ways", "gap", "distance", "here", "kind", "one", "two", "first", "second", "a", "b", "c", "d", "there", "whole", "k"], topS 42⟩
def T : Top := ⟨[d0, d1, d2, d3, d4, d5, d6, d7, d8, d9, d10, d11, d12, d13, d14, d15, d16, d17, d18, d19, d20, d21, d22, d23, d24, d25, d26, d27], [("NOUGHT", .tup [.int (0), .int (1)]), ("ONE", .tup [.int (1), .int (1)]), ("MOST_ELEMENTS", .int (40)), ("GAP", .str "gap"), ("LENS", .str "lens"), ("SAME", .tup [.tup [.int (1), .int (1)], .tup [.int (0), .int (1)], .tup [.int (0), .int (1)], .tup [.int (1), .int (1)]])], ["abs", "all", "bool", "int", "isinstance", "len", "range", "str", "tuple"]⟩
abbrev q : Program := PySem.W.view (PySem.W.OpenLaw.row PySem.Challenge.rw_lightwrit_k05_main_rows_of_lenses_togeth).prog [42]
def loose0 : List PySem.Str := ["is_integer", "_divisor", "is_ratio", "_checked", "_lowest", "ratio", "plus", "minus", "times", "over", "less", "_is_element", "check_row", "check_ray", "is_matrix", "check_matrix", "element_matrix", "product", "_through", "carried", "matrix_of", "passed", "behind", "undone", "image", "_law_draws", "_law_row", "NOUGHT", "ONE", "MOST_ELEMENTS"]
def loose1 : List PySem.Str := ["GAP", "LENS", "SAME", "LightError", "BadNumber", "BadRow", "BadRay", "BadMatrix"]
def loose : List PySem.Str := loose0 ++ loose1
def lawAt : Nat := 42
def lawIx : Nat := 27
end K05
end

section
set_option Elab.async false
set_option linter.all false
set_option maxRecDepth 100000
set_option maxHeartbeats 0
namespace K05
open PySem PySem.Spec PyProof.Rows L2 HT Mini
def b0 (cl : Nat → OpA) : EvS := (sSeq (sRet (fAnd (fApp bIsi (fCons (fVar 0) (fCons (fCon (.ty .int)) fNil))) (fUn dNot (fApp bIsi (fCons (fVar 0) (fCons (fCon (.ty .bool)) fNil)))))) sNil)
theorem b0_eq (cl : Nat → OpA) : T.body d0 cl = b0 cl := by kernel_rfl
theorem r0 (k : Nat) (a0 : D) (μ : Store) : T.run (k + 1) 0 [a0] μ = fin μ (b0 (T.run k) [some a0] μ) := by
  rw [← b0_eq]
  rfl
def b1 (cl : Nat → OpA) : EvS := (sSeq (sPar 2 3 (fCons (fApp bAbs (fCons (fVar 0) fNil)) (fCons (fApp bAbs (fCons (fVar 1) fNil)) fNil))) (sSeq (sWhile (tBl (fBin dGt (fVar 3) (fCon (.int (0))))) (sSeq (sPar 2 3 (fCons (fVar 3) (fCons (fBin dMod (fVar 2) (fVar 3)) fNil))) sNil)) (sSeq (sRet (fVar 2)) sNil)))
theorem b1_eq (cl : Nat → OpA) : T.body d1 cl = b1 cl := by kernel_rfl
theorem r1 (k : Nat) (a0 a1 : D) (μ : Store) : T.run (k + 1) 1 [a0, a1] μ = fin μ (b1 (T.run k) [some a0, some a1, none, none] μ) := by
  rw [← b1_eq]
  rfl
def b2 (cl : Nat → OpA) : EvS := (sSeq (sIf (tOrD (tNotD (tVal (fApp bIsi (fCons (fVar 0) (fCons (fCon (.ty .tuple)) fNil))))) (tOrD (tBl (fBin dNe (fApp bLen (fCons (fVar 0) fNil)) (fCon (.int (2))))) (tOrD (tNotD (tVal (fApp (cl 0) (fCons (fBin dIx (fVar 0) (fCon (.int (0)))) fNil)))) (tNotD (tVal (fApp (cl 0) (fCons (fBin dIx (fVar 0) (fCon (.int (1)))) fNil))))))) (sSeq (sRet (fCon (.bl false))) sNil) sNil) (sSeq (sRet (fAnd (fBin dGt (fBin dIx (fVar 0) (fCon (.int (1)))) (fCon (.int (0)))) (fBin dEq (fApp (cl 1) (fCons (fBin dIx (fVar 0) (fCon (.int (0)))) (fCons (fBin dIx (fVar 0) (fCon (.int (1)))) fNil))) (fCon (.int (1)))))) sNil))
theorem b2_eq (cl : Nat → OpA) : T.body d2 cl = b2 cl := by kernel_rfl
theorem r2 (k : Nat) (a0 : D) (μ : Store) : T.run (k + 1) 2 [a0] μ = fin μ (b2 (T.run k) [some a0] μ) := by
  rw [← b2_eq]
  rfl
def b3 (cl : Nat → OpA) : EvS := (sSeq (sIf (tOrD (tNotD (tVal (fApp (cl 2) (fCons (fVar 0) fNil)))) (tNotD (tVal (fApp (cl 2) (fCons (fVar 1) fNil))))) (sSeq sNo sNil) sNil) sNil)
theorem b3_eq (cl : Nat → OpA) : T.body d3 cl = b3 cl := by kernel_rfl
theorem r3 (k : Nat) (a0 a1 : D) (μ : Store) : T.run (k + 1) 3 [a0, a1] μ = fin μ (b3 (T.run k) [some a0, some a1] μ) := by
  rw [← b3_eq]
  rfl
def b4 (cl : Nat → OpA) : EvS := (sSeq (sAsg (fApp (cl 1) (fCons (fVar 0) (fCons (fVar 1) fNil))) (gName 2)) (sSeq (sRet (fIte (tBl (fBin dGt (fVar 1) (fCon (.int (0))))) (fTup (fCons (fBin dDiv (fVar 0) (fVar 2)) (fCons (fBin dDiv (fVar 1) (fVar 2)) fNil))) (fTup (fCons (fBin dSub (fCon (.int (0))) (fBin dDiv (fVar 0) (fVar 2))) (fCons (fBin dSub (fCon (.int (0))) (fBin dDiv (fVar 1) (fVar 2))) fNil))))) sNil))
theorem b4_eq (cl : Nat → OpA) : T.body d4 cl = b4 cl := by kernel_rfl
theorem r4 (k : Nat) (a0 a1 : D) (μ : Store) : T.run (k + 1) 4 [a0, a1] μ = fin μ (b4 (T.run k) [some a0, some a1, none] μ) := by
  rw [← b4_eq]
  rfl
def b5 (cl : Nat → OpA) : EvS := (sSeq (sIf (tOrD (tNotD (tVal (fApp (cl 0) (fCons (fVar 0) fNil)))) (tOrD (tNotD (tVal (fApp (cl 0) (fCons (fVar 1) fNil)))) (tBl (fBin dEq (fVar 1) (fCon (.int (0))))))) (sSeq sNo sNil) sNil) (sSeq (sRet (fApp (cl 4) (fCons (fVar 0) (fCons (fVar 1) fNil)))) sNil))
theorem b5_eq (cl : Nat → OpA) : T.body d5 cl = b5 cl := by kernel_rfl
theorem r5 (k : Nat) (a0 a1 : D) (μ : Store) : T.run (k + 1) 5 [a0, a1] μ = fin μ (b5 (T.run k) [some a0, some a1] μ) := by
  rw [← b5_eq]
  rfl
def b6 (cl : Nat → OpA) : EvS := (sSeq (sDrop (fApp (cl 3) (fCons (fVar 0) (fCons (fVar 1) fNil)))) (sSeq (sRet (fApp (cl 4) (fCons (fBin dAdd (fBin dMul (fBin dIx (fVar 0) (fCon (.int (0)))) (fBin dIx (fVar 1) (fCon (.int (1))))) (fBin dMul (fBin dIx (fVar 1) (fCon (.int (0)))) (fBin dIx (fVar 0) (fCon (.int (1)))))) (fCons (fBin dMul (fBin dIx (fVar 0) (fCon (.int (1)))) (fBin dIx (fVar 1) (fCon (.int (1))))) fNil)))) sNil))
theorem b6_eq (cl : Nat → OpA) : T.body d6 cl = b6 cl := by kernel_rfl
theorem r6 (k : Nat) (a0 a1 : D) (μ : Store) : T.run (k + 1) 6 [a0, a1] μ = fin μ (b6 (T.run k) [some a0, some a1] μ) := by
  rw [← b6_eq]
  rfl
def b7 (cl : Nat → OpA) : EvS := (sSeq (sDrop (fApp (cl 3) (fCons (fVar 0) (fCons (fVar 1) fNil)))) (sSeq (sRet (fApp (cl 4) (fCons (fBin dSub (fBin dMul (fBin dIx (fVar 0) (fCon (.int (0)))) (fBin dIx (fVar 1) (fCon (.int (1))))) (fBin dMul (fBin dIx (fVar 1) (fCon (.int (0)))) (fBin dIx (fVar 0) (fCon (.int (1)))))) (fCons (fBin dMul (fBin dIx (fVar 0) (fCon (.int (1)))) (fBin dIx (fVar 1) (fCon (.int (1))))) fNil)))) sNil))
theorem b7_eq (cl : Nat → OpA) : T.body d7 cl = b7 cl := by kernel_rfl
theorem r7 (k : Nat) (a0 a1 : D) (μ : Store) : T.run (k + 1) 7 [a0, a1] μ = fin μ (b7 (T.run k) [some a0, some a1] μ) := by
  rw [← b7_eq]
  rfl
def b8 (cl : Nat → OpA) : EvS := (sSeq (sDrop (fApp (cl 3) (fCons (fVar 0) (fCons (fVar 1) fNil)))) (sSeq (sRet (fApp (cl 4) (fCons (fBin dMul (fBin dIx (fVar 0) (fCon (.int (0)))) (fBin dIx (fVar 1) (fCon (.int (0))))) (fCons (fBin dMul (fBin dIx (fVar 0) (fCon (.int (1)))) (fBin dIx (fVar 1) (fCon (.int (1))))) fNil)))) sNil))
theorem b8_eq (cl : Nat → OpA) : T.body d8 cl = b8 cl := by kernel_rfl
theorem r8 (k : Nat) (a0 a1 : D) (μ : Store) : T.run (k + 1) 8 [a0, a1] μ = fin μ (b8 (T.run k) [some a0, some a1] μ) := by
  rw [← b8_eq]
  rfl
def b9 (cl : Nat → OpA) : EvS := (sSeq (sDrop (fApp (cl 3) (fCons (fVar 0) (fCons (fVar 1) fNil)))) (sSeq (sIf (tBl (fBin dEq (fBin dIx (fVar 1) (fCon (.int (0)))) (fCon (.int (0))))) (sSeq sNo sNil) sNil) (sSeq (sRet (fApp (cl 4) (fCons (fBin dMul (fBin dIx (fVar 0) (fCon (.int (0)))) (fBin dIx (fVar 1) (fCon (.int (1))))) (fCons (fBin dMul (fBin dIx (fVar 0) (fCon (.int (1)))) (fBin dIx (fVar 1) (fCon (.int (0))))) fNil)))) sNil)))
theorem b9_eq (cl : Nat → OpA) : T.body d9 cl = b9 cl := by kernel_rfl
theorem r9 (k : Nat) (a0 a1 : D) (μ : Store) : T.run (k + 1) 9 [a0, a1] μ = fin μ (b9 (T.run k) [some a0, some a1] μ) := by
  rw [← b9_eq]
  rfl
def b10 (cl : Nat → OpA) : EvS := (sSeq (sDrop (fApp (cl 3) (fCons (fVar 0) (fCons (fVar 1) fNil)))) (sSeq (sRet (fBin dLt (fBin dMul (fBin dIx (fVar 0) (fCon (.int (0)))) (fBin dIx (fVar 1) (fCon (.int (1))))) (fBin dMul (fBin dIx (fVar 1) (fCon (.int (0)))) (fBin dIx (fVar 0) (fCon (.int (1))))))) sNil))
theorem b10_eq (cl : Nat → OpA) : T.body d10 cl = b10 cl := by kernel_rfl
theorem r10 (k : Nat) (a0 a1 : D) (μ : Store) : T.run (k + 1) 10 [a0, a1] μ = fin μ (b10 (T.run k) [some a0, some a1] μ) := by
  rw [← b10_eq]
  rfl
def b11 (cl : Nat → OpA) : EvS := (sSeq (sIf (tOrD (tNotD (tVal (fApp bIsi (fCons (fVar 0) (fCons (fCon (.ty .tuple)) fNil))))) (tOrD (tBl (fBin dNe (fApp bLen (fCons (fVar 0) fNil)) (fCon (.int (2))))) (tOrD (tNotD (tVal (fApp bIsi (fCons (fBin dIx (fVar 0) (fCon (.int (0)))) (fCons (fCon (.ty .str)) fNil))))) (tNotD (tVal (fApp (cl 2) (fCons (fBin dIx (fVar 0) (fCon (.int (1)))) fNil))))))) (sSeq (sRet (fCon (.bl false))) sNil) sNil) (sSeq (sIf (tBl (fBin dEq (fBin dIx (fVar 0) (fCon (.int (0)))) (fCon (.str "gap")))) (sSeq (sRet (fBin dGt (fBin dIx (fBin dIx (fVar 0) (fCon (.int (1)))) (fCon (.int (0)))) (fCon (.int (0))))) sNil) sNil) (sSeq (sRet (fAnd (fBin dEq (fBin dIx (fVar 0) (fCon (.int (0)))) (fCon (.str "lens"))) (fBin dNe (fBin dIx (fBin dIx (fVar 0) (fCon (.int (1)))) (fCon (.int (0)))) (fCon (.int (0)))))) sNil)))
theorem b11_eq (cl : Nat → OpA) : T.body d11 cl = b11 cl := by kernel_rfl
theorem r11 (k : Nat) (a0 : D) (μ : Store) : T.run (k + 1) 11 [a0] μ = fin μ (b11 (T.run k) [some a0] μ) := by
  rw [← b11_eq]
  rfl
def b12 (cl : Nat → OpA) : EvS := (sSeq (sIf (tOrD (tNotD (tVal (fApp bIsi (fCons (fVar 0) (fCons (fCon (.ty .tuple)) fNil))))) (tOrD (tBl (fBin dGt (fApp bLen (fCons (fVar 0) fNil)) (fCon (.int (40))))) (tNotD (tVal (fApp bAll (fCons (fLc (iSeq (fVar 0)) (gName 1) tYesD (fApp (cl 11) (fCons (fVar 1) fNil)) [1]) fNil)))))) (sSeq sNo sNil) sNil) sNil)
theorem b12_eq (cl : Nat → OpA) : T.body d12 cl = b12 cl := by kernel_rfl
theorem r12 (k : Nat) (a0 : D) (μ : Store) : T.run (k + 1) 12 [a0] μ = fin μ (b12 (T.run k) [some a0, none] μ) := by
  rw [← b12_eq]
  rfl
def b13 (cl : Nat → OpA) : EvS := (sSeq (sIf (tOrD (tNotD (tVal (fApp bIsi (fCons (fVar 0) (fCons (fCon (.ty .tuple)) fNil))))) (tOrD (tBl (fBin dNe (fApp bLen (fCons (fVar 0) fNil)) (fCon (.int (2))))) (tNotD (tVal (fApp bAll (fCons (fLc (iSeq (fVar 0)) (gName 1) tYesD (fApp (cl 2) (fCons (fVar 1) fNil)) [1]) fNil)))))) (sSeq sNo sNil) sNil) sNil)
theorem b13_eq (cl : Nat → OpA) : T.body d13 cl = b13 cl := by kernel_rfl
theorem r13 (k : Nat) (a0 : D) (μ : Store) : T.run (k + 1) 13 [a0] μ = fin μ (b13 (T.run k) [some a0, none] μ) := by
  rw [← b13_eq]
  rfl
def b14 (cl : Nat → OpA) : EvS := (sSeq (sIf (tOrD (tNotD (tVal (fApp bIsi (fCons (fVar 0) (fCons (fCon (.ty .tuple)) fNil))))) (tOrD (tBl (fBin dNe (fApp bLen (fCons (fVar 0) fNil)) (fCon (.int (4))))) (tNotD (tVal (fApp bAll (fCons (fLc (iSeq (fVar 0)) (gName 1) tYesD (fApp (cl 2) (fCons (fVar 1) fNil)) [1]) fNil)))))) (sSeq (sRet (fCon (.bl false))) sNil) sNil) (sSeq (sRet (fBin dEq (fApp (cl 7) (fCons (fApp (cl 8) (fCons (fBin dIx (fVar 0) (fCon (.int (0)))) (fCons (fBin dIx (fVar 0) (fCon (.int (3)))) fNil))) (fCons (fApp (cl 8) (fCons (fBin dIx (fVar 0) (fCon (.int (1)))) (fCons (fBin dIx (fVar 0) (fCon (.int (2)))) fNil))) fNil))) (fCon (.tup [.int (1), .int (1)])))) sNil))
theorem b14_eq (cl : Nat → OpA) : T.body d14 cl = b14 cl := by kernel_rfl
theorem r14 (k : Nat) (a0 : D) (μ : Store) : T.run (k + 1) 14 [a0] μ = fin μ (b14 (T.run k) [some a0, none] μ) := by
  rw [← b14_eq]
  rfl
def b15 (cl : Nat → OpA) : EvS := (sSeq (sIf (tNotD (tVal (fApp (cl 14) (fCons (fVar 0) fNil)))) (sSeq sNo sNil) sNil) sNil)
theorem b15_eq (cl : Nat → OpA) : T.body d15 cl = b15 cl := by kernel_rfl
theorem r15 (k : Nat) (a0 : D) (μ : Store) : T.run (k + 1) 15 [a0] μ = fin μ (b15 (T.run k) [some a0] μ) := by
  rw [← b15_eq]
  rfl
def b16 (cl : Nat → OpA) : EvS := (sSeq (sIf (tBl (fBin dEq (fBin dIx (fVar 0) (fCon (.int (0)))) (fCon (.str "gap")))) (sSeq (sRet (fTup (fCons (fCon (.tup [.int (1), .int (1)])) (fCons (fBin dIx (fVar 0) (fCon (.int (1)))) (fCons (fCon (.tup [.int (0), .int (1)])) (fCons (fCon (.tup [.int (1), .int (1)])) fNil)))))) sNil) sNil) (sSeq (sRet (fTup (fCons (fCon (.tup [.int (1), .int (1)])) (fCons (fCon (.tup [.int (0), .int (1)])) (fCons (fApp (cl 7) (fCons (fCon (.tup [.int (0), .int (1)])) (fCons (fBin dIx (fVar 0) (fCon (.int (1)))) fNil))) (fCons (fCon (.tup [.int (1), .int (1)])) fNil)))))) sNil))
theorem b16_eq (cl : Nat → OpA) : T.body d16 cl = b16 cl := by kernel_rfl
theorem r16 (k : Nat) (a0 : D) (μ : Store) : T.run (k + 1) 16 [a0] μ = fin μ (b16 (T.run k) [some a0] μ) := by
  rw [← b16_eq]
  rfl
def b17 (cl : Nat → OpA) : EvS := (sSeq (sAsg (fVar 0) (gTup 4 (gCons (gName 2) (gCons (gName 3) (gCons (gName 4) (gCons (gName 5) gNil)))))) (sSeq (sAsg (fVar 1) (gTup 4 (gCons (gName 6) (gCons (gName 7) (gCons (gName 8) (gCons (gName 9) gNil)))))) (sSeq (sRet (fTup (fCons (fApp (cl 6) (fCons (fApp (cl 8) (fCons (fVar 2) (fCons (fVar 6) fNil))) (fCons (fApp (cl 8) (fCons (fVar 3) (fCons (fVar 8) fNil))) fNil))) (fCons (fApp (cl 6) (fCons (fApp (cl 8) (fCons (fVar 2) (fCons (fVar 7) fNil))) (fCons (fApp (cl 8) (fCons (fVar 3) (fCons (fVar 9) fNil))) fNil))) (fCons (fApp (cl 6) (fCons (fApp (cl 8) (fCons (fVar 4) (fCons (fVar 6) fNil))) (fCons (fApp (cl 8) (fCons (fVar 5) (fCons (fVar 8) fNil))) fNil))) (fCons (fApp (cl 6) (fCons (fApp (cl 8) (fCons (fVar 4) (fCons (fVar 7) fNil))) (fCons (fApp (cl 8) (fCons (fVar 5) (fCons (fVar 9) fNil))) fNil))) fNil)))))) sNil)))
theorem b17_eq (cl : Nat → OpA) : T.body d17 cl = b17 cl := by kernel_rfl
theorem r17 (k : Nat) (a0 a1 : D) (μ : Store) : T.run (k + 1) 17 [a0, a1] μ = fin μ (b17 (T.run k) [some a0, some a1, none, none, none, none, none, none, none, none] μ) := by
  rw [← b17_eq]
  rfl
def b18 (cl : Nat → OpA) : EvS := (sSeq (sAsg (fVar 0) (gTup 4 (gCons (gName 2) (gCons (gName 3) (gCons (gName 4) (gCons (gName 5) gNil)))))) (sSeq (sRet (fTup (fCons (fApp (cl 6) (fCons (fApp (cl 8) (fCons (fVar 2) (fCons (fBin dIx (fVar 1) (fCon (.int (0)))) fNil))) (fCons (fApp (cl 8) (fCons (fVar 3) (fCons (fBin dIx (fVar 1) (fCon (.int (1)))) fNil))) fNil))) (fCons (fApp (cl 6) (fCons (fApp (cl 8) (fCons (fVar 4) (fCons (fBin dIx (fVar 1) (fCon (.int (0)))) fNil))) (fCons (fApp (cl 8) (fCons (fVar 5) (fCons (fBin dIx (fVar 1) (fCon (.int (1)))) fNil))) fNil))) fNil)))) sNil))
theorem b18_eq (cl : Nat → OpA) : T.body d18 cl = b18 cl := by kernel_rfl
theorem r18 (k : Nat) (a0 a1 : D) (μ : Store) : T.run (k + 1) 18 [a0, a1] μ = fin μ (b18 (T.run k) [some a0, some a1, none, none, none, none] μ) := by
  rw [← b18_eq]
  rfl
def b19 (cl : Nat → OpA) : EvS := (sSeq (sDrop (fApp (cl 12) (fCons (fVar 0) fNil))) (sSeq (sDrop (fApp (cl 13) (fCons (fVar 1) fNil))) (sSeq (sAsg (fLst (fCons (fVar 1) fNil)) (gName 2)) (sSeq (sFor (iSeq (fVar 0)) (gName 3) (sSeq (sDrop (sApp (fVar 2) (fApp (cl 18) (fCons (fApp (cl 16) (fCons (fVar 3) fNil)) (fCons (fBin dIx (fVar 2) (fUn dNeg (fCon (.int (1))))) fNil))))) sNil)) (sSeq (sRet (fVar 2)) sNil)))))
theorem b19_eq (cl : Nat → OpA) : T.body d19 cl = b19 cl := by kernel_rfl
theorem r19 (k : Nat) (a0 a1 : D) (μ : Store) : T.run (k + 1) 19 [a0, a1] μ = fin μ (b19 (T.run k) [some a0, some a1, none, none] μ) := by
  rw [← b19_eq]
  rfl
def b20 (cl : Nat → OpA) : EvS := (sSeq (sDrop (fApp (cl 12) (fCons (fVar 0) fNil))) (sSeq (sAsg (fCon (.tup [.tup [.int (1), .int (1)], .tup [.int (0), .int (1)], .tup [.int (0), .int (1)], .tup [.int (1), .int (1)]])) (gName 1)) (sSeq (sFor (iSeq (fVar 0)) (gName 2) (sSeq (sAsg (fApp (cl 17) (fCons (fApp (cl 16) (fCons (fVar 2) fNil)) (fCons (fVar 1) fNil))) (gName 1)) sNil)) (sSeq (sRet (fVar 1)) sNil))))
theorem b20_eq (cl : Nat → OpA) : T.body d20 cl = b20 cl := by kernel_rfl
theorem r20 (k : Nat) (a0 : D) (μ : Store) : T.run (k + 1) 20 [a0] μ = fin μ (b20 (T.run k) [some a0, none, none] μ) := by
  rw [← b20_eq]
  rfl
def b21 (cl : Nat → OpA) : EvS := (sSeq (sDrop (fApp (cl 15) (fCons (fVar 0) fNil))) (sSeq (sDrop (fApp (cl 13) (fCons (fVar 1) fNil))) (sSeq (sRet (fApp (cl 18) (fCons (fVar 0) (fCons (fVar 1) fNil)))) sNil)))
theorem b21_eq (cl : Nat → OpA) : T.body d21 cl = b21 cl := by kernel_rfl
theorem r21 (k : Nat) (a0 a1 : D) (μ : Store) : T.run (k + 1) 21 [a0, a1] μ = fin μ (b21 (T.run k) [some a0, some a1] μ) := by
  rw [← b21_eq]
  rfl
def b22 (cl : Nat → OpA) : EvS := (sSeq (sDrop (fApp (cl 15) (fCons (fVar 0) fNil))) (sSeq (sDrop (fApp (cl 15) (fCons (fVar 1) fNil))) (sSeq (sRet (fApp (cl 17) (fCons (fVar 1) (fCons (fVar 0) fNil)))) sNil)))
theorem b22_eq (cl : Nat → OpA) : T.body d22 cl = b22 cl := by kernel_rfl
theorem r22 (k : Nat) (a0 a1 : D) (μ : Store) : T.run (k + 1) 22 [a0, a1] μ = fin μ (b22 (T.run k) [some a0, some a1] μ) := by
  rw [← b22_eq]
  rfl
def b23 (cl : Nat → OpA) : EvS := (sSeq (sDrop (fApp (cl 15) (fCons (fVar 0) fNil))) (sSeq (sRet (fTup (fCons (fBin dIx (fVar 0) (fCon (.int (3)))) (fCons (fApp (cl 7) (fCons (fCon (.tup [.int (0), .int (1)])) (fCons (fBin dIx (fVar 0) (fCon (.int (1)))) fNil))) (fCons (fApp (cl 7) (fCons (fCon (.tup [.int (0), .int (1)])) (fCons (fBin dIx (fVar 0) (fCon (.int (2)))) fNil))) (fCons (fBin dIx (fVar 0) (fCon (.int (0)))) fNil)))))) sNil))
theorem b23_eq (cl : Nat → OpA) : T.body d23 cl = b23 cl := by kernel_rfl
theorem r23 (k : Nat) (a0 : D) (μ : Store) : T.run (k + 1) 23 [a0] μ = fin μ (b23 (T.run k) [some a0] μ) := by
  rw [← b23_eq]
  rfl
def b24 (cl : Nat → OpA) : EvS := (sSeq (sDrop (fApp (cl 15) (fCons (fVar 0) fNil))) (sSeq (sIf (tOrD (tNotD (tVal (fApp (cl 2) (fCons (fVar 1) fNil)))) (tVal (fApp (cl 10) (fCons (fVar 1) (fCons (fCon (.tup [.int (0), .int (1)])) fNil))))) (sSeq sNo sNil) sNil) (sSeq (sAsg (fVar 0) (gTup 4 (gCons (gName 4) (gCons (gName 5) (gCons (gName 6) (gCons (gName 7) gNil)))))) (sSeq (sAsg (fApp (cl 6) (fCons (fApp (cl 8) (fCons (fVar 4) (fCons (fVar 1) fNil))) (fCons (fVar 5) fNil))) (gName 2)) (sSeq (sAsg (fApp (cl 6) (fCons (fApp (cl 8) (fCons (fVar 6) (fCons (fVar 1) fNil))) (fCons (fVar 7) fNil))) (gName 3)) (sSeq (sIf (tBl (fBin dEq (fVar 3) (fCon (.tup [.int (0), .int (1)])))) (sSeq (sRet (fTup (fCons (fCon (.str "far")) fNil))) sNil) sNil) (sSeq (sRet (fTup (fCons (fCon (.str "image")) (fCons (fApp (cl 7) (fCons (fCon (.tup [.int (0), .int (1)])) (fCons (fApp (cl 9) (fCons (fVar 2) (fCons (fVar 3) fNil))) fNil))) (fCons (fApp (cl 9) (fCons (fCon (.tup [.int (1), .int (1)])) (fCons (fVar 3) fNil))) fNil))))) sNil)))))))
theorem b24_eq (cl : Nat → OpA) : T.body d24 cl = b24 cl := by kernel_rfl
theorem r24 (k : Nat) (a0 a1 : D) (μ : Store) : T.run (k + 1) 24 [a0, a1] μ = fin μ (b24 (T.run k) [some a0, some a1, none, none, none, none, none, none] μ) := by
  rw [← b24_eq]
  rfl
def b25 (cl : Nat → OpA) : EvS := (sSeq (sAsg (fLst fNil) (gName 2)) (sSeq (sAsg (fCon (.int (7))) (gName 3)) (sSeq (sFor (iSeq (fSl (fVar 0) fPart0 (fPart (fCon (.int (63)))))) (gName 4) (sSeq (sAsg (fApp bAbs (fCons (fVar 4) fNil)) (gName 6)) (sSeq (sAsg (fBin dMod (fApp bInt (fCons (fBin dAdd (fBin dAdd (fBin dMul (fVar 3) (fCon (.int (48271)))) (fVar 6)) (fCon (.int (11)))) fNil)) (fCon (.int (2147483647)))) (gName 3)) (sSeq (sIf (tBl (fBin dGe (fVar 6) (fBin dPow (fCon (.int (10))) (fCon (.int (18)))))) (sSeq (sFor (iRng1 (fCons (fCon (.int (60))) fNil)) (gName 5) (sSeq (sIf (tBl (fBin dGt (fVar 6) (fCon (.int (0))))) (sSeq (sDrop (sApp (fVar 2) (fBin dMod (fApp bInt (fCons (fVar 6) fNil)) (fCon (.int (1009)))))) (sSeq (sAsg (fBin dDiv (fVar 6) (fCon (.int (1009)))) (gName 6)) sNil)) sNil) sNil)) sNil) (sSeq (sDrop (sApp (fVar 2) (fBin dMod (fBin dDiv (fApp bInt (fCons (fBin dAdd (fBin dMul (fVar 3) (fCon (.int (16807)))) (fCon (.int (5)))) fNil)) (fCon (.int (3)))) (fCon (.int (65521)))))) sNil)) sNil)))) (sSeq (sFor (iRng1 (fCons (fVar 1) fNil)) (gName 5) (sSeq (sIf (tBl (fBin dLt (fApp bLen (fCons (fVar 2) fNil)) (fVar 1))) (sSeq (sAsg (fBin dMod (fApp bInt (fCons (fBin dAdd (fBin dAdd (fBin dMul (fVar 3) (fCon (.int (69621)))) (fVar 5)) (fCon (.int (1)))) fNil)) (fCon (.int (2147483647)))) (gName 3)) (sSeq (sDrop (sApp (fVar 2) (fBin dMod (fBin dDiv (fApp bInt (fCons (fVar 3) fNil)) (fCon (.int (7)))) (fCon (.int (65521)))))) sNil)) sNil) sNil)) (sSeq (sRet (fSl (fVar 2) fPart0 (fPart (fVar 1)))) sNil)))))
theorem b25_eq (cl : Nat → OpA) : T.body d25 cl = b25 cl := by kernel_rfl
theorem r25 (k : Nat) (a0 a1 : D) (μ : Store) : T.run (k + 1) 25 [a0, a1] μ = fin μ (b25 (T.run k) [some a0, some a1, none, none, none, none, none] μ) := by
  rw [← b25_eq]
  rfl
def b26 (cl : Nat → OpA) : EvS := (sSeq (sAsg (fTup fNil) (gName 2)) (sSeq (sFor (iRng1 (fCons (fVar 1) fNil)) (gName 3) (sSeq (sAsg (fApp bInt (fCons (fBin dIx (fVar 0) (fBin dMul (fCon (.int (2))) (fVar 3))) fNil)) (gName 4)) (sSeq (sAsg (fApp (cl 5) (fCons (fBin dAdd (fCon (.int (1))) (fBin dMod (fVar 4) (fCon (.int (7))))) (fCons (fBin dAdd (fCon (.int (1))) (fBin dMod (fApp bInt (fCons (fBin dIx (fVar 0) (fBin dAdd (fBin dMul (fCon (.int (2))) (fVar 3)) (fCon (.int (1))))) fNil)) (fCon (.int (4))))) fNil))) (gName 5)) (sSeq (sIf (tBl (fBin dEq (fBin dMod (fBin dDiv (fVar 4) (fCon (.int (7)))) (fCon (.int (2)))) (fCon (.int (0))))) (sSeq (sAsg (fBin dAdd (fVar 2) (fTup (fCons (fTup (fCons (fCon (.str "gap")) (fCons (fVar 5) fNil))) fNil))) (gName 2)) sNil) (sSeq (sAsg (fBin dAdd (fVar 2) (fTup (fCons (fTup (fCons (fCon (.str "lens")) (fCons (fIte (tBl (fBin dEq (fBin dMod (fBin dDiv (fVar 4) (fCon (.int (14)))) (fCon (.int (2)))) (fCon (.int (0))))) (fVar 5) (fApp (cl 7) (fCons (fTup (fCons (fCon (.int (0))) (fCons (fCon (.int (1))) fNil))) (fCons (fVar 5) fNil)))) fNil))) fNil))) (gName 2)) sNil)) sNil)))) (sSeq (sRet (fVar 2)) sNil)))
theorem b26_eq (cl : Nat → OpA) : T.body d26 cl = b26 cl := by kernel_rfl
theorem r26 (k : Nat) (a0 a1 : D) (μ : Store) : T.run (k + 1) 26 [a0, a1] μ = fin μ (b26 (T.run k) [some a0, some a1, none, none, none, none] μ) := by
  rw [← b26_eq]
  rfl
def b27 (cl : Nat → OpA) : EvS := (sSeq (sAsg (fApp (cl 25) (fCons (fVar 0) (fCons (fCon (.int (300))) fNil))) (gName 1)) (sSeq (sFor (iRng1 (fCons (fCon (.int (6))) fNil)) (gName 2) (sSeq (sAsg (fLc (iRng1 (fCons (fCon (.int (2))) fNil)) (gName 20) tYesD (fApp (cl 26) (fCons (fSl (fVar 1) (fPart (fBin dAdd (fBin dAdd (fCon (.int (10))) (fBin dMul (fCon (.int (40))) (fVar 2))) (fBin dMul (fCon (.int (18))) (fVar 20)))) fPart0) (fCons (fBin dMod (fApp bInt (fCons (fBin dIx (fVar 1) (fBin dAdd (fVar 2) (fVar 20))) fNil)) (fCon (.int (9)))) fNil))) [20]) (gTup 2 (gCons (gName 10) (gCons (gName 11) gNil)))) (sSeq (sPar 12 13 (fCons (fApp (cl 20) (fCons (fVar 10) fNil)) (fCons (fApp (cl 20) (fCons (fVar 11) fNil)) fNil))) (sSeq (sAsg (fApp (cl 20) (fCons (fBin dAdd (fVar 10) (fVar 11)) fNil)) (gName 3)) (sSeq (sIf (tOrD (tBl (fBin dNe (fVar 3) (fApp (cl 22) (fCons (fVar 12) (fCons (fVar 13) fNil))))) (tBl (fBin dNe (fApp (cl 7) (fCons (fApp (cl 8) (fCons (fBin dIx (fVar 3) (fCon (.int (0)))) (fCons (fBin dIx (fVar 3) (fCon (.int (3)))) fNil))) (fCons (fApp (cl 8) (fCons (fBin dIx (fVar 3) (fCon (.int (1)))) (fCons (fBin dIx (fVar 3) (fCon (.int (2)))) fNil))) fNil))) (fTup (fCons (fCon (.int (1))) (fCons (fCon (.int (1))) fNil)))))) (sSeq (sRet (fCon (.bl false))) sNil) sNil) (sSeq (sAsg (fVar 12) (gTup 4 (gCons (gName 14) (gCons (gName 15) (gCons (gName 16) (gCons (gName 17) gNil)))))) (sSeq (sIf (tOrD (tBl (fBin dNe (fApp (cl 20) (fCons (fUn dRev (fVar 10)) fNil)) (fTup (fCons (fVar 17) (fCons (fVar 15) (fCons (fVar 16) (fCons (fVar 14) fNil))))))) (tOrD (tBl (fBin dNe (fApp (cl 22) (fCons (fVar 12) (fCons (fApp (cl 23) (fCons (fVar 12) fNil)) fNil))) (fTup (fCons (fTup (fCons (fCon (.int (1))) (fCons (fCon (.int (1))) fNil))) (fCons (fTup (fCons (fCon (.int (0))) (fCons (fCon (.int (1))) fNil))) (fCons (fTup (fCons (fCon (.int (0))) (fCons (fCon (.int (1))) fNil))) (fCons (fTup (fCons (fCon (.int (1))) (fCons (fCon (.int (1))) fNil))) fNil))))))) (tBl (fBin dNe (fApp (cl 23) (fCons (fApp (cl 23) (fCons (fVar 12) fNil)) fNil)) (fVar 12))))) (sSeq (sRet (fCon (.bl false))) sNil) sNil) (sSeq (sIf (tOrD (tBl (fBin dNe (fApp (cl 23) (fCons (fVar 3) fNil)) (fApp (cl 22) (fCons (fApp (cl 23) (fCons (fVar 13) fNil)) (fCons (fApp (cl 23) (fCons (fVar 12) fNil)) fNil))))) (tBl (fBin dNe (fApp (cl 20) (fCons (fTup fNil) fNil)) (fTup (fCons (fTup (fCons (fCon (.int (1))) (fCons (fCon (.int (1))) fNil))) (fCons (fTup (fCons (fCon (.int (0))) (fCons (fCon (.int (1))) fNil))) (fCons (fTup (fCons (fCon (.int (0))) (fCons (fCon (.int (1))) fNil))) (fCons (fTup (fCons (fCon (.int (1))) (fCons (fCon (.int (1))) fNil))) fNil)))))))) (sSeq (sRet (fCon (.bl false))) sNil) sNil) (sSeq (sAsg (fTup (fCons (fApp (cl 5) (fCons (fBin dSub (fBin dMod (fApp bInt (fCons (fBin dIx (fVar 1) (fBin dAdd (fCon (.int (260))) (fVar 2))) fNil)) (fCon (.int (11)))) (fCon (.int (5)))) (fCons (fBin dAdd (fCon (.int (1))) (fBin dMod (fApp bInt (fCons (fBin dIx (fVar 1) (fBin dAdd (fCon (.int (265))) (fVar 2))) fNil)) (fCon (.int (3))))) fNil))) (fCons (fApp (cl 5) (fCons (fBin dSub (fBin dMod (fApp bInt (fCons (fBin dIx (fVar 1) (fBin dAdd (fCon (.int (270))) (fVar 2))) fNil)) (fCon (.int (9)))) (fCon (.int (4)))) (fCons (fBin dAdd (fCon (.int (1))) (fBin dMod (fApp bInt (fCons (fBin dIx (fVar 1) (fBin dAdd (fCon (.int (275))) (fVar 2))) fNil)) (fCon (.int (3))))) fNil))) fNil))) (gName 4)) (sSeq (sAsg (fApp (cl 19) (fCons (fBin dAdd (fVar 10) (fVar 11)) (fCons (fVar 4) fNil))) (gName 5)) (sSeq (sIf (tOrD (tBl (fBin dNe (fSl (fVar 5) fPart0 (fPart (fBin dAdd (fApp bLen (fCons (fVar 10) fNil)) (fCon (.int (1)))))) (fApp (cl 19) (fCons (fVar 10) (fCons (fVar 4) fNil))))) (tOrD (tBl (fBin dNe (fSl (fVar 5) (fPart (fApp bLen (fCons (fVar 10) fNil))) fPart0) (fApp (cl 19) (fCons (fVar 11) (fCons (fBin dIx (fVar 5) (fApp bLen (fCons (fVar 10) fNil))) fNil))))) (tOrD (tBl (fBin dNe (fBin dIx (fVar 5) (fUn dNeg (fCon (.int (1))))) (fApp (cl 21) (fCons (fVar 3) (fCons (fVar 4) fNil))))) (tBl (fBin dNe (fApp (cl 21) (fCons (fVar 13) (fCons (fApp (cl 21) (fCons (fVar 12) (fCons (fVar 4) fNil))) fNil))) (fBin dIx (fVar 5) (fUn dNeg (fCon (.int (1)))))))))) (sSeq (sRet (fCon (.bl false))) sNil) sNil) (sSeq (sIf (tBl (fBin dNe (fApp (cl 21) (fCons (fApp (cl 23) (fCons (fVar 12) fNil)) (fCons (fApp (cl 21) (fCons (fVar 12) (fCons (fVar 4) fNil))) fNil))) (fVar 4))) (sSeq (sRet (fCon (.bl false))) sNil) sNil) (sSeq (sAsg (fApp (cl 5) (fCons (fBin dAdd (fCon (.int (1))) (fBin dMod (fApp bInt (fCons (fBin dIx (fVar 1) (fBin dAdd (fCon (.int (280))) (fVar 2))) fNil)) (fCon (.int (40))))) (fCons (fBin dAdd (fCon (.int (1))) (fBin dMod (fApp bInt (fCons (fBin dIx (fVar 1) (fBin dAdd (fCon (.int (285))) (fVar 2))) fNil)) (fCon (.int (3))))) fNil))) (gName 6)) (sSeq (sAsg (fApp (cl 5) (fCons (fBin dMod (fApp bInt (fCons (fBin dIx (fVar 1) (fBin dAdd (fCon (.int (290))) (fVar 2))) fNil)) (fCon (.int (12)))) (fCons (fBin dAdd (fCon (.int (1))) (fBin dMod (fApp bInt (fCons (fBin dIx (fVar 1) (fBin dAdd (fCon (.int (293))) (fVar 2))) fNil)) (fCon (.int (2))))) fNil))) (gName 7)) (sSeq (sAsg (fApp (cl 24) (fCons (fVar 12) (fCons (fVar 7) fNil))) (gName 8)) (sSeq (sIf (tAndD (tBl (fBin dEq (fBin dIx (fVar 8) (fCon (.int (0)))) (fCon (.str "image")))) (tNotD (tVal (fApp (cl 10) (fCons (fVar 6) (fCons (fBin dIx (fVar 8) (fCon (.int (1)))) fNil)))))) (sSeq (sAsg (fApp (cl 24) (fCons (fVar 13) (fCons (fApp (cl 7) (fCons (fVar 6) (fCons (fBin dIx (fVar 8) (fCon (.int (1)))) fNil))) fNil))) (gName 18)) (sSeq (sAsg (fApp (cl 24) (fCons (fApp (cl 20) (fCons (fBin dAdd (fBin dAdd (fVar 10) (fTup (fCons (fTup (fCons (fCon (.str "gap")) (fCons (fVar 6) fNil))) fNil))) (fVar 11)) fNil)) (fCons (fVar 7) fNil))) (gName 19)) (sSeq (sIf (tOrD (tBl (fBin dNe (fBin dIx (fVar 19) (fCon (.int (0)))) (fBin dIx (fVar 18) (fCon (.int (0)))))) (tAndD (tBl (fBin dEq (fBin dIx (fVar 19) (fCon (.int (0)))) (fCon (.str "image")))) (tOrD (tBl (fBin dNe (fBin dIx (fVar 19) (fCon (.int (1)))) (fBin dIx (fVar 18) (fCon (.int (1)))))) (tBl (fBin dNe (fBin dIx (fVar 19) (fCon (.int (2)))) (fApp (cl 8) (fCons (fBin dIx (fVar 8) (fCon (.int (2)))) (fCons (fBin dIx (fVar 18) (fCon (.int (2)))) fNil)))))))) (sSeq (sRet (fCon (.bl false))) sNil) sNil) sNil))) sNil) (sSeq (sFor (iSeq (fTup (fCons (fCon (.str "gap")) (fCons (fCon (.str "lens")) fNil)))) (gName 9) (sSeq (sIf (tBl (fBin dNe (fApp (cl 20) (fCons (fBin dAdd (fTup (fCons (fTup (fCons (fVar 9) (fCons (fVar 6) fNil))) (fCons (fTup (fCons (fVar 9) (fCons (fVar 6) fNil))) fNil))) (fVar 10)) fNil)) (fApp (cl 20) (fCons (fBin dAdd (fTup (fCons (fTup (fCons (fVar 9) (fCons (fApp (cl 6) (fCons (fVar 6) (fCons (fVar 6) fNil))) fNil))) fNil)) (fVar 10)) fNil)))) (sSeq (sRet (fCon (.bl false))) sNil) sNil) sNil)) (sSeq (sIf (tBl (fBin dNe (fApp (cl 20) (fCons (fBin dAdd (fVar 10) (fTup (fCons (fTup (fCons (fCon (.str "lens")) (fCons (fVar 6) fNil))) (fCons (fTup (fCons (fCon (.str "lens")) (fCons (fApp (cl 7) (fCons (fTup (fCons (fCon (.int (0))) (fCons (fCon (.int (1))) fNil))) (fCons (fVar 6) fNil))) fNil))) fNil)))) fNil)) (fVar 12))) (sSeq (sRet (fCon (.bl false))) sNil) sNil) sNil)))))))))))))))))) (sSeq (sRet (fCon (.bl true))) sNil)))
theorem b27_eq (cl : Nat → OpA) : T.body d27 cl = b27 cl := by kernel_rfl
theorem r27 (k : Nat) (a0 : D) (μ : Store) : T.run (k + 1) 27 [a0] μ = fin μ (b27 (T.run k) [some a0, none, none, none, none, none, none, none, none, none, none, none, none, none, none, none, none, none, none, none, none] μ) := by
  rw [← b27_eq]
  rfl
end K05
end

section
set_option Elab.async false
set_option linter.all false
set_option maxRecDepth 100000
set_option maxHeartbeats 4000000
set_option exponentiation.threshold 20000
namespace K05
open PySem Mini
open L2 (atI ixN)

/-- a fraction as data -/
def rd (r : Rat) : D := .tup [.int r.num, .int (r.den : Int)]

/-! ### is_integer -/
@[simp] theorem run_int (k : Nat) (i : Int) (μ : Store) : T.run (k + 1) 0 [.int i] μ = some (.bl true, μ) := by
  rw [r0]
  simp [b0, sSeq, sRet, fAnd, fApp, fCons, fNil, fVar, fCon, bIsi, fUn, dNot, tyOf, subTy]
/-! ### _divisor -/
theorem gcd_loop (cl : Nat → OpA) (x0 x1 : D) (μ : Store) : ∀ (n : Nat) (b a : Nat), b < n →
    whileF (tBl (fBin dGt (fVar 3) (fCon (.int 0)))) (sSeq (sPar 2 3 (fCons (fVar 3) (fCons (fBin dMod (fVar 2) (fVar 3)) fNil))) sNil) n [some x0, some x1, some (.int a), some (.int b)] μ =
      some (.nx [some x0, some x1, some (.int (Nat.gcd a b)), some (.int 0)] μ)
  | 0, b, a, h => absurd h (Nat.not_lt_zero _)
  | n + 1, b, a, h => by
    unfold whileF
    by_cases hb : b = 0
    · subst hb
      simp [tBl, fBin, fVar, fCon, dGt, mapB]
    · have hb' : (0 : Int) < (b : Int) := by omega
      have ih := gcd_loop cl x0 x1 μ n (a % b) b (by have := Nat.mod_lt a (Nat.pos_of_ne_zero hb); omega)
      have e1 : ((a : Int) % (b : Int)) = ((a % b : Nat) : Int) := by omega
      simp only [tBl, fBin, fVar, fCon, dGt, mapB, List.getElem?_cons_succ, List.getElem?_cons_zero, hb', decide_true, sSeq, sPar, fCons, fNil, dMod, if_true, List.set_cons_succ, List.set_cons_zero, sNil, e1]
      rw [show Nat.gcd a b = Nat.gcd b (a % b) by rw [Nat.gcd_comm a b, Nat.gcd_rec b a, Nat.gcd_comm]]
      exact ih

theorem run_div (k : Nat) (a b : Int) (μ : Store) (hb : b.natAbs < 2 ^ 9000) : T.run (k + 1) 1 [.int a, .int b] μ = some (.int (Int.gcd a b : Nat), μ) := by
  have hf : b.natAbs < fuel := Nat.lt_trans hb (by unfold fuel; exact Nat.pow_lt_pow_right (by decide) (by decide))
  rw [r1]
  simp only [b1, sSeq, sPar, fCons, fApp, fNil, fVar, bAbs, List.getElem?_cons_succ, List.getElem?_cons_zero, List.set_cons_succ, List.set_cons_zero, sWhile]
  rw [gcd_loop (T.run k) _ _ μ fuel b.natAbs a.natAbs hf]
  simp [sRet, fVar, Int.gcd]
/-! ### is_ratio -/
@[simp] theorem run_isr (k : Nat) (r : Rat) (μ : Store) (hb : r.den < 2 ^ 9000) : T.run (k + 2) 2 [rd r] μ = some (.bl true, μ) := by
  have h1 : (0 : Int) < (r.den : Int) := by have := r.den_pos; omega
  have hg : Int.gcd r.num (r.den : Int) = 1 := r.reduced
  rw [r2]
  have hd : T.run (k + 1) 1 [.int r.num, .int (r.den : Int)] μ = some (.int (Int.gcd r.num (r.den : Int) : Nat), μ) := run_div k _ _ μ (by rw [Int.natAbs_natCast]; exact hb)
  have a0 : atI [D.int r.num, D.int (r.den : Int)] 0 = some (.int r.num) := rfl
  have a1 : atI [D.int r.num, D.int (r.den : Int)] 1 = some (.int (r.den : Int)) := rfl
  simp [b2, rd, sSeq, sIf, tOrD, tNotD, tVal, tBl, fApp, fCons, fNil, fVar, fCon, bIsi, tyOf, subTy, truD, fBin, dNe, dEq, mapB, bLen, seqOf, eqD_int, dIx, a0, a1, sNil, sRet, fAnd, dGt, r.den_pos, hd, hg]

/-! ### _lowest, ratio -/
theorem low_pos {a b : Int} (hb : 0 < b) : rd (Rat.divInt a b) = .tup [.int (a / (Int.gcd a b : Nat)), .int (b / (Int.gcd a b : Nat))] := by
  have h1 : (Rat.divInt a b).num = a / (Int.gcd a b : Nat) := by
    rw [Rat.num_divInt, Int.sign_eq_one_of_pos hb, Int.one_mul, Int.gcd_comm]
  have h2 : ((Rat.divInt a b).den : Int) = b / (Int.gcd a b : Nat) := by
    rw [Rat.den_divInt, if_neg (by omega), Int.gcd_comm]
    have e : ((b.natAbs / Int.gcd a b : Nat) : Int) = ((b.natAbs : Nat) : Int) / ((Int.gcd a b : Nat) : Int) := by simp
    rw [e]
    congr 1
    omega
  rw [rd, h1, h2]
theorem low_neg {a b : Int} (hb : b < 0) : rd (Rat.divInt a b) = .tup [.int (0 - a / (Int.gcd a b : Nat)), .int (0 - b / (Int.gcd a b : Nat))] := by
  have hda : ((Int.gcd a b : Nat) : Int) ∣ a := Int.gcd_dvd_left ..
  have hdb : ((Int.gcd a b : Nat) : Int) ∣ b := Int.gcd_dvd_right ..
  have h1 : (Rat.divInt a b).num = 0 - a / (Int.gcd a b : Nat) := by
    rw [Rat.num_divInt, Int.sign_eq_neg_one_of_neg hb, Int.gcd_comm, Int.neg_one_mul, Int.neg_ediv_of_dvd hda]
    omega
  have h2 : ((Rat.divInt a b).den : Int) = 0 - b / (Int.gcd a b : Nat) := by
    rw [Rat.den_divInt, if_neg (by omega), Int.gcd_comm]
    have e : ((b.natAbs / Int.gcd a b : Nat) : Int) = ((b.natAbs : Nat) : Int) / ((Int.gcd a b : Nat) : Int) := by simp
    rw [e]
    have e2 : ((b.natAbs : Nat) : Int) = -b := by omega
    rw [e2, Int.neg_ediv_of_dvd hdb]
    omega
  rw [rd, h1, h2]
theorem run_low (k : Nat) (a b : Int) (μ : Store) (h0 : b ≠ 0) (hb : b.natAbs < 2 ^ 8000) : T.run (k + 2) 4 [.int a, .int b] μ = some (rd (Rat.divInt a b), μ) := by
  have hg0 : 0 < Int.gcd a b := Int.gcd_pos_of_ne_zero_right a h0
  have hgl : Int.gcd a b ≤ b.natAbs := Nat.le_of_dvd (by omega) (Int.natAbs_dvd_natAbs.mpr (Int.gcd_dvd_right a b))
  have hbt : bits ((Int.gcd a b : Nat) : Int) 8000 = true := by
    unfold bits
    rw [Int.natAbs_natCast]
    exact decide_eq_true (Nat.lt_of_le_of_lt hgl hb)
  have hd : T.run (k + 1) 1 [.int a, .int b] μ = some (.int (Int.gcd a b : Nat), μ) := run_div k _ _ μ (Nat.lt_trans hb (Nat.pow_lt_pow_right (by decide) (by decide)))
  have hgi : (0 : Int) < ((Int.gcd a b : Nat) : Int) := by omega
  rw [r4]
  by_cases hp : 0 < b
  · rw [low_pos hp]
    simp only [b4, sSeq, sAsg, fApp, fCons, fNil, fVar, List.getElem?_cons_succ, List.getElem?_cons_zero, hd, gName, List.set_cons_succ, List.set_cons_zero, sRet, fIte, tBl, fBin, fCon, dGt, mapB, hp, decide_true, fTup, dDiv, hgi, hbt, and_self, if_true]
    simp [seqMax]
  · have hn : b < 0 := by omega
    rw [low_neg hn]
    simp only [b4, sSeq, sAsg, fApp, fCons, fNil, fVar, List.getElem?_cons_succ, List.getElem?_cons_zero, hd, gName, List.set_cons_succ, List.set_cons_zero, sRet, fIte, tBl, fBin, fCon, dGt, mapB, hp, decide_false, fTup, dDiv, hgi, hbt, and_self, if_true, dSub]
    simp [seqMax]
theorem run_ratio (k : Nat) (a b : Int) (μ : Store) (h0 : b ≠ 0) (hb : b.natAbs < 2 ^ 8000) : T.run (k + 3) 5 [.int a, .int b] μ = some (rd (Rat.divInt a b), μ) := by
  rw [r5]
  simp [b5, sSeq, sIf, tOrD, tNotD, tVal, tBl, fApp, fCons, fNil, fVar, fCon, truD, fBin, dEq, mapB, eqD_int, sNil, sRet, h0, run_low k a b μ h0 hb]

/-! ### the four rules -/
theorem pow_mul_lt {a b : Nat} (ha : a < 2 ^ 4000) (hb : b < 2 ^ 4000) : a * b < 2 ^ 8000 := by
  have h : a * b < 2 ^ 4000 * 2 ^ 4000 := Nat.mul_lt_mul'' ha hb
  rw [← Nat.pow_add] at h
  exact h
/-- small enough -/
structure Sm (r : Rat) : Prop where
  num : r.num.natAbs < 2 ^ 4000
  den : r.den < 2 ^ 4000
theorem Sm.bn {r : Rat} (h : Sm r) : bits r.num 9000 = true := decide_eq_true (Nat.lt_trans h.num (Nat.pow_lt_pow_right (by decide) (by decide)))
theorem Sm.bd {r : Rat} (h : Sm r) : bits (r.den : Int) 9000 = true := decide_eq_true (by rw [Int.natAbs_natCast]; exact Nat.lt_trans h.den (Nat.pow_lt_pow_right (by decide) (by decide)))
theorem Sm.d9 {r : Rat} (h : Sm r) : r.den < 2 ^ 9000 := Nat.lt_trans h.den (Nat.pow_lt_pow_right (by decide) (by decide))
theorem Sm.dd {r s : Rat} (h : Sm r) (g : Sm s) : ((r.den : Int) * (s.den : Int)).natAbs < 2 ^ 8000 := by
  rw [Int.natAbs_mul, Int.natAbs_natCast, Int.natAbs_natCast]
  exact pow_mul_lt h.den g.den
theorem den0 (r s : Rat) : (r.den : Int) * (s.den : Int) ≠ 0 := Int.mul_ne_zero (by have := r.den_pos; omega) (by have := s.den_pos; omega)
theorem run_chk (k : Nat) (r s : Rat) (μ : Store) (hr : Sm r) (hs : Sm s) : T.run (k + 3) 3 [rd r, rd s] μ = some (.non, μ) := by
  rw [r3]
  simp [b3, sSeq, sIf, tOrD, tNotD, tVal, fApp, fCons, fNil, fVar, truD, sNil, run_isr k r μ hr.d9, run_isr k s μ hs.d9]
theorem add_eq (r s : Rat) : Rat.divInt (r.num * (s.den : Int) + s.num * (r.den : Int)) ((r.den : Int) * (s.den : Int)) = r + s := by
  rw [Rat.add_def', ← Rat.divInt_ofNat]
  push_cast
  rfl
theorem sub_eq (r s : Rat) : Rat.divInt (r.num * (s.den : Int) - s.num * (r.den : Int)) ((r.den : Int) * (s.den : Int)) = r - s := by
  rw [Rat.sub_def', ← Rat.divInt_ofNat]
  push_cast
  rfl
theorem mul_eq (r s : Rat) : Rat.divInt (r.num * s.num) ((r.den : Int) * (s.den : Int)) = r * s := by
  rw [Rat.mul_def', ← Rat.divInt_ofNat]
  push_cast
  rfl
theorem ix0 (a b : D) : atI [a, b] 0 = some a := rfl
theorem ix1 (a b : D) : atI [a, b] 1 = some b := rfl
theorem run_plus (k : Nat) (r s : Rat) (μ : Store) (hr : Sm r) (hs : Sm s) : T.run (k + 4) 6 [rd r, rd s] μ = some (rd (r + s), μ) := by
  have h1 := run_chk k r s μ hr hs
  have h2 := run_low (k + 1) (r.num * (s.den : Int) + s.num * (r.den : Int)) _ μ (den0 r s) (hr.dd hs)
  rw [add_eq] at h2
  rw [r6]
  simp only [b6, sSeq, sDrop, fApp, fCons, fNil, fVar, List.getElem?_cons_succ, List.getElem?_cons_zero, h1, sRet, fBin, fCon]
  simp only [rd] at h2 ⊢
  simp only [dIx, ix0, ix1, Option.map_some, dMul, hr.bn, hr.bd, hs.bn, hs.bd, Bool.and_self, if_true, dAdd, h2, fin_ret]
theorem run_minus (k : Nat) (r s : Rat) (μ : Store) (hr : Sm r) (hs : Sm s) : T.run (k + 4) 7 [rd r, rd s] μ = some (rd (r - s), μ) := by
  have h1 := run_chk k r s μ hr hs
  have h2 := run_low (k + 1) (r.num * (s.den : Int) - s.num * (r.den : Int)) _ μ (den0 r s) (hr.dd hs)
  rw [sub_eq] at h2
  rw [r7]
  simp only [b7, sSeq, sDrop, fApp, fCons, fNil, fVar, List.getElem?_cons_succ, List.getElem?_cons_zero, h1, sRet, fBin, fCon]
  simp only [rd] at h2 ⊢
  simp only [dIx, ix0, ix1, Option.map_some, dMul, hr.bn, hr.bd, hs.bn, hs.bd, Bool.and_self, if_true, dSub, h2, fin_ret]
theorem run_times (k : Nat) (r s : Rat) (μ : Store) (hr : Sm r) (hs : Sm s) : T.run (k + 4) 8 [rd r, rd s] μ = some (rd (r * s), μ) := by
  have h1 := run_chk k r s μ hr hs
  have h2 := run_low (k + 1) (r.num * s.num) _ μ (den0 r s) (hr.dd hs)
  rw [mul_eq] at h2
  rw [r8]
  simp only [b8, sSeq, sDrop, fApp, fCons, fNil, fVar, List.getElem?_cons_succ, List.getElem?_cons_zero, h1, sRet, fBin, fCon]
  simp only [rd] at h2 ⊢
  simp only [dIx, ix0, ix1, Option.map_some, dMul, hr.bn, hr.bd, hs.bn, hs.bd, Bool.and_self, if_true, h2, fin_ret]
theorem div_eq (r s : Rat) (h : s ≠ 0) : Rat.divInt (r.num * (s.den : Int)) ((r.den : Int) * s.num) = r / s := by
  have h1 : r = Rat.divInt r.num (r.den : Int) := (Rat.num_divInt_den r).symm
  have h2 : s⁻¹ = Rat.divInt (s.den : Int) s.num := Rat.inv_def s
  rw [Rat.div_def, h2]
  conv => rhs; lhs; rw [h1]
  rw [Rat.divInt_mul_divInt]
theorem run_over (k : Nat) (r s : Rat) (μ : Store) (hr : Sm r) (hs : Sm s) (h : s ≠ 0) : T.run (k + 4) 9 [rd r, rd s] μ = some (rd (r / s), μ) := by
  have h1 := run_chk k r s μ hr hs
  have hn : s.num ≠ 0 := fun e => h (Rat.num_eq_zero.mp e)
  have h0 : (r.den : Int) * s.num ≠ 0 := Int.mul_ne_zero (by have := r.den_pos; omega) hn
  have h2 := run_low (k + 1) (r.num * (s.den : Int)) ((r.den : Int) * s.num) μ h0 (by
    rw [Int.natAbs_mul, Int.natAbs_natCast]
    exact pow_mul_lt hr.den hs.num)
  rw [div_eq r s h] at h2
  rw [r9]
  simp only [b9, sSeq, sDrop, fApp, fCons, fNil, fVar, List.getElem?_cons_succ, List.getElem?_cons_zero, h1, sRet, fBin, fCon]
  simp only [rd] at h2 ⊢
  simp only [dIx, ix0, ix1, Option.map_some, dMul, hr.bn, hr.bd, hs.bn, hs.bd, Bool.and_self, if_true, h2, fin_ret, sIf, tBl, fBin, fVar, List.getElem?_cons_succ, List.getElem?_cons_zero, fCon, dEq, mapB, eqD_int, hn, decide_false, sNil]
theorem run_less (k : Nat) (r s : Rat) (μ : Store) (hr : Sm r) (hs : Sm s) : T.run (k + 4) 10 [rd r, rd s] μ = some (.bl (decide (r < s)), μ) := by
  have h1 := run_chk k r s μ hr hs
  have h2 : decide (r.num * (s.den : Int) < s.num * (r.den : Int)) = decide (r < s) := by
    rw [decide_eq_decide]
    exact (Rat.lt_iff r s).symm
  rw [r10]
  simp only [b10, sSeq, sDrop, fApp, fCons, fNil, fVar, List.getElem?_cons_succ, List.getElem?_cons_zero, h1, sRet, fBin, fCon]
  simp only [rd]
  simp only [dIx, ix0, ix1, Option.map_some, dMul, hr.bn, hr.bd, hs.bn, hs.bd, Bool.and_self, if_true, dLt, mapB, fin_ret, h2]
end K05
end

section
set_option Elab.async false
set_option linter.all false
set_option maxRecDepth 100000
set_option maxHeartbeats 4000000
set_option exponentiation.threshold 20000
namespace K05
open PySem Mini
open L2 (atI ixN)

/-! ### sizes -/
structure Bd (n : Nat) (r : Rat) : Prop where
  num : r.num.natAbs ≤ 2 ^ n
  den : r.den ≤ 2 ^ n
theorem Bd.mono {n m : Nat} {r : Rat} (h : Bd n r) (l : n ≤ m) : Bd m r := ⟨Nat.le_trans h.num (Nat.pow_le_pow_right (by decide) l), Nat.le_trans h.den (Nat.pow_le_pow_right (by decide) l)⟩
theorem Bd.sm {n : Nat} {r : Rat} (h : Bd n r) (l : n < 4000) : Sm r :=
  ⟨Nat.lt_of_le_of_lt h.num (Nat.pow_lt_pow_right (by decide) l), Nat.lt_of_le_of_lt h.den (Nat.pow_lt_pow_right (by decide) l)⟩
/-- a quotient is no greater than its parts -/
theorem bd_div {n : Nat} {a b : Int} (h0 : b ≠ 0) (ha : a.natAbs ≤ 2 ^ n) (hb : b.natAbs ≤ 2 ^ n) : Bd n (Rat.divInt a b) := by
  refine ⟨?_, ?_⟩
  · rw [Rat.num_divInt]
    refine Nat.le_trans ?_ ha
    rw [Int.natAbs_ediv_of_dvd (Int.dvd_mul_of_dvd_right (Int.gcd_dvd_right b a)) , Int.natAbs_mul]
    refine Nat.le_trans (Nat.div_le_self _ _) ?_
    have : b.sign.natAbs = 1 := Int.natAbs_sign_of_ne_zero h0
    rw [this, Nat.one_mul]
    exact Nat.le_refl _
  · rw [Rat.den_divInt, if_neg h0]
    exact Nat.le_trans (Nat.div_le_self _ _) hb
theorem Bd.mul {n m : Nat} {r s : Rat} (h : Bd n r) (g : Bd m s) : Bd (n + m) (r * s) := by
  rw [← mul_eq]
  refine bd_div (den0 r s) ?_ ?_
  · rw [Int.natAbs_mul, Nat.pow_add]
    exact Nat.mul_le_mul h.num g.num
  · rw [Int.natAbs_mul, Int.natAbs_natCast, Int.natAbs_natCast, Nat.pow_add]
    exact Nat.mul_le_mul h.den g.den
theorem Bd.add {n m : Nat} {r s : Rat} (h : Bd n r) (g : Bd m s) : Bd (n + m + 1) (r + s) := by
  rw [← add_eq]
  have h1 : 2 ^ (n + m + 1) = 2 ^ n * 2 ^ m + 2 ^ m * 2 ^ n := by
    rw [Nat.pow_succ, Nat.pow_add, Nat.mul_comm (2 ^ m)]
    omega
  refine bd_div (den0 r s) ?_ ?_
  · rw [h1]
    refine Nat.le_trans (Int.natAbs_add_le _ _) ?_
    rw [Int.natAbs_mul, Int.natAbs_mul, Int.natAbs_natCast, Int.natAbs_natCast]
    exact Nat.add_le_add (Nat.mul_le_mul h.num g.den) (Nat.mul_le_mul g.num h.den)
  · rw [Int.natAbs_mul, Int.natAbs_natCast, Int.natAbs_natCast, h1]
    exact Nat.le_trans (Nat.mul_le_mul h.den g.den) (Nat.le_add_right _ _)
theorem Bd.neg {n : Nat} {r : Rat} (h : Bd n r) : Bd n (-r) := ⟨by rw [Rat.neg_num, Int.natAbs_neg]; exact h.num, h.den⟩
theorem Bd.sub {n m : Nat} {r s : Rat} (h : Bd n r) (g : Bd m s) : Bd (n + m + 1) (r - s) := by
  rw [Rat.sub_eq_add_neg]
  exact h.add g.neg
theorem Bd.div {n m : Nat} {r s : Rat} (h : Bd n r) (g : Bd m s) (h0 : s ≠ 0) : Bd (n + m) (r / s) := by
  rw [← div_eq r s h0]
  have hn : s.num ≠ 0 := fun e => h0 (Rat.num_eq_zero.mp e)
  refine bd_div (Int.mul_ne_zero (by have := r.den_pos; omega) hn) ?_ ?_
  · rw [Int.natAbs_mul, Int.natAbs_natCast, Nat.pow_add]
    exact Nat.mul_le_mul h.num g.den
  · rw [Int.natAbs_mul, Int.natAbs_natCast, Nat.pow_add]
    exact Nat.mul_le_mul h.den g.num
theorem bd_zero (n : Nat) : Bd n 0 := ⟨Nat.zero_le _, Nat.one_le_two_pow⟩
theorem bd_one (n : Nat) : Bd n 1 := ⟨Nat.one_le_two_pow, Nat.one_le_two_pow⟩

/-! ### matrices -/
structure Mx where
  a : Rat
  b : Rat
  c : Rat
  d : Rat
deriving DecidableEq
theorem Mx.ext' {m n : Mx} (h1 : m.a = n.a) (h2 : m.b = n.b) (h3 : m.c = n.c) (h4 : m.d = n.d) : m = n := by
  cases m; cases n; simp_all
def md (m : Mx) : D := .tup [rd m.a, rd m.b, rd m.c, rd m.d]
def mulM (m n : Mx) : Mx := ⟨m.a * n.a + m.b * n.c, m.a * n.b + m.b * n.d, m.c * n.a + m.d * n.c, m.c * n.b + m.d * n.d⟩
def idM : Mx := ⟨1, 0, 0, 1⟩
def det (m : Mx) : Rat := m.a * m.d - m.b * m.c
def invM (m : Mx) : Mx := ⟨m.d, 0 - m.b, 0 - m.c, m.a⟩
def flipM (m : Mx) : Mx := ⟨m.d, m.b, m.c, m.a⟩
structure BdM (n : Nat) (m : Mx) : Prop where
  a : Bd n m.a
  b : Bd n m.b
  c : Bd n m.c
  d : Bd n m.d
theorem BdM.mono {n k : Nat} {m : Mx} (h : BdM n m) (l : n ≤ k) : BdM k m := ⟨h.a.mono l, h.b.mono l, h.c.mono l, h.d.mono l⟩
theorem mul_assoc' (m n p : Mx) : mulM (mulM m n) p = mulM m (mulM n p) := by
  apply Mx.ext' <;> simp only [mulM] <;> grind
theorem mul_id (m : Mx) : mulM m idM = m := by
  apply Mx.ext' <;> simp only [mulM, idM] <;> grind
theorem id_mul (m : Mx) : mulM idM m = m := by
  apply Mx.ext' <;> simp only [mulM, idM] <;> grind
theorem det_mul (m n : Mx) : det (mulM m n) = det m * det n := by
  simp only [det, mulM]; grind
theorem det_id : det idM = 1 := by simp only [det, idM]; grind
theorem flip_mul (m n : Mx) : flipM (mulM m n) = mulM (flipM n) (flipM m) := by
  apply Mx.ext' <;> simp only [mulM, flipM] <;> grind
theorem inv_mul (m n : Mx) : invM (mulM m n) = mulM (invM n) (invM m) := by
  apply Mx.ext' <;> simp only [mulM, invM] <;> grind
theorem inv_inv (m : Mx) : invM (invM m) = m := by
  apply Mx.ext' <;> simp only [invM] <;> grind
theorem mul_inv (m : Mx) (h : det m = 1) : mulM (invM m) m = idM := by
  simp only [det] at h
  apply Mx.ext' <;> simp only [mulM, invM, idM] <;> grind
theorem det_inv (m : Mx) (h : det m = 1) : det (invM m) = 1 := by
  simp only [det, invM] at h ⊢; grind

/-! ### the functions on matrices -/
theorem ix40 (a b c d : D) : atI [a, b, c, d] 0 = some a := rfl
theorem ix41 (a b c d : D) : atI [a, b, c, d] 1 = some b := rfl
theorem ix42 (a b c d : D) : atI [a, b, c, d] 2 = some c := rfl
theorem ix43 (a b c d : D) : atI [a, b, c, d] 3 = some d := rfl
theorem run_product (k n : Nat) (m p : Mx) (μ : Store) (hm : BdM n m) (hp : BdM n p) (l : n ≤ 1900) : T.run (k + 5) 17 [md m, md p] μ = some (md (mulM m p), μ) := by
  have l1 : n < 4000 := by omega
  have l2 : n + n < 4000 := by omega
  have t : ∀ {r s : Rat}, Bd n r → Bd n s → T.run (k + 4) 8 [rd r, rd s] μ = some (rd (r * s), μ) := fun hr hs => run_times k _ _ μ (hr.sm l1) (hs.sm l1)
  have q : ∀ {r s u v : Rat}, Bd n r → Bd n s → Bd n u → Bd n v → T.run (k + 4) 6 [rd (r * s), rd (u * v)] μ = some (rd (r * s + u * v), μ) := fun hr hs hu hv => run_plus k _ _ μ ((hr.mul hs).sm l2) ((hu.mul hv).sm l2)
  rw [r17]
  simp only [b17, sSeq, sAsg, fVar, md, List.getElem?_cons_succ, List.getElem?_cons_zero, gTup, seqOf, List.length_cons, List.length_nil, gCons, gName, gNil, List.set_cons_succ, List.set_cons_zero, if_true, Nat.reduceAdd, Nat.zero_add,
    sRet, fTup, fCons, fNil, fApp, t hm.a hp.a, t hm.b hp.c, t hm.a hp.b, t hm.b hp.d, t hm.c hp.a, t hm.d hp.c, t hm.c hp.b, t hm.d hp.d,
    q hm.a hp.a hm.b hp.c, q hm.a hp.b hm.b hp.d, q hm.c hp.a hm.d hp.c, q hm.c hp.b hm.d hp.d, seqMax, Nat.reduceLeDiff, fin_ret, mulM]
end K05
end

section
set_option Elab.async false
set_option linter.all false
set_option maxRecDepth 100000
set_option maxHeartbeats 4000000
set_option exponentiation.threshold 20000
namespace K05
open PySem Mini
open L2 (atI ixN)

/-! ### rows -/
/-- an element: a gap or a lens, and its fraction -/
structure El where
  gap : Bool
  x : Rat
def sG : Str := "gap"
def sL : Str := "lens"
def El.data (e : El) : D := .tup [.str (if e.gap = true then sG else sL), rd e.x]
def El.mat (e : El) : Mx := if e.gap = true then ⟨1, e.x, 0, 1⟩ else ⟨1, 0, 0 - e.x, 1⟩
structure El.Ok (e : El) : Prop where
  val : if e.gap = true then 0 < e.x else e.x ≠ 0
  num : ∃ z : Int, e.x * 12 = (z : Rat) ∧ z.natAbs ≤ 1000
  bd : Bd 9 e.x
abbrev Row := List El
def Row.data (r : Row) : D := .tup (r.map El.data)
def Row.mat (r : Row) : Mx := r.foldl (fun m e => mulM e.mat m) idM
def Row.Ok (r : Row) : Prop := ∀ e ∈ r, e.Ok

theorem row_foldl (r : Row) (m : Mx) : r.foldl (fun m e => mulM e.mat m) m = mulM (Row.mat r) m := by
  unfold Row.mat
  induction r generalizing m with
  | nil => simp only [List.foldl_nil, id_mul]
  | cons e r ih =>
    simp only [List.foldl_cons]
    rw [ih (mulM e.mat m), ih (mulM e.mat idM), mul_id, mul_assoc']
theorem row_cons (e : El) (r : Row) : Row.mat (e :: r) = mulM (Row.mat r) e.mat := by
  show r.foldl (fun m e => mulM e.mat m) (mulM e.mat idM) = _
  rw [row_foldl, mul_id]
theorem row_append (r s : Row) : Row.mat (r ++ s) = mulM (Row.mat s) (Row.mat r) := by
  show (r ++ s).foldl (fun m e => mulM e.mat m) idM = _
  rw [List.foldl_append, row_foldl]
  rfl
theorem row_one (e : El) : Row.mat [e] = e.mat := by rw [row_cons]; exact id_mul _
theorem det_el (e : El) : det e.mat = 1 := by
  unfold El.mat
  split <;> simp only [det] <;> grind
theorem det_row (r : Row) : det (Row.mat r) = 1 := by
  induction r with
  | nil => exact det_id
  | cons e r ih => rw [row_cons, det_mul, ih, det_el, Rat.mul_one]
theorem flip_el (e : El) : flipM e.mat = e.mat := by
  unfold El.mat
  split <;> rfl
theorem row_reverse (r : Row) : Row.mat r.reverse = flipM (Row.mat r) := by
  induction r with
  | nil => rfl
  | cons e r ih => rw [List.reverse_cons, row_append, row_one, ih, row_cons, flip_mul, flip_el]

/-! ### sizes of rows -/
/-- a multiple of 1 / 12 ^ k -/
def Qk (k : Nat) (r : Rat) : Prop := ∃ z : Int, r * ((12 ^ k : Nat) : Rat) = (z : Rat) ∧ z.natAbs ≤ 2 ^ (10 * k)
theorem Qk.bd {k : Nat} {r : Rat} (h : Qk k r) : Bd (10 * k) r := by
  obtain ⟨z, h1, h2⟩ := h
  have hp : 0 < 12 ^ k := Nat.pow_pos (by decide)
  have h0 : ((12 ^ k : Nat) : Int) ≠ 0 := by omega
  have e : r = Rat.divInt z ((12 ^ k : Nat) : Int) := by
    rw [Rat.divInt_eq_div]
    have h0' : (((12 ^ k : Nat) : Int) : Rat) ≠ 0 := by
      intro q
      have := Rat.intCast_inj.mp (q.trans (Rat.intCast_zero).symm)
      exact h0 this
    have h1' : r * (((12 ^ k : Nat) : Int) : Rat) = (z : Rat) := h1
    rw [← h1', Rat.mul_div_cancel h0']
  rw [e]
  refine bd_div h0 h2 ?_
  rw [Int.natAbs_natCast]
  have h16 : 12 ^ k ≤ (2 ^ 10) ^ k := Nat.pow_le_pow_left (by decide) k
  rw [← Nat.pow_mul] at h16
  exact h16
structure QkM (k : Nat) (m : Mx) : Prop where
  a : Qk k m.a
  b : Qk k m.b
  c : Qk k m.c
  d : Qk k m.d
theorem QkM.bd {k : Nat} {m : Mx} (h : QkM k m) : BdM (10 * k) m := ⟨h.a.bd, h.b.bd, h.c.bd, h.d.bd⟩
/-- one more factor -/
theorem qk_step {k : Nat} {u v r s : Rat} {y w : Int} (hu : u * 12 = (y : Rat)) (hv : v * 12 = (w : Rat)) (hyw : y.natAbs + w.natAbs ≤ 1024) (hr : Qk k r) (hs : Qk k s) : Qk (k + 1) (u * r + v * s) := by
  obtain ⟨p, h1, h2⟩ := hr
  obtain ⟨q, h3, h4⟩ := hs
  refine ⟨y * p + w * q, ?_, ?_⟩
  · have e : ((12 ^ (k + 1) : Nat) : Rat) = ((12 ^ k : Nat) : Rat) * 12 := by
      rw [Nat.pow_succ]
      push_cast
      rfl
    rw [e]
    push_cast
    rw [← h1, ← h3, ← hu, ← hv]
    grind
  · have e : 2 ^ (10 * (k + 1)) = 1024 * 2 ^ (10 * k) := by
      rw [Nat.mul_succ, Nat.pow_add]
      omega
    rw [e]
    refine Nat.le_trans (Int.natAbs_add_le _ _) ?_
    rw [Int.natAbs_mul, Int.natAbs_mul]
    calc y.natAbs * p.natAbs + w.natAbs * q.natAbs ≤ y.natAbs * 2 ^ (10 * k) + w.natAbs * 2 ^ (10 * k) := Nat.add_le_add (Nat.mul_le_mul_left _ h2) (Nat.mul_le_mul_left _ h4)
      _ = (y.natAbs + w.natAbs) * 2 ^ (10 * k) := by rw [Nat.add_mul]
      _ ≤ 1024 * 2 ^ (10 * k) := Nat.mul_le_mul_right _ hyw
theorem qk_el {k : Nat} {e : El} {m : Mx} (he : e.Ok) (hm : QkM k m) : QkM (k + 1) (mulM e.mat m) := by
  obtain ⟨z, h1, h2⟩ := he.num
  have one : (1 : Rat) * 12 = ((12 : Int) : Rat) := by rw [Rat.one_mul]; rfl
  have zero : (0 : Rat) * 12 = ((0 : Int) : Rat) := by rw [Rat.zero_mul]; rfl
  have neg : (0 - e.x) * 12 = ((-z : Int) : Rat) := by
    push_cast
    rw [← h1]
    grind
  unfold El.mat
  split
  · refine ⟨?_, ?_, ?_, ?_⟩ <;> simp only [mulM]
    · exact qk_step one h1 (by simp; omega) hm.a hm.c
    · exact qk_step one h1 (by simp; omega) hm.b hm.d
    · exact qk_step zero one (by decide) hm.a hm.c
    · exact qk_step zero one (by decide) hm.b hm.d
  · refine ⟨?_, ?_, ?_, ?_⟩ <;> simp only [mulM]
    · exact qk_step one zero (by decide) hm.a hm.c
    · exact qk_step one zero (by decide) hm.b hm.d
    · exact qk_step neg one (by rw [Int.natAbs_neg]; simp; omega) hm.a hm.c
    · exact qk_step neg one (by rw [Int.natAbs_neg]; simp; omega) hm.b hm.d
theorem qk_id : QkM 0 idM := by
  have h1 : Qk 0 1 := ⟨1, by rw [Rat.one_mul]; rfl, by decide⟩
  have h0 : Qk 0 0 := ⟨0, by rw [Rat.zero_mul]; rfl, by decide⟩
  exact ⟨h1, h0, h0, h1⟩
theorem qk_foldl : ∀ (r : Row) (k : Nat) (m : Mx), Row.Ok r → QkM k m → QkM (k + r.length) (r.foldl (fun m e => mulM e.mat m) m)
  | [], _, _, _, h => h
  | e :: r, k, m, hr, h => by
    have := qk_foldl r (k + 1) (mulM e.mat m) (fun f hf => hr f (List.mem_cons_of_mem _ hf)) (qk_el (hr e List.mem_cons_self) h)
    rw [List.foldl_cons, List.length_cons, show k + (r.length + 1) = k + 1 + r.length by omega]
    exact this
theorem Row.bd {r : Row} {n : Nat} (h : Row.Ok r) (l : r.length ≤ n) : BdM (10 * n) (Row.mat r) := by
  have := (qk_foldl r 0 idM h qk_id).bd
  rw [Nat.zero_add] at this
  exact this.mono (by omega)
theorem el_bd {e : El} (h : e.Ok) : BdM 9 e.mat := by
  unfold El.mat
  split
  · exact ⟨bd_one _, h.bd, bd_zero _, bd_one _⟩
  · refine ⟨bd_one _, bd_zero _, ?_, bd_one _⟩
    have : (0 : Rat) - e.x = -e.x := by grind
    rw [this]
    exact h.bd.neg

/-! ### the functions on rows -/
theorem strOk_G : PyData.strOk sG = true := by decide +kernel
theorem strOk_L : PyData.strOk sL = true := by decide +kernel
theorem ne_LG : sL ≠ sG := by decide +kernel
theorem eq_GG (μ : Store) : eqD (.str sG) (.str sG) μ = some true := by rw [eqD_str _ _ _ strOk_G strOk_G, decide_eq_true rfl]
theorem eq_LG (μ : Store) : eqD (.str sL) (.str sG) μ = some false := by rw [eqD_str _ _ _ strOk_L strOk_G, decide_eq_false ne_LG]
theorem eq_LL (μ : Store) : eqD (.str sL) (.str sL) μ = some true := by rw [eqD_str _ _ _ strOk_L strOk_L, decide_eq_true rfl]
theorem sG_eq : ("gap" : Str) = sG := rfl
theorem sL_eq : ("lens" : Str) = sL := rfl
theorem num_pos {r : Rat} (h : 0 < r) : 0 < r.num := by
  have := (Rat.lt_iff 0 r).mp h
  simpa using this
theorem run_isel (k : Nat) (e : El) (μ : Store) (h : e.Ok) : T.run (k + 3) 11 [e.data] μ = some (.bl true, μ) := by
  have hv := h.val
  have hr := run_isr k e.x μ (h.bd.sm (by decide)).d9
  rw [r11]
  unfold El.data
  cases hg : e.gap with
  | true =>
    rw [hg, if_pos rfl] at hv
    have hn := num_pos hv
    simp only [if_true]
    simp [b11, sSeq, sIf, tOrD, tNotD, tVal, tBl, fApp, fCons, fNil, fVar, fCon, bIsi, tyOf, subTy, truD, fBin, dNe, dEq, mapB, bLen, seqOf, eqD_int, dIx, ix0, ix1, sNil, sRet, hr, eq_GG, sG_eq]
    simp [rd, dIx, ix0, dGt, mapB, hn]
  | false =>
    rw [hg, if_neg Bool.false_ne_true] at hv
    have hn : e.x.num ≠ 0 := fun q => hv (Rat.num_eq_zero.mp q)
    simp only [Bool.false_eq_true, if_false]
    simp [b11, sSeq, sIf, tOrD, tNotD, tVal, tBl, fApp, fCons, fNil, fVar, fCon, bIsi, tyOf, subTy, truD, fBin, dNe, dEq, mapB, bLen, seqOf, eqD_int, dIx, ix0, ix1, sNil, sRet, hr, eq_LG, eq_LL, sG_eq, sL_eq, fAnd]
    simp [rd, dIx, ix0, dNe, mapB, eqD_int, hn]
end K05
end

section
set_option Elab.async false
set_option linter.all false
set_option maxRecDepth 100000
set_option maxHeartbeats 4000000
set_option exponentiation.threshold 20000
namespace K05
open PySem Mini
open L2 (atI ixN)

theorem seq_at (xs : List D) (μ : Store) (i : Nat) : (Src.seq xs).at μ i = some xs[i]? := rfl
/-- all([f(x) for x in a tuple]) where each is True -/
theorem all_comp {cl : Nat → OpA} {i j : Nat} {ρ : Slots} {μ : Store} {xs : List D} (h0 : ρ[0]? = some (some (.tup xs))) (hj : j < ρ.length) (hm : xs.length ≤ 999999) (hf : ∀ x ∈ xs, ∀ μ, cl i [x] μ = some (.bl true, μ)) :
    fApp bAll (fCons (fLc (iSeq (fVar 0)) (gName j) tYesD (fApp (cl i) (fCons (fVar j) fNil)) [j]) fNil) ρ μ = some (.bl true, μ ++ [.lst (xs.map fun _ => D.bl true)]) := by
  have hl : fLc (iSeq (fVar 0)) (gName j) tYesD (fApp (cl i) (fCons (fVar j) fNil)) [j] ρ μ = some (.cel μ.length, μ ++ [.lst (xs.map fun _ => D.bl true)]) := by
    refine fLc_map (src := .seq xs) xs (fun _ => .bl true) ?_ hm (fun acc i => rfl) fun x acc hx => ?_
    · simp [iSeq, fVar, h0]
    · refine ⟨_, rfl, rfl, ?_⟩
      have e : ((wipeD ρ [j]).set j (some x))[j]? = some (some x) := List.getElem?_set_self (by rw [wipeD_length]; exact hj)
      simp [fApp, fCons, fNil, fVar, e, hf x hx]
  simp only [fApp, fCons, fNil, hl, bAll_true]
theorem run_chkrow (k : Nat) (r : Row) (μ : Store) (h : Row.Ok r) (hl : r.length ≤ 40) : T.run (k + 4) 12 [Row.data r] μ = some (.non, μ) := by
  have ha : ∀ μ, fApp bAll (fCons (fLc (iSeq (fVar 0)) (gName 1) tYesD (fApp (T.run (k + 3) 11) (fCons (fVar 1) fNil)) [1]) fNil) [some (Row.data r), none] μ = some (.bl true, μ ++ [.lst ((r.map El.data).map fun _ => D.bl true)]) := fun μ =>
    all_comp (i := 11) (j := 1) rfl (by show 1 < 2; decide) (by rw [List.length_map]; omega) fun x hx μ => by
      obtain ⟨e, he, rfl⟩ := List.mem_map.mp hx
      exact run_isel k e μ (h e he)
  rw [r12]
  have hlen : decide ((40 : Int) < ((r.map El.data).length : Int)) = false := by rw [List.length_map]; exact decide_eq_false (by omega)
  have e1 : fApp bIsi (fCons (fVar 0) (fCons (fCon (.ty .tuple)) fNil)) [some (Row.data r), none] μ = some (.bl true, μ) := rfl
  have e2 : fBin dGt (fApp bLen (fCons (fVar 0) fNil)) (fCon (.int 40)) [some (Row.data r), none] μ = some (.bl false, μ) := by
    show some (D.bl (decide ((40 : Int) < ((r.map El.data).length : Int))), μ) = _
    rw [hlen]
  simp only [b12, sSeq, sIf, tOrD, tNotD, tVal, tBl, e1, truD, Bool.not_true, e2, ha, Option.map_some, sNil]
  exact fin_nxmore _ _ _
theorem run_chkray (k : Nat) (u v : Rat) (μ : Store) (hu : Sm u) (hv : Sm v) : T.run (k + 3) 13 [.tup [rd u, rd v]] μ = some (.non, μ) := by
  have ha : ∀ μ, fApp bAll (fCons (fLc (iSeq (fVar 0)) (gName 1) tYesD (fApp (T.run (k + 2) 2) (fCons (fVar 1) fNil)) [1]) fNil) [some (.tup [rd u, rd v]), none] μ = some (.bl true, μ ++ [.lst ([rd u, rd v].map fun _ => D.bl true)]) := fun μ =>
    all_comp (i := 2) (j := 1) rfl (by show 1 < 2; decide) (by simp) fun x hx μ => by
      rcases List.mem_cons.mp hx with rfl | hx
      · exact run_isr k u μ hu.d9
      · rcases List.mem_cons.mp hx with rfl | hx
        · exact run_isr k v μ hv.d9
        · cases hx
  rw [r13]
  have e1 : fApp bIsi (fCons (fVar 0) (fCons (fCon (.ty .tuple)) fNil)) [some (.tup [rd u, rd v]), none] μ = some (.bl true, μ) := rfl
  have e2 : fBin dNe (fApp bLen (fCons (fVar 0) fNil)) (fCon (.int 2)) [some (.tup [rd u, rd v]), none] μ = some (.bl false, μ) := by
    simp [fBin, fApp, fCons, fNil, fVar, fCon, bLen, seqOf, dNe, mapB, eqD_int]
  simp only [b13, sSeq, sIf, tOrD, tNotD, tVal, tBl, e1, truD, Bool.not_true, e2, ha, Option.map_some, sNil]
  exact fin_nxmore _ _ _

/-! ### equality of fractions, matrices, rays -/
theorem toPy_rd (μ : Store) (r : Rat) : toPy μ (rd r) = some (.tuple [.int r.num, .int (r.den : Int)]) := rfl
theorem eqv_rd (r s : Rat) : PyData.eqv (.tuple [.int r.num, .int (r.den : Int)]) (.tuple [.int s.num, .int (s.den : Int)]) = decide (r = s) := by
  simp only [PyData.eqv, PyData.eqvAll, Bool.and_true]
  rw [Bool.eq_iff_iff]
  simp only [Bool.and_eq_true, beq_iff_eq, decide_eq_true_eq]
  constructor
  · rintro ⟨h1, h2⟩
    exact Rat.ext h1 (by omega)
  · rintro rfl
    exact ⟨rfl, rfl⟩
theorem eqD_rd (r s : Rat) (μ : Store) : eqD (rd r) (rd s) μ = some (decide (r = s)) := by
  unfold eqD
  rw [toPy_rd, toPy_rd]
  show (if true then _ else _) = _
  rw [if_pos rfl, eqv_rd]
def pyr (r : Rat) : PyData := .tuple [.int r.num, .int (r.den : Int)]
theorem eqv_pyr (r s : Rat) : PyData.eqv (pyr r) (pyr s) = decide (r = s) := eqv_rd r s
theorem eqD_md (m n : Mx) (μ : Store) : eqD (md m) (md n) μ = some (decide (m = n)) := by
  have e : ∀ m : Mx, toPy μ (md m) = some (.tuple [pyr m.a, pyr m.b, pyr m.c, pyr m.d]) := fun m => rfl
  unfold eqD
  rw [e, e]
  show (if true then _ else _) = _
  rw [if_pos rfl]
  simp only [PyData.eqv, PyData.eqvAll, eqv_pyr, Bool.and_true]
  congr 1
  rw [Bool.eq_iff_iff]
  simp only [Bool.and_eq_true, decide_eq_true_eq]
  constructor
  · rintro ⟨h1, h2, h3, h4⟩
    exact Mx.ext' h1 h2 h3 h4
  · rintro rfl
    exact ⟨rfl, rfl, rfl, rfl⟩
theorem rd_one : D.tup [.int 1, .int 1] = rd 1 := rfl
theorem rd_zero : D.tup [.int 0, .int 1] = rd 0 := rfl
theorem sm_one : Sm 1 := (bd_one 1).sm (by decide)
theorem sm_zero : Sm 0 := (bd_zero 1).sm (by decide)
theorem run_ismat (k n : Nat) (m : Mx) (μ : Store) (h : BdM n m) (l : n ≤ 1900) (hd : det m = 1) : T.run (k + 5) 14 [md m] μ = some (.bl true, μ) := by
  have l1 : n < 4000 := by omega
  have l2 : n + n < 4000 := by omega
  have ha : ∀ μ, fApp bAll (fCons (fLc (iSeq (fVar 0)) (gName 1) tYesD (fApp (T.run (k + 4) 2) (fCons (fVar 1) fNil)) [1]) fNil) [some (md m), none] μ = some (.bl true, μ ++ [.lst ([rd m.a, rd m.b, rd m.c, rd m.d].map fun _ => D.bl true)]) := fun μ =>
    all_comp (i := 2) (j := 1) rfl (by show 1 < 2; decide) (by simp) fun x hx μ => by
      simp only [List.mem_cons, List.not_mem_nil, or_false] at hx
      rcases hx with rfl | rfl | rfl | rfl
      · exact run_isr (k + 2) _ μ (h.a.sm l1).d9
      · exact run_isr (k + 2) _ μ (h.b.sm l1).d9
      · exact run_isr (k + 2) _ μ (h.c.sm l1).d9
      · exact run_isr (k + 2) _ μ (h.d.sm l1).d9
  rw [r14]
  have e1 : fApp bIsi (fCons (fVar 0) (fCons (fCon (.ty .tuple)) fNil)) [some (md m), none] μ = some (.bl true, μ) := rfl
  have e2 : fBin dNe (fApp bLen (fCons (fVar 0) fNil)) (fCon (.int 4)) [some (md m), none] μ = some (.bl false, μ) := by
    simp [fBin, fApp, fCons, fNil, fVar, fCon, bLen, seqOf, dNe, mapB, eqD_int, md]
  simp only [b14, sSeq, sIf, tOrD, tNotD, tVal, tBl, e1, truD, Bool.not_true, e2, ha, Option.map_some, sNil]
  generalize hμ : μ ++ [.lst ([rd m.a, rd m.b, rd m.c, rd m.d].map fun _ => D.bl true)] = μ1
  have t : ∀ {r s : Rat}, Bd n r → Bd n s → T.run (k + 4) 8 [rd r, rd s] μ1 = some (rd (r * s), μ1) := fun hr hs => run_times k _ _ μ1 (hr.sm l1) (hs.sm l1)
  have q : T.run (k + 4) 7 [rd (m.a * m.d), rd (m.b * m.c)] μ1 = some (rd (m.a * m.d - m.b * m.c), μ1) := run_minus k _ _ μ1 ((h.a.mul h.d).sm l2) ((h.b.mul h.c).sm l2)
  have hd' : m.a * m.d - m.b * m.c = 1 := hd
  simp only [sRet, fBin, fApp, fCons, fNil, fVar, fCon, md, List.getElem?_cons_zero, dIx, ix40, ix41, ix42, ix43, Option.map_some, t h.a h.d, t h.b h.c, q, rd_one, dEq, mapB, eqD_rd, hd', decide_true]
  rw [← hμ]
  exact fin_more _ _ _ rfl
theorem run_chkmat (k n : Nat) (m : Mx) (μ : Store) (h : BdM n m) (l : n ≤ 1900) (hd : det m = 1) : T.run (k + 6) 15 [md m] μ = some (.non, μ) := by
  rw [r15]
  simp [b15, sSeq, sIf, tNotD, tVal, fApp, fCons, fNil, fVar, run_ismat k n m μ h l hd, truD, sNil]
theorem run_elmat (k : Nat) (e : El) (μ : Store) (h : e.Ok) : T.run (k + 5) 16 [e.data] μ = some (md e.mat, μ) := by
  have hm := run_minus k 0 e.x μ sm_zero (h.bd.sm (by decide))
  rw [r16]
  unfold El.data El.mat
  cases hg : e.gap with
  | true =>
    simp only [if_true]
    simp [b16, sSeq, sIf, tBl, fBin, fVar, fCon, dIx, ix0, ix1, dEq, mapB, eq_GG, sG_eq, sRet, fTup, fCons, fNil, rd_one, rd_zero, md, seqMax]
  | false =>
    simp only [Bool.false_eq_true, if_false]
    simp [b16, sSeq, sIf, tBl, fBin, fVar, fCon, dIx, ix0, ix1, dEq, mapB, eq_LG, sG_eq, sRet, fTup, fCons, fNil, rd_one, rd_zero, md, seqMax, fApp, hm, sNil]

/-! ### rays -/
def ray (u v : Rat) : D := .tup [rd u, rd v]
def app (m : Mx) (p : Rat × Rat) : Rat × Rat := (m.a * p.1 + m.b * p.2, m.c * p.1 + m.d * p.2)
def rayd (p : Rat × Rat) : D := ray p.1 p.2
theorem app_mul (m n : Mx) (p : Rat × Rat) : app (mulM m n) p = app m (app n p) := by
  simp only [app, mulM]
  congr 1 <;> grind
theorem app_id (p : Rat × Rat) : app idM p = p := by
  simp only [app, idM, Rat.one_mul, Rat.zero_mul, Rat.add_zero, Rat.zero_add]
structure BdR (n : Nat) (p : Rat × Rat) : Prop where
  u : Bd n p.1
  v : Bd n p.2
theorem BdR.app {n k : Nat} {m : Mx} {p : Rat × Rat} (h : BdM n m) (g : BdR k p) : BdR (n + k + (n + k) + 1) (app m p) := ⟨(h.a.mul g.u).add (h.b.mul g.v), (h.c.mul g.u).add (h.d.mul g.v)⟩
theorem run_through (k n : Nat) (m : Mx) (p : Rat × Rat) (μ : Store) (h : BdM n m) (g : BdR n p) (l : n ≤ 1900) : T.run (k + 5) 18 [md m, rayd p] μ = some (rayd (app m p), μ) := by
  have l1 : n < 4000 := by omega
  have l2 : n + n < 4000 := by omega
  have t : ∀ {r s : Rat}, Bd n r → Bd n s → T.run (k + 4) 8 [rd r, rd s] μ = some (rd (r * s), μ) := fun hr hs => run_times k _ _ μ (hr.sm l1) (hs.sm l1)
  have q : ∀ {r s u v : Rat}, Bd n r → Bd n s → Bd n u → Bd n v → T.run (k + 4) 6 [rd (r * s), rd (u * v)] μ = some (rd (r * s + u * v), μ) := fun hr hs hu hv => run_plus k _ _ μ ((hr.mul hs).sm l2) ((hu.mul hv).sm l2)
  rw [r18]
  simp only [b18, sSeq, sAsg, fVar, md, rayd, ray, app, List.getElem?_cons_succ, List.getElem?_cons_zero, gTup, seqOf, List.length_cons, List.length_nil, gCons, gName, gNil, List.set_cons_succ, List.set_cons_zero, if_true, Nat.reduceAdd, Nat.zero_add,
    sRet, fTup, fCons, fNil, fApp, fBin, fCon, dIx, ix0, ix1, Option.map_some, t h.a g.u, t h.b g.v, t h.c g.u, t h.d g.v, q h.a g.u h.b g.v, q h.c g.u h.d g.v, seqMax, Nat.reduceLeDiff, fin_ret]

/-! ### matrix_of -/
theorem run_matof (k : Nat) (r : Row) (μ : Store) (h : Row.Ok r) (hl : r.length ≤ 40) : T.run (k + 6) 20 [Row.data r] μ = some (md (Row.mat r), μ) := by
  have hc := run_chkrow (k + 1) r μ h hl
  rw [r20]
  have main : ∃ ρ' μ', sFor (iSeq (fVar 0)) (gName 2) (sSeq (sAsg (fApp (T.run (k + 5) 17) (fCons (fApp (T.run (k + 5) 16) (fCons (fVar 2) fNil)) (fCons (fVar 1) fNil))) (gName 1)) sNil) [some (Row.data r), some (md idM), none] μ = some (.nx ρ' μ') ∧
      (μ' = μ ∧ ∃ z, ρ' = [some (Row.data r), some (md (Row.mat (r.take (r.map El.data).length))), z]) := by
    refine for_inv (src := .seq (r.map El.data)) (r.map El.data) (fun i ρ' μ' => μ' = μ ∧ ∃ z, ρ' = [some (Row.data r), some (md (Row.mat (r.take i))), z]) rfl (by rw [List.length_map]; omega) ⟨rfl, none, by simp [Row.mat]⟩ (fun i ρ μ _ => rfl) fun i x ρ μ' hx hp => ?_
    obtain ⟨rfl, z, rfl⟩ := hp
    rw [List.getElem?_map] at hx
    cases hi : r[i]? with
    | none => rw [hi] at hx; cases hx
    | some e =>
      rw [hi] at hx
      cases hx
      have heOk := h e (List.mem_of_getElem? hi)
      have htl : (r.take i).length ≤ 40 := by rw [List.length_take]; omega
      have htOk : Row.Ok (r.take i) := fun f hf => h f (List.mem_of_mem_take hf)
      have e1 := run_elmat k e μ' heOk
      have e2 := run_product k 400 e.mat (Row.mat (r.take i)) μ' ((el_bd heOk).mono (by decide)) ((Row.bd htOk htl).mono (by decide)) (by decide)
      refine ⟨[some (Row.data r), some (md (Row.mat (r.take i))), some e.data], μ', [some (Row.data r), some (md (mulM e.mat (Row.mat (r.take i)))), some e.data], μ', rfl, .inl ?_, rfl, some e.data, ?_⟩
      · simp only [sSeq, sAsg, fApp, fCons, fNil, fVar, gName, List.set_cons_succ, List.set_cons_zero, List.getElem?_cons_succ, List.getElem?_cons_zero, e1, e2, sNil]
      · rw [List.take_add_one, hi]
        show _ = [_, some (md (Row.mat (r.take i ++ [e]))), _]
        rw [row_append, row_one]
  obtain ⟨ρ', μ', hf, rfl, z, rfl⟩ := main
  have hid : D.tup [.tup [.int 1, .int 1], .tup [.int 0, .int 1], .tup [.int 0, .int 1], .tup [.int 1, .int 1]] = md idM := rfl
  simp only [b20, sSeq, sDrop, fApp, fCons, fNil, fVar, List.getElem?_cons_zero, hc, sAsg, fCon, hid, gName, List.set_cons_succ, List.set_cons_zero] at hf ⊢
  rw [hf]
  rw [List.length_map, List.take_length]
  simp [sRet, fVar]
end K05
end

section
set_option Elab.async false
set_option linter.all false
set_option maxRecDepth 100000
set_option maxHeartbeats 4000000
set_option exponentiation.threshold 20000
namespace K05
open PySem Mini
open L2 (atI ixN)

/-! ### the path of a ray -/
def rays : Row → Rat × Rat → List (Rat × Rat)
  | [], p => [p]
  | e :: r, p => p :: rays r (app e.mat p)
theorem rays_length (r : Row) (p : Rat × Rat) : (rays r p).length = r.length + 1 := by
  induction r generalizing p with
  | nil => rfl
  | cons e r ih => simp only [rays, List.length_cons, ih]
theorem rays_last (r : Row) (p : Rat × Rat) : (rays r p)[r.length]? = some (app (Row.mat r) p) := by
  induction r generalizing p with
  | nil => simp [rays, Row.mat, app_id]
  | cons e r ih =>
    simp only [rays, List.length_cons, List.getElem?_cons_succ, ih, row_cons, app_mul]
theorem rays_one (r : Row) (e : El) (p : Rat × Rat) : rays (r ++ [e]) p = rays r p ++ [app e.mat (app (Row.mat r) p)] := by
  induction r generalizing p with
  | nil => simp [rays, Row.mat, app_id]
  | cons f r ih => simp only [List.cons_append, rays, ih, row_cons, app_mul]
theorem rays_take (r s : Row) (p : Rat × Rat) : (rays (r ++ s) p).take (r.length + 1) = rays r p := by
  induction r generalizing p with
  | nil => cases s <;> rfl
  | cons e r ih => simp only [List.cons_append, rays, List.length_cons, List.take_succ_cons, ih]
theorem rays_drop (r s : Row) (p : Rat × Rat) : (rays (r ++ s) p).drop r.length = rays s (app (Row.mat r) p) := by
  induction r generalizing p with
  | nil => simp [Row.mat, app_id]
  | cons e r ih => simp only [List.cons_append, rays, List.length_cons, List.drop_succ_cons, ih, row_cons, app_mul]
theorem rays_mid (r s : Row) (p : Rat × Rat) : (rays (r ++ s) p)[r.length]? = some (app (Row.mat r) p) := by
  have h := rays_drop r s p
  have : ((rays (r ++ s) p).drop r.length)[0]? = (rays s (app (Row.mat r) p))[0]? := by rw [h]
  rw [List.getElem?_drop, Nat.add_zero] at this
  rw [this]
  cases s <;> rfl
def raysD (r : Row) (p : Rat × Rat) : List D := (rays r p).map rayd
theorem atI_last {ds : List D} {n : Nat} (h : ds.length = n + 1) : atI ds (-1) = ds[n]? := by
  unfold atI ixN
  rw [h, if_neg (by decide), if_pos (by omega)]
  show ds[((-1 : Int) + ((n + 1 : Nat) : Int)).toNat]? = _
  congr 1
  omega
theorem atI_nat {ds : List D} {n : Nat} (h : n < ds.length) : atI ds (n : Int) = ds[n]? := by
  unfold atI ixN
  rw [if_pos (by omega), if_pos (by omega)]
  rfl
theorem raysD_last (r : Row) (p : Rat × Rat) : atI (raysD r p) (-1) = some (rayd (app (Row.mat r) p)) := by
  rw [atI_last (by rw [raysD, List.length_map, rays_length]), raysD, List.getElem?_map, rays_last]
  rfl
theorem run_carried (k : Nat) (r : Row) (p : Rat × Rat) (μ : Store) (h : Row.Ok r) (hl : r.length ≤ 40) (g : BdR 500 p) : T.run (k + 6) 19 [Row.data r, rayd p] μ = some (.cel μ.length, μ ++ [.lst (raysD r p)]) := by
  have hc := run_chkrow (k + 1) r μ h hl
  have hc2 : T.run (k + 5) 13 [rayd p] μ = some (.non, μ) := run_chkray (k + 2) p.1 p.2 μ (g.u.sm (by decide)) (g.v.sm (by decide))
  rw [r19]
  have main : ∃ ρ' μ', sFor (iSeq (fVar 0)) (gName 3) (sSeq (sDrop (sApp (fVar 2) (fApp (T.run (k + 5) 18) (fCons (fApp (T.run (k + 5) 16) (fCons (fVar 3) fNil)) (fCons (fBin dIx (fVar 2) (fUn dNeg (fCon (.int (1))))) fNil))))) sNil)
      [some (Row.data r), some (rayd p), some (.cel μ.length), none] (μ ++ [.lst [rayd p]]) = some (.nx ρ' μ') ∧
      (μ' = μ ++ [.lst (raysD (r.take (r.map El.data).length) p)] ∧ ∃ z, ρ' = [some (Row.data r), some (rayd p), some (.cel μ.length), z]) := by
    refine for_inv (it := iSeq (fVar 0)) (src := .seq (r.map El.data)) (μ := μ ++ [.lst [rayd p]]) (μ0 := μ ++ [.lst [rayd p]]) (ρ := [some (Row.data r), some (rayd p), some (.cel μ.length), none]) (r.map El.data) (fun i ρ' μ' => μ' = μ ++ [.lst (raysD (r.take i) p)] ∧ ∃ z, ρ' = [some (Row.data r), some (rayd p), some (.cel μ.length), z]) rfl (by rw [List.length_map]; omega) ⟨rfl, none, rfl⟩ (fun i ρ μ _ => rfl) fun i x ρ μ' hx hp => ?_
    obtain ⟨rfl, z, rfl⟩ := hp
    rw [List.getElem?_map] at hx
    cases hi : r[i]? with
    | none => rw [hi] at hx; cases hx
    | some e =>
      rw [hi] at hx
      cases hx
      have heOk := h e (List.mem_of_getElem? hi)
      have htl : (r.take i).length ≤ 40 := by rw [List.length_take]; omega
      have htOk : Row.Ok (r.take i) := fun f hf => h f (List.mem_of_mem_take hf)
      generalize hμ : μ ++ [Cell.lst (raysD (r.take i) p)] = μ1
      have e1 := run_elmat k e μ1 heOk
      have e2 := run_through k 1900 e.mat (app (Row.mat (r.take i)) p) μ1 ((el_bd heOk).mono (by decide)) ⟨(BdR.app (Row.bd htOk htl) g).u.mono (by decide), (BdR.app (Row.bd htOk htl) g).v.mono (by decide)⟩ (by decide)
      have e3 : μ1[μ.length]? = some (Cell.lst (raysD (r.take i) p)) := by rw [← hμ]; simp
      have e4 : (raysD (r.take i) p).length < seqMax := by
        rw [raysD, List.length_map, rays_length]
        have : seqMax = 1000000 := rfl
        omega
      refine ⟨[some (Row.data r), some (rayd p), some (.cel μ.length), some e.data], μ1, [some (Row.data r), some (rayd p), some (.cel μ.length), some e.data], μ1.set μ.length (.lst (raysD (r.take i) p ++ [rayd (app e.mat (app (Row.mat (r.take i)) p))])), rfl, .inl ?_, ?_, some e.data, rfl⟩
      · simp only [sSeq, sDrop, sApp, fApp, fCons, fNil, fVar, fBin, fUn, dNeg, fCon, List.getElem?_cons_succ, List.getElem?_cons_zero, e1, dIx, e3, raysD_last, Option.map_some, e2, e4, if_true, sNil]
      · rw [List.take_add_one, hi]
        show μ1.set _ _ = μ ++ [.lst (raysD (r.take i ++ [e]) p)]
        have e5 : raysD (r.take i ++ [e]) p = raysD (r.take i) p ++ [rayd (app e.mat (app (Row.mat (r.take i)) p))] := by
          simp only [raysD, rays_one, List.map_append, List.map_cons, List.map_nil]
        rw [e5, ← hμ, List.set_append_right _ _ (Nat.le_refl _), Nat.sub_self, List.set_cons_zero]
  obtain ⟨ρ', μ', hf, rfl, z, rfl⟩ := main
  have e0 : fLst (fCons (fVar 1) fNil) [some (Row.data r), some (rayd p), none, none] μ = some (.cel μ.length, μ ++ [.lst [rayd p]]) := rfl
  simp only [b19, sSeq, sDrop, fApp, fCons, fNil, fVar, List.getElem?_cons_succ, List.getElem?_cons_zero, hc, hc2, sAsg, gName, List.set_cons_succ, List.set_cons_zero] at hf e0 ⊢
  simp only [e0, hf]
  rw [List.length_map, List.take_length]
  simp only [sRet, fVar, List.getElem?_cons_succ, List.getElem?_cons_zero]
  exact fin_last _ _
theorem run_passed (k : Nat) (m : Mx) (p : Rat × Rat) (μ : Store) (h : BdM 1900 m) (hd : det m = 1) (g : BdR 1900 p) : T.run (k + 7) 21 [md m, rayd p] μ = some (rayd (app m p), μ) := by
  have hc2 : T.run (k + 6) 13 [rayd p] μ = some (.non, μ) := run_chkray (k + 3) p.1 p.2 μ (g.u.sm (by decide)) (g.v.sm (by decide))
  rw [r21]
  simp [b21, sSeq, sDrop, fApp, fCons, fNil, fVar, run_chkmat k 1900 m μ h (by decide) hd, hc2, sRet, run_through (k + 1) 1900 m p μ h g (by decide)]
theorem run_behind (k : Nat) (m p : Mx) (μ : Store) (hm : BdM 1900 m) (dm : det m = 1) (hp : BdM 1900 p) (dp : det p = 1) : T.run (k + 7) 22 [md m, md p] μ = some (md (mulM p m), μ) := by
  rw [r22]
  simp [b22, sSeq, sDrop, fApp, fCons, fNil, fVar, run_chkmat k 1900 m μ hm (by decide) dm, run_chkmat k 1900 p μ hp (by decide) dp, sRet, run_product (k + 1) 1900 p m μ hp hm (by decide)]
theorem run_undone (k : Nat) (m : Mx) (μ : Store) (hm : BdM 1900 m) (dm : det m = 1) : T.run (k + 7) 23 [md m] μ = some (md (invM m), μ) := by
  have h1 := run_minus (k + 2) 0 m.b μ sm_zero (hm.b.sm (by decide))
  have h2 := run_minus (k + 2) 0 m.c μ sm_zero (hm.c.sm (by decide))
  have h0 := run_chkmat k 1900 m μ hm (by decide) dm
  rw [r23]
  simp only [b23, sSeq, sDrop, fApp, fCons, fNil, fVar, List.getElem?_cons_zero, h0]
  simp only [sRet, fTup, fBin, fCon, fApp, fCons, fNil, fVar, List.getElem?_cons_zero, md, dIx, ix40, ix41, ix42, ix43, Option.map_some, rd_zero, h1, h2]
  simp [seqMax, invM]

/-! ### images -/
def high (m : Mx) (d : Rat) : Rat := m.a * d + m.b
def steep (m : Mx) (d : Rat) : Rat := m.c * d + m.d
def imgD (m : Mx) (d : Rat) : D := if steep m d = 0 then .tup [.str "far"] else .tup [.str "image", rd (0 - high m d / steep m d), rd (1 / steep m d)]
theorem bd_high {m : Mx} {d : Rat} (h : BdM 400 m) (g : Bd 800 d) : Bd 1601 (high m d) := ((h.a.mul g).add h.b).mono (by decide)
theorem bd_steep {m : Mx} {d : Rat} (h : BdM 400 m) (g : Bd 800 d) : Bd 1601 (steep m d) := ((h.c.mul g).add h.d).mono (by decide)
theorem run_image (k : Nat) (m : Mx) (d : Rat) (μ : Store) (h : BdM 400 m) (hd : det m = 1) (g : Bd 800 d) (h0 : 0 ≤ d) : T.run (k + 7) 24 [md m, rd d] μ = some (imgD m d, μ) := by
  have c1 := run_chkmat k 400 m μ h (by decide) hd
  have c2 := run_isr (k + 4) d μ (g.sm (by decide)).d9
  have c3 := run_less (k + 2) d 0 μ (g.sm (by decide)) sm_zero
  have c4 : decide (d < 0) = false := decide_eq_false (Rat.not_lt.mpr h0)
  rw [c4] at c3
  have e1 := run_times (k + 2) m.a d μ (h.a.sm (by decide)) (g.sm (by decide))
  have e2 := run_times (k + 2) m.c d μ (h.c.sm (by decide)) (g.sm (by decide))
  have e3 := run_plus (k + 2) (m.a * d) m.b μ ((h.a.mul g).sm (by decide)) (h.b.sm (by decide))
  have e4 := run_plus (k + 2) (m.c * d) m.d μ ((h.c.mul g).sm (by decide)) (h.d.sm (by decide))
  rw [r24]
  simp only [b24, sSeq, sDrop, fApp, fCons, fNil, fVar, List.getElem?_cons_succ, List.getElem?_cons_zero, c1]
  simp only [sIf, tOrD, tNotD, tVal, tBl, fApp, fCons, fNil, fVar, List.getElem?_cons_succ, List.getElem?_cons_zero, fCon, rd_zero, c2, c3, truD, Bool.not_true, sNil,
    sSeq, sAsg, md, gTup, seqOf, List.length_cons, List.length_nil, gCons, gName, gNil, List.set_cons_succ, List.set_cons_zero, if_true, Nat.reduceAdd, Nat.zero_add, e1, e2, e3, e4, fBin, dEq, mapB, eqD_rd, Option.map_some]
  unfold imgD
  by_cases hs : steep m d = 0
  · have hs' : decide (m.c * d + m.d = 0) = true := decide_eq_true hs
    rw [hs', if_pos hs]
    simp [sSeq, sRet, fTup, fCons, fNil, fCon, seqMax]
  · have hs' : decide (m.c * d + m.d = 0) = false := decide_eq_false hs
    rw [hs', if_neg hs]
    have bs := bd_steep h g
    have bh := bd_high h g
    have q1 := run_over (k + 2) (high m d) (steep m d) μ (bh.sm (by decide)) (bs.sm (by decide)) hs
    have q2 := run_over (k + 2) 1 (steep m d) μ sm_one (bs.sm (by decide)) hs
    have q3 := run_minus (k + 2) 0 (high m d / steep m d) μ sm_zero ((bh.div bs hs).sm (by decide))
    unfold high steep at q1 q2 q3
    simp [sSeq, sRet, fTup, fCons, fNil, fCon, fApp, fVar, rd_one, rd_zero, q1, q2, q3, seqMax, high, steep]
end K05
end

section
set_option Elab.async false
set_option linter.all false
set_option maxRecDepth 100000
set_option maxHeartbeats 4000000
set_option exponentiation.threshold 20000
namespace K05
open PySem Mini
open L2 (atI ixN)

/-! ### the draws -/
def Dr (ds : List Int) : Prop := ∀ d ∈ ds, 0 ≤ d ∧ d < 65521
theorem Dr.snoc {ds : List Int} {d : Int} (h : Dr ds) (h1 : 0 ≤ d) (h2 : d < 65521) : Dr (ds ++ [d]) := by
  intro x hx
  rcases List.mem_append.mp hx with hx | hx
  · exact h x hx
  · rw [List.mem_singleton.mp hx]
    exact ⟨h1, h2⟩
def St (μ : Store) (ds : List Int) (sl : List D) : Store := μ ++ [Cell.lst (ds.map D.int), Cell.lst sl]
theorem St_get (μ : Store) (ds : List Int) (sl : List D) : (St μ ds sl)[μ.length]? = some (.lst (ds.map D.int)) := by simp [St]
theorem St_get1 (μ : Store) (ds : List Int) (sl : List D) : (St μ ds sl)[μ.length + 1]? = some (.lst sl) := by
  unfold St
  rw [List.getElem?_append_right (by omega)]
  have : μ.length + 1 - μ.length = 1 := by omega
  rw [this]
  rfl
theorem St_set (μ : Store) (ds : List Int) (sl : List D) (x : Int) : (St μ ds sl).set μ.length (.lst (ds.map D.int ++ [.int x])) = St μ (ds ++ [x]) sl := by
  unfold St
  rw [List.set_append_right _ _ (Nat.le_refl _), Nat.sub_self, List.set_cons_zero, List.map_append]
  rfl
theorem bits_small {m : Int} (h0 : 0 ≤ m) (h1 : m < 2147483647) : bits m 9000 = true := by
  unfold bits
  refine decide_eq_true ?_
  have : m.natAbs < 2 ^ 31 := by
    have : (2 : Nat) ^ 31 = 2147483648 := by decide
    omega
  exact Nat.lt_of_lt_of_le this (Nat.pow_le_pow_right (by decide) (by decide))
theorem bits_c1 : bits 48271 9000 = true := bits_small (by decide) (by decide)
theorem bits_c2 : bits 16807 9000 = true := bits_small (by decide) (by decide)
theorem bits_c3 : bits 69621 9000 = true := bits_small (by decide) (by decide)
theorem bits_d1 : bits 1009 8000 = true := by decide +kernel
theorem bits_d2 : bits 3 8000 = true := by decide +kernel
theorem bits_d3 : bits 7 8000 = true := by decide +kernel

def dr1 : EvS := (sSeq (sIf (tBl (fBin dGt (fVar 6) (fCon (.int (0))))) (sSeq (sDrop (sApp (fVar 2) (fBin dMod (fApp bInt (fCons (fVar 6) fNil)) (fCon (.int (1009)))))) (sSeq (sAsg (fBin dDiv (fVar 6) (fCon (.int (1009)))) (gName 6)) sNil)) sNil) sNil)
def dr2 : EvS := (sSeq (sAsg (fApp bAbs (fCons (fVar 4) fNil)) (gName 6)) (sSeq (sAsg (fBin dMod (fApp bInt (fCons (fBin dAdd (fBin dAdd (fBin dMul (fVar 3) (fCon (.int (48271)))) (fVar 6)) (fCon (.int (11)))) fNil)) (fCon (.int (2147483647)))) (gName 3)) (sSeq (sIf (tBl (fBin dGe (fVar 6) (fBin dPow (fCon (.int (10))) (fCon (.int (18)))))) (sSeq (sFor (iRng1 (fCons (fCon (.int (60))) fNil)) (gName 5) dr1) sNil) (sSeq (sDrop (sApp (fVar 2) (fBin dMod (fBin dDiv (fApp bInt (fCons (fBin dAdd (fBin dMul (fVar 3) (fCon (.int (16807)))) (fCon (.int (5)))) fNil)) (fCon (.int (3)))) (fCon (.int (65521)))))) sNil)) sNil)))
def dr3 : EvS := (sSeq (sIf (tBl (fBin dLt (fApp bLen (fCons (fVar 2) fNil)) (fVar 1))) (sSeq (sAsg (fBin dMod (fApp bInt (fCons (fBin dAdd (fBin dAdd (fBin dMul (fVar 3) (fCon (.int (69621)))) (fVar 5)) (fCon (.int (1)))) fNil)) (fCon (.int (2147483647)))) (gName 3)) (sSeq (sDrop (sApp (fVar 2) (fBin dMod (fBin dDiv (fApp bInt (fCons (fVar 3) fNil)) (fCon (.int (7)))) (fCon (.int (65521)))))) sNil)) sNil) sNil)
def dr : EvS := (sSeq (sAsg (fLst fNil) (gName 2)) (sSeq (sAsg (fCon (.int (7))) (gName 3)) (sSeq (sFor (iSeq (fSl (fVar 0) fPart0 (fPart (fCon (.int (63)))))) (gName 4) dr2) (sSeq (sFor (iRng1 (fCons (fVar 1) fNil)) (gName 5) dr3) (sSeq (sRet (fSl (fVar 2) fPart0 (fPart (fVar 1)))) sNil)))))
theorem dr_eq (cl : Nat → OpA) : b25 cl = dr := rfl

def DrP (a b : D) (μ : Store) (sl : List D) (n : Nat) (ρ : Slots) (μ' : Store) : Prop :=
  ∃ ds mx z4 z5 z6, 0 ≤ mx ∧ mx < 2147483647 ∧ Dr ds ∧ ds.length ≤ n ∧ ρ = [some a, some b, some (.cel μ.length), some (.int mx), z4, z5, z6] ∧ μ' = St μ ds sl
theorem dr1_ok (a b : D) (μ : Store) (sl : List D) (n : Nat) (hn : n ≤ 10000) (ds : List Int) (mx : Int) (z4 z5 : Option D) (sz : Int) (hs : 0 ≤ sz) (hd : Dr ds) (hl : ds.length ≤ n) :
    ∃ ρ' μ', sFor (iRng1 (fCons (fCon (.int 60)) fNil)) (gName 5) dr1 [some a, some b, some (.cel μ.length), some (.int mx), z4, z5, some (.int sz)] (St μ ds sl) = some (.nx ρ' μ') ∧
      ∃ ds' z5' z6', Dr ds' ∧ ds'.length ≤ n + (rngs 0 60).length ∧ ρ' = [some a, some b, some (.cel μ.length), some (.int mx), z4, z5', z6'] ∧ μ' = St μ ds' sl := by
  obtain ⟨ρ', μ', h1, h2⟩ := for_inv (it := iRng1 (fCons (fCon (.int 60)) fNil)) (src := .rng 0 60) (g := gName 5) (body := dr1) (ρ := [some a, some b, some (.cel μ.length), some (.int mx), z4, z5, some (.int sz)]) (μ := St μ ds sl) (μ0 := St μ ds sl) (rngs 0 60)
    (fun i ρ μ' => ∃ ds' z5' sz', 0 ≤ sz' ∧ Dr ds' ∧ ds'.length ≤ n + i ∧ ρ = [some a, some b, some (.cel μ.length), some (.int mx), z4, z5', some (.int sz')] ∧ μ' = St μ ds' sl)
    rfl (by rw [rngs_length]; omega) ⟨ds, z5, sz, hs, hd, hl, rfl, rfl⟩ (fun i ρ μ _ => rng_at 0 60 μ i) fun i x ρ μ' hx hp => by
      obtain ⟨ds', z5', sz', hs', hd', hl', rfl, rfl⟩ := hp
      have hi := (rngs_get hx).1
      have q : ds'.length < seqMax := by have : seqMax = 1000000 := rfl; omega
      by_cases h : 0 < sz'
      · refine ⟨[some a, some b, some (.cel μ.length), some (.int mx), z4, some x, some (.int sz')], St μ ds' sl, [some a, some b, some (.cel μ.length), some (.int mx), z4, some x, some (.int (sz' / 1009))], St μ (ds' ++ [sz' % 1009]) sl, rfl, .inl ?_, _, _, _, ?_, hd'.snoc (Int.emod_nonneg _ (by decide)) ?_, ?_, rfl, rfl⟩
        · unfold dr1
          refine (seq_nx (ρ1 := [some a, some b, some (.cel μ.length), some (.int mx), z4, some x, some (.int (sz' / 1009))]) (μ1 := St μ (ds' ++ [sz' % 1009]) sl) ((if_t ?_).trans ((seq_nx (app_at rfl (d := .int (sz' % 1009)) ?_ (St_get _ _ _) (by rw [List.length_map]; exact q))).trans ?_))).trans rfl
          · simp [tBl, fBin, fVar, fCon, dGt, mapB, h]
          · simp [fBin, fApp, fCons, fNil, fVar, fCon, bInt, dMod]
          · rw [St_set]
            simp [sSeq, sAsg, fBin, fVar, fCon, dDiv, bits_d1, gName, sNil]
        · exact Int.ediv_nonneg hs' (by decide)
        · have := Int.emod_lt_of_pos sz' (by decide : (0 : Int) < 1009); omega
        · rw [List.length_append, List.length_singleton]; omega
      · refine ⟨[some a, some b, some (.cel μ.length), some (.int mx), z4, some x, some (.int sz')], St μ ds' sl, [some a, some b, some (.cel μ.length), some (.int mx), z4, some x, some (.int sz')], St μ ds' sl, rfl, .inl ?_, ds', some x, sz', hs', hd', by omega, rfl, rfl⟩
        unfold dr1
        refine (seq_nx ((if_f ?_).trans rfl)).trans rfl
        simp [tBl, fBin, fVar, fCon, dGt, mapB, h]
  obtain ⟨ds', z5', sz', _, hd', hl', e1, e2⟩ := h2
  exact ⟨ρ', μ', h1, ds', z5', _, hd', hl', e1, e2⟩
theorem dr2_ok (a b : D) (μ : Store) (sl : List D) (i : Nat) (hi : i ≤ 63) (y : Int) (ρ : Slots) (μ' : Store) (h : DrP a b μ sl (61 * i) ρ μ') :
    ∃ ρ1 μ1 ρ2 μ2, gName 4 (.int y) ρ μ' = some (ρ1, μ1) ∧ (dr2 ρ1 μ1 = some (.nx ρ2 μ2) ∨ dr2 ρ1 μ1 = some (.ct ρ2 μ2)) ∧ DrP a b μ sl (61 * (i + 1)) ρ2 μ2 := by
  obtain ⟨ds, mx, z4, z5, z6, h0, h1, hd, hl, rfl, rfl⟩ := h
  have hm0 : 0 ≤ (mx * 48271 + (y.natAbs : Int) + 11) % 2147483647 := Int.emod_nonneg _ (by decide)
  have hm1 : (mx * 48271 + (y.natAbs : Int) + 11) % 2147483647 < 2147483647 := Int.emod_lt_of_pos _ (by decide)
  have e1 : sAsg (fApp bAbs (fCons (fVar 4) fNil)) (gName 6) [some a, some b, some (.cel μ.length), some (.int mx), some (.int y), z5, z6] (St μ ds sl) = some (.nx [some a, some b, some (.cel μ.length), some (.int mx), some (.int y), z5, some (.int (y.natAbs : Int))] (St μ ds sl)) := rfl
  have e2 : sAsg (fBin dMod (fApp bInt (fCons (fBin dAdd (fBin dAdd (fBin dMul (fVar 3) (fCon (.int (48271)))) (fVar 6)) (fCon (.int (11)))) fNil)) (fCon (.int (2147483647)))) (gName 3) [some a, some b, some (.cel μ.length), some (.int mx), some (.int y), z5, some (.int (y.natAbs : Int))] (St μ ds sl)
      = some (.nx [some a, some b, some (.cel μ.length), some (.int ((mx * 48271 + (y.natAbs : Int) + 11) % 2147483647)), some (.int y), z5, some (.int (y.natAbs : Int))] (St μ ds sl)) := by
    simp [sAsg, fBin, fApp, fCons, fNil, fVar, fCon, dMul, bits_small h0 h1, bits_c1, dAdd, bInt, dMod, gName]
  generalize (mx * 48271 + (y.natAbs : Int) + 11) % 2147483647 = mx' at *
  by_cases hb : (10 : Int) ^ 18 ≤ (y.natAbs : Int)
  · obtain ⟨ρ', μ', f1, ds', z5', z6', g1, g2, rfl, rfl⟩ := dr1_ok a b μ sl (61 * i) (by omega) ds mx' (some (.int y)) z5 (y.natAbs : Int) (by omega) hd hl
    refine ⟨[some a, some b, some (.cel μ.length), some (.int mx), some (.int y), z5, z6], St μ ds sl, [some a, some b, some (.cel μ.length), some (.int mx'), some (.int y), z5', z6'], St μ ds' sl, rfl, .inl ?_, ds', mx', some (.int y), z5', z6', hm0, hm1, g1, ?_, rfl, rfl⟩
    · unfold dr2
      refine (seq_nx e1).trans ((seq_nx e2).trans ((seq_nx ((if_t ?_).trans ((seq_nx f1).trans rfl))).trans rfl))
      have : dPow (.int 10) (.int 18) (St μ ds sl) = some (.int (10 ^ 18), St μ ds sl) := by simp [dPow]
      simp only [tBl, fBin, fVar, fCon, List.getElem?_cons_succ, List.getElem?_cons_zero, this, dGe, mapB, decide_eq_true hb]
    · rw [rngs_length] at g2; omega
  · refine ⟨[some a, some b, some (.cel μ.length), some (.int mx), some (.int y), z5, z6], St μ ds sl, [some a, some b, some (.cel μ.length), some (.int mx'), some (.int y), z5, some (.int (y.natAbs : Int))], St μ (ds ++ [(mx' * 16807 + 5) / 3 % 65521]) sl, rfl, .inl ?_, ds ++ [(mx' * 16807 + 5) / 3 % 65521], mx', some (.int y), z5, some (.int (y.natAbs : Int)), hm0, hm1, hd.snoc (Int.emod_nonneg _ (by decide)) (Int.emod_lt_of_pos _ (by decide)), ?_, rfl, rfl⟩
    · unfold dr2
      refine (seq_nx e1).trans ((seq_nx e2).trans ((seq_nx ((if_f ?_).trans ((seq_nx (app_at rfl (d := .int ((mx' * 16807 + 5) / 3 % 65521)) ?_ (St_get _ _ _) ?_)).trans ?_))).trans rfl))
      · have : dPow (.int 10) (.int 18) (St μ ds sl) = some (.int (10 ^ 18), St μ ds sl) := by simp [dPow]
        simp only [tBl, fBin, fVar, fCon, List.getElem?_cons_succ, List.getElem?_cons_zero, this, dGe, mapB, decide_eq_false hb]
      · simp [fBin, fApp, fCons, fNil, fVar, fCon, dMul, bits_small hm0 hm1, bits_c2, dAdd, bInt, dMod, dDiv, bits_d2]
      · rw [List.length_map]
        have : seqMax = 1000000 := rfl
        omega
      · rw [St_set]; rfl
    · rw [List.length_append, List.length_singleton]; omega
theorem dr3_ok (a : D) (μ : Store) (sl : List D) (i : Nat) (hi : i < 300) (ρ : Slots) (μ' : Store) (h : ∃ ds mx z4 z5 z6, 0 ≤ mx ∧ mx < 2147483647 ∧ Dr ds ∧ i ≤ ds.length ∧ ds.length ≤ 4000 + i ∧ ρ = [some a, some (.int 300), some (.cel μ.length), some (.int mx), z4, z5, z6] ∧ μ' = St μ ds sl) :
    ∃ ρ1 μ1 ρ2 μ2, gName 5 (.int (0 + (i : Int))) ρ μ' = some (ρ1, μ1) ∧ (dr3 ρ1 μ1 = some (.nx ρ2 μ2) ∨ dr3 ρ1 μ1 = some (.ct ρ2 μ2)) ∧
      ∃ ds mx z4 z5 z6, 0 ≤ mx ∧ mx < 2147483647 ∧ Dr ds ∧ i + 1 ≤ ds.length ∧ ds.length ≤ 4000 + (i + 1) ∧ ρ2 = [some a, some (.int 300), some (.cel μ.length), some (.int mx), z4, z5, z6] ∧ μ2 = St μ ds sl := by
  obtain ⟨ds, mx, z4, z5, z6, h0, h1, hd, hl, hl2, rfl, rfl⟩ := h
  have e0 : ∀ z, fApp bLen (fCons (fVar 2) fNil) [some a, some (.int 300), some (.cel μ.length), some (.int mx), z4, z, z6] (St μ ds sl) = some (.int (ds.length : Int), St μ ds sl) := fun z => by
    simp [fApp, fCons, fNil, fVar, bLen, seqOf, St_get]
  by_cases hb : (ds.length : Int) < 300
  · have hm0 : 0 ≤ (mx * 69621 + (0 + (i : Int)) + 1) % 2147483647 := Int.emod_nonneg _ (by decide)
    have hm1 : (mx * 69621 + (0 + (i : Int)) + 1) % 2147483647 < 2147483647 := Int.emod_lt_of_pos _ (by decide)
    have e2 : sAsg (fBin dMod (fApp bInt (fCons (fBin dAdd (fBin dAdd (fBin dMul (fVar 3) (fCon (.int (69621)))) (fVar 5)) (fCon (.int (1)))) fNil)) (fCon (.int (2147483647)))) (gName 3) [some a, some (.int 300), some (.cel μ.length), some (.int mx), z4, some (.int (0 + (i : Int))), z6] (St μ ds sl)
        = some (.nx [some a, some (.int 300), some (.cel μ.length), some (.int ((mx * 69621 + (0 + (i : Int)) + 1) % 2147483647)), z4, some (.int (0 + (i : Int))), z6] (St μ ds sl)) := by
      simp only [sAsg, fBin, fApp, fCons, fNil, fVar, fCon, List.getElem?_cons_succ, List.getElem?_cons_zero, dMul, bits_small h0 h1, bits_c3, Bool.and_self, if_true, dAdd, bInt, dMod, gName, (by decide : (0 : Int) < 2147483647), List.set_cons_succ, List.set_cons_zero, List.length_cons, List.length_nil]
    generalize (mx * 69621 + (0 + (i : Int)) + 1) % 2147483647 = mx' at *
    refine ⟨[some a, some (.int 300), some (.cel μ.length), some (.int mx), z4, some (.int (0 + (i : Int))), z6], St μ ds sl, [some a, some (.int 300), some (.cel μ.length), some (.int mx'), z4, some (.int (0 + (i : Int))), z6], St μ (ds ++ [mx' / 7 % 65521]) sl, rfl, .inl ?_, ds ++ [mx' / 7 % 65521], mx', z4, some (.int (0 + (i : Int))), z6, hm0, hm1, hd.snoc (Int.emod_nonneg _ (by decide)) (Int.emod_lt_of_pos _ (by decide)), ?_, ?_, rfl, rfl⟩
    · unfold dr3
      refine (seq_nx ((if_t ?_).trans ((seq_nx e2).trans ((seq_nx (app_at rfl (d := .int (mx' / 7 % 65521)) ?_ (St_get _ _ _) ?_)).trans ?_)))).trans rfl
      · have := e0 (some (.int (0 + (i : Int))))
        simp only [tBl, fBin, this, fVar, List.getElem?_cons_succ, List.getElem?_cons_zero, dLt, mapB, decide_eq_true hb]
      · simp [fBin, fApp, fCons, fNil, fVar, fCon, bInt, dMod, dDiv, bits_d3]
      · rw [List.length_map]
        have : seqMax = 1000000 := rfl
        omega
      · rw [St_set]; rfl
    · rw [List.length_append, List.length_singleton]; omega
    · rw [List.length_append, List.length_singleton]; omega
  · refine ⟨[some a, some (.int 300), some (.cel μ.length), some (.int mx), z4, some (.int (0 + (i : Int))), z6], St μ ds sl, [some a, some (.int 300), some (.cel μ.length), some (.int mx), z4, some (.int (0 + (i : Int))), z6], St μ ds sl, rfl, .inl ?_, ds, mx, z4, some (.int (0 + (i : Int))), z6, h0, h1, hd, by omega, by omega, rfl, rfl⟩
    unfold dr3
    refine (seq_nx ((if_f ?_).trans rfl)).trans rfl
    have := e0 (some (.int (0 + (i : Int))))
    simp only [tBl, fBin, this, fVar, List.getElem?_cons_succ, List.getElem?_cons_zero, dLt, mapB, decide_eq_false hb]
theorem belows_int (n : Nat) (ds : List Int) : belows n (ds.map D.int) = true := by
  induction ds with
  | nil => simp [belows]
  | cons d ds ih => simp [belows, below, ih]
theorem cut_hi {α : Type} (xs : List α) (n : Nat) : cutG xs none (some (n : Int)) = xs.take n := by
  have e : HT.sIx xs.length xs.length (some (n : Int)) = min n xs.length := by
    show (if (n : Int) < 0 then ((n : Int) + (xs.length : Int)).toNat else min (n : Int).toNat xs.length) = _
    rw [if_neg (by omega), Int.toNat_natCast]
  unfold cutG
  rw [e]
  show ((xs.drop 0).take (min n xs.length - 0)) = _
  rw [List.drop_zero, Nat.sub_zero]
  by_cases h : n ≤ xs.length
  · rw [Nat.min_eq_left h]
  · rw [Nat.min_eq_right (by omega), List.take_length, List.take_of_length_le (by omega)]
theorem cut_lo {α : Type} (xs : List α) (n : Nat) : cutG xs (some (n : Int)) none = xs.drop n := by
  have e : HT.sIx xs.length 0 (some (n : Int)) = min n xs.length := by
    show (if (n : Int) < 0 then ((n : Int) + (xs.length : Int)).toNat else min (n : Int).toNat xs.length) = _
    rw [if_neg (by omega), Int.toNat_natCast]
  unfold cutG
  rw [e]
  show ((xs.drop (min n xs.length)).take (xs.length - min n xs.length)) = _
  by_cases h : n ≤ xs.length
  · rw [Nat.min_eq_left h, List.take_of_length_le (by rw [List.length_drop]; omega)]
  · rw [Nat.min_eq_right (by omega), List.drop_of_length_le (by omega), List.drop_of_length_le (by omega), List.take_nil]
theorem run_draws (k : Nat) (ns : List Int) (μ : Store) : ∃ ds : List Int, Dr ds ∧ ds.length = 300 ∧ T.run (k + 1) 25 [.ls (ns.map D.int), .int 300] μ = some (.cel μ.length, μ ++ [.lst (ds.map D.int)]) := by
  obtain ⟨ρ1, μ1, f1, ds1, mx1, a4, a5, a6, h10, h11, hd1, hl1, rfl, rfl⟩ := for_inv (it := iSeq (fSl (fVar 0) fPart0 (fPart (fCon (.int (63)))))) (src := .cel (μ.length + 1)) (g := gName 4) (body := dr2) (ρ := [some (.ls (ns.map D.int)), some (.int 300), some (.cel μ.length), some (.int 7), none, none, none]) (μ := St μ [] ((ns.take 63).map D.int)) (μ0 := μ ++ [.lst []]) ((ns.take 63).map D.int)
    (fun i ρ μ' => DrP (.ls (ns.map D.int)) (.int 300) μ ((ns.take 63).map D.int) (61 * i) ρ μ') (by
      have e : fSl (fVar 0) fPart0 (fPart (fCon (.int (63)))) [some (.ls (ns.map D.int)), some (.int 300), some (.cel μ.length), some (.int 7), none, none, none] (μ ++ [.lst []]) = some (.cel (μ ++ [Cell.lst []]).length, (μ ++ [.lst []]) ++ [.lst (cutG (ns.map D.int) none (some 63))]) := rfl
      simp only [iSeq, e]
      have := cut_hi (ns.map D.int) 63
      rw [List.length_append, show cutG (ns.map D.int) none (some 63) = _ from this, List.append_assoc, ← List.map_take]
      rfl)
    (by rw [List.length_map, List.length_take]; omega) ⟨[], 7, none, none, none, by decide, by decide, fun _ h => (by cases h), Nat.zero_le _, rfl, rfl⟩
    (fun i ρ μ' hp => by
      obtain ⟨ds, _, _, _, _, _, _, _, _, _, rfl⟩ := hp
      simp only [Src.at, St_get1])
    (fun i x ρ μ' hx hp => by
      have hlt : i < ((ns.take 63).map D.int).length := (List.getElem?_eq_some_iff.mp hx).1
      rw [List.length_map, List.length_take] at hlt
      rw [List.getElem?_map] at hx
      cases hy : (ns.take 63)[i]? with
      | none => rw [hy] at hx; cases hx
      | some y =>
        rw [hy] at hx
        cases hx
        exact dr2_ok _ _ μ _ i (by omega) y ρ μ' hp)
  have hlen : ((ns.take 63).map D.int).length ≤ 63 := by rw [List.length_map, List.length_take]; omega
  obtain ⟨ρ2, μ2, f2, ds2, mx2, c4, c5, c6, h20, h21, hd2, hl2, hl2', rfl, rfl⟩ := for_inv (it := iRng1 (fCons (fVar 1) fNil)) (src := .rng 0 300) (g := gName 5) (body := dr3) (ρ := [some (.ls (ns.map D.int)), some (.int 300), some (.cel μ.length), some (.int mx1), a4, a5, a6]) (μ := St μ ds1 ((ns.take 63).map D.int)) (μ0 := St μ ds1 ((ns.take 63).map D.int)) (rngs 0 300)
    (fun i ρ μ' => ∃ ds mx z4 z5 z6, 0 ≤ mx ∧ mx < 2147483647 ∧ Dr ds ∧ i ≤ ds.length ∧ ds.length ≤ 4000 + i ∧ ρ = [some (.ls (ns.map D.int)), some (.int 300), some (.cel μ.length), some (.int mx), z4, z5, z6] ∧ μ' = St μ ds ((ns.take 63).map D.int))
    rfl (by rw [rngs_length]; omega) ⟨ds1, mx1, a4, a5, a6, h10, h11, hd1, Nat.zero_le _, by omega, rfl, rfl⟩ (fun i ρ μ' _ => rng_at 0 300 μ' i)
    (fun i x ρ μ' hx hp => by
      obtain ⟨hi, rfl⟩ := rngs_get hx
      exact dr3_ok _ μ _ i hi ρ μ' hp)
  rw [rngs_length] at hl2 hl2'
  refine ⟨ds2.take 300, fun d h => hd2 d (List.mem_of_mem_take h), by rw [List.length_take]; omega, ?_⟩
  rw [r25, dr_eq]
  have e1 : sAsg (fLst fNil) (gName 2) [some (.ls (ns.map D.int)), some (.int 300), none, none, none, none, none] μ = some (.nx [some (.ls (ns.map D.int)), some (.int 300), some (.cel μ.length), none, none, none, none] (μ ++ [.lst []])) := rfl
  have e2 : fSl (fVar 2) fPart0 (fPart (fVar 1)) [some (.ls (ns.map D.int)), some (.int 300), some (.cel μ.length), some (.int mx2), c4, c5, c6] (St μ ds2 ((ns.take 63).map D.int)) = some (.cel (St μ ds2 ((ns.take 63).map D.int)).length, St μ ds2 ((ns.take 63).map D.int) ++ [.lst ((ds2.take 300).map D.int)]) := by
    have := cut_hi (ds2.map D.int) 300
    simp only [fSl, fVar, fPart0, fPart, List.getElem?_cons_succ, List.getElem?_cons_zero, dSl, St_get, show cutG (ds2.map D.int) none (some 300) = _ from this, List.map_take]
  unfold dr
  rw [seq_nx e1, seq_nx (ρ1 := [some (.ls (ns.map D.int)), some (.int 300), some (.cel μ.length), some (.int 7), none, none, none]) (μ1 := μ ++ [.lst []]) rfl, seq_nx f1, seq_nx f2]
  simp only [sSeq, sRet, e2]
  show some (gc μ _ _) = _
  have : St μ ds2 ((ns.take 63).map D.int) ++ [.lst ((ds2.take 300).map D.int)] = μ ++ [Cell.lst (ds2.map D.int), Cell.lst ((ns.take 63).map D.int), .lst ((ds2.take 300).map D.int)] := by simp [St]
  rw [this, gc_new μ _ ((ds2.take 300).map D.int) (belows_int _ _) _ (by simp [St]) (by simp [St])]
end K05
end

section
set_option Elab.async false
set_option linter.all false
set_option maxRecDepth 100000
set_option maxHeartbeats 4000000
set_option exponentiation.threshold 20000
namespace K05
open PySem Mini
open L2 (atI ixN)

/-! ### drawn fractions -/
theorem frac_bd {a b : Int} (ha : a.natAbs ≤ 64) (h1 : 1 ≤ b) (h4 : b ≤ 4) : Bd 6 (Rat.divInt a b) := by
  have : (2 : Nat) ^ 6 = 64 := by decide
  exact bd_div (by omega) (by omega) (by omega)
theorem frac_num {a b : Int} (h1 : 1 ≤ b) (h4 : b ≤ 4) : ∃ z : Int, Rat.divInt a b * 12 = (z : Rat) ∧ z.natAbs ≤ 12 * a.natAbs := by
  have h : Rat.divInt a b * (b : Rat) = (a : Rat) := by
    rw [Rat.divInt_eq_div, Rat.div_mul_cancel]
    intro q
    have := Rat.intCast_inj.mp (q.trans (Rat.intCast_zero).symm)
    omega
  generalize Rat.divInt a b = x at *
  have hb : b = 1 ∨ b = 2 ∨ b = 3 ∨ b = 4 := by omega
  rcases hb with rfl | rfl | rfl | rfl
  · refine ⟨a * 12, ?_, by omega⟩
    push_cast at h ⊢
    rw [← h]; grind
  · refine ⟨a * 6, ?_, by omega⟩
    push_cast at h ⊢
    rw [← h]; grind
  · refine ⟨a * 4, ?_, by omega⟩
    push_cast at h ⊢
    rw [← h]; grind
  · refine ⟨a * 3, ?_, by omega⟩
    push_cast at h ⊢
    rw [← h]; grind
theorem frac_pos {a b : Int} (ha : 0 < a) (hb : 0 < b) : 0 < Rat.divInt a b := by
  rw [Rat.divInt_eq_div, Rat.lt_div_iff (Rat.intCast_pos.mpr hb), Rat.zero_mul]
  exact Rat.intCast_pos.mpr ha
theorem emod_b (d : Int) {m : Int} (hm : 0 < m) : 0 ≤ d % m ∧ d % m < m := ⟨Int.emod_nonneg _ (by omega), Int.emod_lt_of_pos _ hm⟩
theorem gap_ok {x : Rat} (h : 0 < x) (hn : ∃ z : Int, x * 12 = (z : Rat) ∧ z.natAbs ≤ 1000) (hb : Bd 9 x) : El.Ok ⟨true, x⟩ := ⟨h, hn, hb⟩
theorem lens_ok {x : Rat} (h : x ≠ 0) (hn : ∃ z : Int, x * 12 = (z : Rat) ∧ z.natAbs ≤ 1000) (hb : Bd 9 x) : El.Ok ⟨false, x⟩ := ⟨h, hn, hb⟩
theorem neg_num {x : Rat} (hn : ∃ z : Int, x * 12 = (z : Rat) ∧ z.natAbs ≤ 1000) : ∃ z : Int, (0 - x) * 12 = (z : Rat) ∧ z.natAbs ≤ 1000 := by
  obtain ⟨z, h1, h2⟩ := hn
  refine ⟨-z, ?_, by omega⟩
  push_cast
  rw [← h1]; grind
theorem neg_bd {n : Nat} {x : Rat} (h : Bd n x) : Bd n (0 - x) := by
  have : (0 : Rat) - x = -x := by grind
  rw [this]
  exact h.neg

/-! ### a drawn row -/
def w_0 (cl : Nat → OpA) : EvS := (sAsg (fApp bInt (fCons (fBin dIx (fVar 0) (fBin dMul (fCon (.int (2))) (fVar 3))) fNil)) (gName 4))
def w_1 (cl : Nat → OpA) : EvS := (sAsg (fApp (cl 5) (fCons (fBin dAdd (fCon (.int (1))) (fBin dMod (fVar 4) (fCon (.int (7))))) (fCons (fBin dAdd (fCon (.int (1))) (fBin dMod (fApp bInt (fCons (fBin dIx (fVar 0) (fBin dAdd (fBin dMul (fCon (.int (2))) (fVar 3)) (fCon (.int (1))))) fNil)) (fCon (.int (4))))) fNil))) (gName 5))
def w_2 (cl : Nat → OpA) : EvS := (sIf (tBl (fBin dEq (fBin dMod (fBin dDiv (fVar 4) (fCon (.int (7)))) (fCon (.int (2)))) (fCon (.int (0))))) (sSeq (sAsg (fBin dAdd (fVar 2) (fTup (fCons (fTup (fCons (fCon (.str "gap")) (fCons (fVar 5) fNil))) fNil))) (gName 2)) sNil) (sSeq (sAsg (fBin dAdd (fVar 2) (fTup (fCons (fTup (fCons (fCon (.str "lens")) (fCons (fIte (tBl (fBin dEq (fBin dMod (fBin dDiv (fVar 4) (fCon (.int (14)))) (fCon (.int (2)))) (fCon (.int (0))))) (fVar 5) (fApp (cl 7) (fCons (fTup (fCons (fCon (.int (0))) (fCons (fCon (.int (1))) fNil))) (fCons (fVar 5) fNil)))) fNil))) fNil))) (gName 2)) sNil))
def w_body (cl : Nat → OpA) : EvS := (sSeq (w_0 cl) (sSeq (w_1 cl) (sSeq (w_2 cl) sNil)))
theorem w_split (cl : Nat → OpA) : b26 cl = (sSeq (sAsg (fTup fNil) (gName 2)) (sSeq (sFor (iRng1 (fCons (fVar 1) fNil)) (gName 3) (w_body cl)) (sSeq (sRet (fVar 2)) sNil))) := rfl
theorem data_snoc (r : Row) (e : El) (ρ : Slots) (μ : Store) {fa fb : EvF} (h : fa ρ μ = some (Row.data r, μ)) (g : fb ρ μ = some (.tup [e.data], μ)) (hl : r.length ≤ 100) : fBin dAdd fa fb ρ μ = some (Row.data (r ++ [e]), μ) := by
  refine (bin h g).trans ?_
  unfold Row.data dAdd
  simp only
  rw [if_pos (by have : seqMax = 1000000 := rfl; simp; omega), List.map_append]
  rfl
theorem run_lawrow (k n : Nat) (ds : List Int) (hd : Dr ds) (many : Nat) (hm : many ≤ 8) (hl : 18 ≤ ds.length) (μ : Store) (hc : μ[n]? = some (.lst (ds.map D.int))) :
    ∃ r, Row.Ok r ∧ r.length = many ∧ T.run (k + 5) 26 [.cel n, .int (many : Int)] μ = some (Row.data r, μ) := by
  obtain ⟨ρ1, μ1, f1, r, hr, hrl, z3, z4, z5, rfl, rfl⟩ := for_inv (it := iRng1 (fCons (fVar 1) fNil)) (src := .rng 0 many) (g := gName 3) (body := w_body (T.run (k + 4))) (ρ := [some (.cel n), some (.int (many : Int)), some (Row.data []), none, none, none]) (μ := μ) (μ0 := μ) (rngs 0 many)
    (fun i ρ μ' => ∃ r, Row.Ok r ∧ r.length = i ∧ ∃ z3 z4 z5, ρ = [some (.cel n), some (.int (many : Int)), some (Row.data r), z3, z4, z5] ∧ μ' = μ)
    (by
      simp only [iRng1, fCons, fNil, fVar, List.getElem?_cons_succ, List.getElem?_cons_zero]
      rw [if_pos (by omega), Int.toNat_natCast])
    (by rw [rngs_length]; omega) ⟨[], fun _ h => (by cases h), rfl, none, none, none, rfl, rfl⟩ (fun i ρ μ _ => rng_at 0 many μ i) fun i x ρ μ' hx hp => by
      obtain ⟨hi, rfl⟩ := rngs_get hx
      obtain ⟨r, hr, hrl, z3, z4, z5, rfl, rfl⟩ := hp
      have b1 : 2 * i < ds.length := by omega
      have b2 : 2 * i + 1 < ds.length := by omega
      obtain ⟨ha0, ha1⟩ := emod_b ds[2 * i] (by decide : (0 : Int) < 7)
      obtain ⟨hb0, hb1⟩ := emod_b ds[2 * i + 1] (by decide : (0 : Int) < 4)
      generalize hx1 : 1 + ds[2 * i] % 7 = a at *
      generalize hx2 : 1 + ds[2 * i + 1] % 4 = b at *
      have xb : Bd 6 (Rat.divInt a b) := frac_bd (by omega) (by omega) (by omega)
      have xn : ∃ z : Int, Rat.divInt a b * 12 = (z : Rat) ∧ z.natAbs ≤ 1000 := by
        obtain ⟨z, h1, h2⟩ := frac_num (a := a) (b := b) (by omega) (by omega)
        exact ⟨z, h1, by omega⟩
      have xp : 0 < Rat.divInt a b := frac_pos (by omega) (by omega)
      have rr : ∀ μ, T.run (k + 4) 5 [.int a, .int b] μ = some (rd (Rat.divInt a b), μ) := fun μ => run_ratio (k + 1) a b μ (by omega) (by
        have : b.natAbs < 2 ^ 3 := by omega
        exact Nat.lt_of_lt_of_le this (Nat.pow_le_pow_right (by decide) (by decide)))
      generalize Rat.divInt a b = q at *
      have i1 : ∀ z4 z5, fBin dMul (fCon (.int 2)) (fVar 3) [some (.cel n), some (.int (many : Int)), some (Row.data r), some (.int (0 + (i : Int))), z4, z5] μ' = some (.int ((2 * i : Nat) : Int), μ') := fun z4 z5 => by
        refine (mul_int rfl rfl (by decide) (by show (0 + (i : Int)).natAbs < _; have : i < 2 ^ 4 := by omega
                                                rw [Int.zero_add, Int.natAbs_natCast]
                                                exact Nat.lt_of_lt_of_le this (Nat.pow_le_pow_right (by decide) (by decide)))).trans ?_
        congr 3
        omega
      have e0 : w_0 (T.run (k + 4)) [some (.cel n), some (.int (many : Int)), some (Row.data r), some (.int (0 + (i : Int))), z4, z5] μ' = some (.nx [some (.cel n), some (.int (many : Int)), some (Row.data r), some (.int (0 + (i : Int))), some (.int ds[2 * i]), z5] μ') :=
        asg (draw_at rfl hc (i1 z4 z5) b1) rfl
      have e1 : w_1 (T.run (k + 4)) [some (.cel n), some (.int (many : Int)), some (Row.data r), some (.int (0 + (i : Int))), some (.int ds[2 * i]), z5] μ' = some (.nx [some (.cel n), some (.int (many : Int)), some (Row.data r), some (.int (0 + (i : Int))), some (.int ds[2 * i]), some (rd q)] μ') := by
        refine asg ((app2 (x := .int a) (y := .int b) (μ1 := μ') (μ2 := μ') ?_ ?_).trans (rr μ')) rfl
        · exact (add_int rfl (mod_int rfl rfl (by decide))).trans (by rw [hx1])
        · refine (add_int rfl (mod_int (draw_at rfl hc (n := 2 * i + 1) ?_ b2) rfl (by decide))).trans (by rw [hx2])
          exact (add_int (i1 _ _) rfl).trans (by congr 3)
      have em : fApp (T.run (k + 4) 7) (fCons (fTup (fCons (fCon (.int (0))) (fCons (fCon (.int (1))) fNil))) (fCons (fVar 5) fNil)) [some (.cel n), some (.int (many : Int)), some (Row.data r), some (.int (0 + (i : Int))), some (.int ds[2 * i]), some (rd q)] μ' = some (rd (0 - q), μ') :=
        (app2 (tup2 rfl rfl) rfl).trans (run_minus k 0 q μ' sm_zero (xb.sm (by decide)))
      have e2 : ∃ e : El, e.Ok ∧ w_2 (T.run (k + 4)) [some (.cel n), some (.int (many : Int)), some (Row.data r), some (.int (0 + (i : Int))), some (.int ds[2 * i]), some (rd q)] μ' = some (.nx [some (.cel n), some (.int (many : Int)), some (Row.data (r ++ [e])), some (.int (0 + (i : Int))), some (.int ds[2 * i]), some (rd q)] μ') := by
        have t1 := eq_int (ρ := [some (.cel n), some (.int (many : Int)), some (Row.data r), some (.int (0 + (i : Int))), some (.int ds[2 * i]), some (rd q)]) (μ := μ') (mod_int (div_int (f := fVar 4) (g := fCon (.int 7)) rfl rfl (by decide) (by decide)) (g := fCon (.int 2)) rfl (by decide)) (g := fCon (.int 0)) rfl
        have t2 := eq_int (ρ := [some (.cel n), some (.int (many : Int)), some (Row.data r), some (.int (0 + (i : Int))), some (.int ds[2 * i]), some (rd q)]) (μ := μ') (mod_int (div_int (f := fVar 4) (g := fCon (.int 14)) rfl rfl (by decide) (by decide)) (g := fCon (.int 2)) rfl (by decide)) (g := fCon (.int 0)) rfl
        unfold w_2
        by_cases c1 : ds[2 * i] / 7 % 2 = 0
        · rw [decide_eq_true c1] at t1
          refine ⟨⟨true, q⟩, gap_ok xp xn (xb.mono (by decide)), (if_t t1).trans ?_⟩
          exact (seq_nx (asg (data_snoc r ⟨true, q⟩ _ _ rfl (tup1 (tup2 rfl rfl)) (by omega)) rfl)).trans rfl
        · rw [decide_eq_false c1] at t1
          by_cases c2 : ds[2 * i] / 14 % 2 = 0
          · rw [decide_eq_true c2] at t2
            refine ⟨⟨false, q⟩, lens_ok (by grind) xn (xb.mono (by decide)), (if_f t1).trans ?_⟩
            refine (seq_nx (asg (data_snoc r ⟨false, q⟩ _ _ rfl (tup1 (tup2 (y := rd q) (μ2 := μ') rfl ?_)) (by omega)) rfl)).trans rfl
            simp only [fIte, t2]
            rfl
          · rw [decide_eq_false c2] at t2
            refine ⟨⟨false, 0 - q⟩, lens_ok (by grind) (neg_num xn) ((neg_bd xb).mono (by decide)), (if_f t1).trans ?_⟩
            refine (seq_nx (asg (data_snoc r ⟨false, 0 - q⟩ _ _ rfl (tup1 (tup2 (y := rd (0 - q)) (μ2 := μ') rfl ?_)) (by omega)) rfl)).trans rfl
            simp only [fIte, t2]
            exact em
      obtain ⟨e, he, e2⟩ := e2
      refine ⟨[some (.cel n), some (.int (many : Int)), some (Row.data r), some (.int (0 + (i : Int))), z4, z5], μ', [some (.cel n), some (.int (many : Int)), some (Row.data (r ++ [e])), some (.int (0 + (i : Int))), some (.int ds[2 * i]), some (rd q)], μ', rfl, .inl ?_, r ++ [e], ?_, ?_, _, _, _, rfl, rfl⟩
      · unfold w_body
        rw [seq_nx e0, seq_nx e1, seq_nx e2]
        rfl
      · intro f hf
        rcases List.mem_append.mp hf with hf | hf
        · exact hr f hf
        · rw [List.mem_singleton.mp hf]; exact he
      · rw [List.length_append, hrl]; rfl
  refine ⟨r, hr, by rw [hrl, rngs_length], ?_⟩
  rw [r26, w_split]
  rw [seq_nx (ρ1 := [some (.cel n), some (.int (many : Int)), some (Row.data []), none, none, none]) (μ1 := μ1) rfl, seq_nx f1]
  exact fin_ret _ _
end K05
end

section
set_option Elab.async false
set_option linter.all false
set_option maxRecDepth 100000
set_option maxHeartbeats 4000000
set_option exponentiation.threshold 20000
namespace K05
open PySem Mini
open L2 (atI ixN)

def y_0 (cl : Nat → OpA) : EvS := (sAsg (fLc (iRng1 (fCons (fCon (.int (2))) fNil)) (gName 20) tYesD (fApp (cl 26) (fCons (fSl (fVar 1) (fPart (fBin dAdd (fBin dAdd (fCon (.int (10))) (fBin dMul (fCon (.int (40))) (fVar 2))) (fBin dMul (fCon (.int (18))) (fVar 20)))) fPart0) (fCons (fBin dMod (fApp bInt (fCons (fBin dIx (fVar 1) (fBin dAdd (fVar 2) (fVar 20))) fNil)) (fCon (.int (9)))) fNil))) [20]) (gTup 2 (gCons (gName 10) (gCons (gName 11) gNil))))
def y_1 (cl : Nat → OpA) : EvS := (sPar 12 13 (fCons (fApp (cl 20) (fCons (fVar 10) fNil)) (fCons (fApp (cl 20) (fCons (fVar 11) fNil)) fNil)))
def y_2 (cl : Nat → OpA) : EvS := (sAsg (fApp (cl 20) (fCons (fBin dAdd (fVar 10) (fVar 11)) fNil)) (gName 3))
def y_3 (cl : Nat → OpA) : EvS := (sIf (tOrD (tBl (fBin dNe (fVar 3) (fApp (cl 22) (fCons (fVar 12) (fCons (fVar 13) fNil))))) (tBl (fBin dNe (fApp (cl 7) (fCons (fApp (cl 8) (fCons (fBin dIx (fVar 3) (fCon (.int (0)))) (fCons (fBin dIx (fVar 3) (fCon (.int (3)))) fNil))) (fCons (fApp (cl 8) (fCons (fBin dIx (fVar 3) (fCon (.int (1)))) (fCons (fBin dIx (fVar 3) (fCon (.int (2)))) fNil))) fNil))) (fTup (fCons (fCon (.int (1))) (fCons (fCon (.int (1))) fNil)))))) (sSeq (sRet (fCon (.bl false))) sNil) sNil)
def y_4 (cl : Nat → OpA) : EvS := (sAsg (fVar 12) (gTup 4 (gCons (gName 14) (gCons (gName 15) (gCons (gName 16) (gCons (gName 17) gNil))))))
def y_5 (cl : Nat → OpA) : EvS := (sIf (tOrD (tBl (fBin dNe (fApp (cl 20) (fCons (fUn dRev (fVar 10)) fNil)) (fTup (fCons (fVar 17) (fCons (fVar 15) (fCons (fVar 16) (fCons (fVar 14) fNil))))))) (tOrD (tBl (fBin dNe (fApp (cl 22) (fCons (fVar 12) (fCons (fApp (cl 23) (fCons (fVar 12) fNil)) fNil))) (fTup (fCons (fTup (fCons (fCon (.int (1))) (fCons (fCon (.int (1))) fNil))) (fCons (fTup (fCons (fCon (.int (0))) (fCons (fCon (.int (1))) fNil))) (fCons (fTup (fCons (fCon (.int (0))) (fCons (fCon (.int (1))) fNil))) (fCons (fTup (fCons (fCon (.int (1))) (fCons (fCon (.int (1))) fNil))) fNil))))))) (tBl (fBin dNe (fApp (cl 23) (fCons (fApp (cl 23) (fCons (fVar 12) fNil)) fNil)) (fVar 12))))) (sSeq (sRet (fCon (.bl false))) sNil) sNil)
def y_6 (cl : Nat → OpA) : EvS := (sIf (tOrD (tBl (fBin dNe (fApp (cl 23) (fCons (fVar 3) fNil)) (fApp (cl 22) (fCons (fApp (cl 23) (fCons (fVar 13) fNil)) (fCons (fApp (cl 23) (fCons (fVar 12) fNil)) fNil))))) (tBl (fBin dNe (fApp (cl 20) (fCons (fTup fNil) fNil)) (fTup (fCons (fTup (fCons (fCon (.int (1))) (fCons (fCon (.int (1))) fNil))) (fCons (fTup (fCons (fCon (.int (0))) (fCons (fCon (.int (1))) fNil))) (fCons (fTup (fCons (fCon (.int (0))) (fCons (fCon (.int (1))) fNil))) (fCons (fTup (fCons (fCon (.int (1))) (fCons (fCon (.int (1))) fNil))) fNil)))))))) (sSeq (sRet (fCon (.bl false))) sNil) sNil)
def y_7 (cl : Nat → OpA) : EvS := (sAsg (fTup (fCons (fApp (cl 5) (fCons (fBin dSub (fBin dMod (fApp bInt (fCons (fBin dIx (fVar 1) (fBin dAdd (fCon (.int (260))) (fVar 2))) fNil)) (fCon (.int (11)))) (fCon (.int (5)))) (fCons (fBin dAdd (fCon (.int (1))) (fBin dMod (fApp bInt (fCons (fBin dIx (fVar 1) (fBin dAdd (fCon (.int (265))) (fVar 2))) fNil)) (fCon (.int (3))))) fNil))) (fCons (fApp (cl 5) (fCons (fBin dSub (fBin dMod (fApp bInt (fCons (fBin dIx (fVar 1) (fBin dAdd (fCon (.int (270))) (fVar 2))) fNil)) (fCon (.int (9)))) (fCon (.int (4)))) (fCons (fBin dAdd (fCon (.int (1))) (fBin dMod (fApp bInt (fCons (fBin dIx (fVar 1) (fBin dAdd (fCon (.int (275))) (fVar 2))) fNil)) (fCon (.int (3))))) fNil))) fNil))) (gName 4))
def y_8 (cl : Nat → OpA) : EvS := (sAsg (fApp (cl 19) (fCons (fBin dAdd (fVar 10) (fVar 11)) (fCons (fVar 4) fNil))) (gName 5))
def y_9 (cl : Nat → OpA) : EvS := (sIf (tOrD (tBl (fBin dNe (fSl (fVar 5) fPart0 (fPart (fBin dAdd (fApp bLen (fCons (fVar 10) fNil)) (fCon (.int (1)))))) (fApp (cl 19) (fCons (fVar 10) (fCons (fVar 4) fNil))))) (tOrD (tBl (fBin dNe (fSl (fVar 5) (fPart (fApp bLen (fCons (fVar 10) fNil))) fPart0) (fApp (cl 19) (fCons (fVar 11) (fCons (fBin dIx (fVar 5) (fApp bLen (fCons (fVar 10) fNil))) fNil))))) (tOrD (tBl (fBin dNe (fBin dIx (fVar 5) (fUn dNeg (fCon (.int (1))))) (fApp (cl 21) (fCons (fVar 3) (fCons (fVar 4) fNil))))) (tBl (fBin dNe (fApp (cl 21) (fCons (fVar 13) (fCons (fApp (cl 21) (fCons (fVar 12) (fCons (fVar 4) fNil))) fNil))) (fBin dIx (fVar 5) (fUn dNeg (fCon (.int (1)))))))))) (sSeq (sRet (fCon (.bl false))) sNil) sNil)
def y_10 (cl : Nat → OpA) : EvS := (sIf (tBl (fBin dNe (fApp (cl 21) (fCons (fApp (cl 23) (fCons (fVar 12) fNil)) (fCons (fApp (cl 21) (fCons (fVar 12) (fCons (fVar 4) fNil))) fNil))) (fVar 4))) (sSeq (sRet (fCon (.bl false))) sNil) sNil)
def y_11 (cl : Nat → OpA) : EvS := (sAsg (fApp (cl 5) (fCons (fBin dAdd (fCon (.int (1))) (fBin dMod (fApp bInt (fCons (fBin dIx (fVar 1) (fBin dAdd (fCon (.int (280))) (fVar 2))) fNil)) (fCon (.int (40))))) (fCons (fBin dAdd (fCon (.int (1))) (fBin dMod (fApp bInt (fCons (fBin dIx (fVar 1) (fBin dAdd (fCon (.int (285))) (fVar 2))) fNil)) (fCon (.int (3))))) fNil))) (gName 6))
def y_12 (cl : Nat → OpA) : EvS := (sAsg (fApp (cl 5) (fCons (fBin dMod (fApp bInt (fCons (fBin dIx (fVar 1) (fBin dAdd (fCon (.int (290))) (fVar 2))) fNil)) (fCon (.int (12)))) (fCons (fBin dAdd (fCon (.int (1))) (fBin dMod (fApp bInt (fCons (fBin dIx (fVar 1) (fBin dAdd (fCon (.int (293))) (fVar 2))) fNil)) (fCon (.int (2))))) fNil))) (gName 7))
def y_13 (cl : Nat → OpA) : EvS := (sAsg (fApp (cl 24) (fCons (fVar 12) (fCons (fVar 7) fNil))) (gName 8))
def y_14 (cl : Nat → OpA) : EvS := (sIf (tAndD (tBl (fBin dEq (fBin dIx (fVar 8) (fCon (.int (0)))) (fCon (.str "image")))) (tNotD (tVal (fApp (cl 10) (fCons (fVar 6) (fCons (fBin dIx (fVar 8) (fCon (.int (1)))) fNil)))))) (sSeq (sAsg (fApp (cl 24) (fCons (fVar 13) (fCons (fApp (cl 7) (fCons (fVar 6) (fCons (fBin dIx (fVar 8) (fCon (.int (1)))) fNil))) fNil))) (gName 18)) (sSeq (sAsg (fApp (cl 24) (fCons (fApp (cl 20) (fCons (fBin dAdd (fBin dAdd (fVar 10) (fTup (fCons (fTup (fCons (fCon (.str "gap")) (fCons (fVar 6) fNil))) fNil))) (fVar 11)) fNil)) (fCons (fVar 7) fNil))) (gName 19)) (sSeq (sIf (tOrD (tBl (fBin dNe (fBin dIx (fVar 19) (fCon (.int (0)))) (fBin dIx (fVar 18) (fCon (.int (0)))))) (tAndD (tBl (fBin dEq (fBin dIx (fVar 19) (fCon (.int (0)))) (fCon (.str "image")))) (tOrD (tBl (fBin dNe (fBin dIx (fVar 19) (fCon (.int (1)))) (fBin dIx (fVar 18) (fCon (.int (1)))))) (tBl (fBin dNe (fBin dIx (fVar 19) (fCon (.int (2)))) (fApp (cl 8) (fCons (fBin dIx (fVar 8) (fCon (.int (2)))) (fCons (fBin dIx (fVar 18) (fCon (.int (2)))) fNil)))))))) (sSeq (sRet (fCon (.bl false))) sNil) sNil) sNil))) sNil)
def y_15 (cl : Nat → OpA) : EvS := (sFor (iSeq (fTup (fCons (fCon (.str "gap")) (fCons (fCon (.str "lens")) fNil)))) (gName 9) (sSeq (sIf (tBl (fBin dNe (fApp (cl 20) (fCons (fBin dAdd (fTup (fCons (fTup (fCons (fVar 9) (fCons (fVar 6) fNil))) (fCons (fTup (fCons (fVar 9) (fCons (fVar 6) fNil))) fNil))) (fVar 10)) fNil)) (fApp (cl 20) (fCons (fBin dAdd (fTup (fCons (fTup (fCons (fVar 9) (fCons (fApp (cl 6) (fCons (fVar 6) (fCons (fVar 6) fNil))) fNil))) fNil)) (fVar 10)) fNil)))) (sSeq (sRet (fCon (.bl false))) sNil) sNil) sNil))
def y_16 (cl : Nat → OpA) : EvS := (sIf (tBl (fBin dNe (fApp (cl 20) (fCons (fBin dAdd (fVar 10) (fTup (fCons (fTup (fCons (fCon (.str "lens")) (fCons (fVar 6) fNil))) (fCons (fTup (fCons (fCon (.str "lens")) (fCons (fApp (cl 7) (fCons (fTup (fCons (fCon (.int (0))) (fCons (fCon (.int (1))) fNil))) (fCons (fVar 6) fNil))) fNil))) fNil)))) fNil)) (fVar 12))) (sSeq (sRet (fCon (.bl false))) sNil) sNil)
def y_body (cl : Nat → OpA) : EvS := (sSeq (y_0 cl) (sSeq (y_1 cl) (sSeq (y_2 cl) (sSeq (y_3 cl) (sSeq (y_4 cl) (sSeq (y_5 cl) (sSeq (y_6 cl) (sSeq (y_7 cl) (sSeq (y_8 cl) (sSeq (y_9 cl) (sSeq (y_10 cl) (sSeq (y_11 cl) (sSeq (y_12 cl) (sSeq (y_13 cl) (sSeq (y_14 cl) (sSeq (y_15 cl) (sSeq (y_16 cl) sNil)))))))))))))))))
theorem y_split (cl : Nat → OpA) : b27 cl = (sSeq (sAsg (fApp (cl 25) (fCons (fVar 0) (fCons (fCon (.int (300))) fNil))) (gName 1)) (sSeq (sFor (iRng1 (fCons (fCon (.int (6))) fNil)) (gName 2) (y_body cl)) (sSeq (sRet (fCon (.bl true))) sNil))) := rfl

abbrev C : Nat → OpA := T.run 11
structure Tw (F S : Row) : Prop where
  hF : F.Ok
  hS : S.Ok
  lF : F.length ≤ 8
  lS : S.length ≤ 8
theorem Row.Ok.app {r s : Row} (h : r.Ok) (g : s.Ok) : Row.Ok (r ++ s) := fun e he => (List.mem_append.mp he).elim (h e) (g e)
theorem ok_nil : Row.Ok [] := fun _ h => by cases h
theorem ok_one {e : El} (h : e.Ok) : Row.Ok [e] := fun f hf => by rw [List.mem_singleton.mp hf]; exact h
variable {F S : Row} {p : Rat × Rat} {g d : Rat}
theorem Tw.bA (h : Tw F S) : BdM 80 F.mat := Row.bd h.hF h.lF
theorem Tw.bB (h : Tw F S) : BdM 80 S.mat := Row.bd h.hS h.lS
theorem Tw.hW (h : Tw F S) : Row.Ok (F ++ S) := h.hF.app h.hS
theorem Tw.lW (h : Tw F S) : (F ++ S).length ≤ 16 := by
  have h1 := h.lF
  have h2 := h.lS
  rw [List.length_append]
  omega
theorem Tw.bW (h : Tw F S) : BdM 160 (Row.mat (F ++ S)) := Row.bd h.hW h.lW
theorem c20 (r : Row) (h : r.Ok) (hl : r.length ≤ 40) (μ : Store) : C 20 [r.data] μ = some (md r.mat, μ) := run_matof 5 r μ h hl
theorem c22 {n : Nat} (m p : Mx) (hm : BdM n m) (hp : BdM n p) (l : n ≤ 1900) (dm : det m = 1) (dp : det p = 1) (μ : Store) : C 22 [md m, md p] μ = some (md (mulM p m), μ) := run_behind 4 m p μ (hm.mono l) dm (hp.mono l) dp
theorem c23 {n : Nat} (m : Mx) (hm : BdM n m) (l : n ≤ 1900) (dm : det m = 1) (μ : Store) : C 23 [md m] μ = some (md (invM m), μ) := run_undone 4 m μ (hm.mono l) dm
theorem c21 {n : Nat} (m : Mx) (p : Rat × Rat) (hm : BdM n m) (l : n ≤ 1900) (dm : det m = 1) (gp : BdR n p) (μ : Store) : C 21 [md m, rayd p] μ = some (rayd (app m p), μ) := run_passed 4 m p μ (hm.mono l) dm ⟨gp.u.mono l, gp.v.mono l⟩
theorem bd_inv {n : Nat} {m : Mx} (h : BdM n m) : BdM n (invM m) := ⟨h.d, neg_bd h.b, neg_bd h.c, h.a⟩
theorem plain_rd (r : Rat) : Mini.plain 9 (rd r) = true := by simp [rd, Mini.plain]
theorem plain_md (m : Mx) : Mini.plain 9 (md m) = true := by simp [md, rd, Mini.plain]
theorem plain_ray (p : Rat × Rat) : Mini.plain 9 (rayd p) = true := by simp [rayd, ray, rd, Mini.plain]
theorem eqM {m n : Mx} (h : m = n) (μ : Store) : eqD (md m) (md n) μ = some true := by rw [h]; exact eqD_self 9 (by decide) (plain_md n) μ
theorem eqR {m n : Rat} (h : m = n) (μ : Store) : eqD (rd m) (rd n) μ = some true := by rw [h]; exact eqD_self 9 (by decide) (plain_rd n) μ
theorem eqP {m n : Rat × Rat} (h : m = n) (μ : Store) : eqD (rayd m) (rayd n) μ = some true := by rw [h]; exact eqD_self 9 (by decide) (plain_ray n) μ
theorem tup4 {f1 f2 f3 f4 : EvF} {ρ : Slots} {μ : Store} {a b c d : D} (h1 : f1 ρ μ = some (a, μ)) (h2 : f2 ρ μ = some (b, μ)) (h3 : f3 ρ μ = some (c, μ)) (h4 : f4 ρ μ = some (d, μ)) : fTup (fCons f1 (fCons f2 (fCons f3 (fCons f4 fNil)))) ρ μ = some (.tup [a, b, c, d], μ) := by
  simp only [fTup, fCons, fNil, h1, h2, h3, h4]
  simp [seqMax]
theorem ix_md {f : EvF} {ρ : Slots} {μ : Store} {m : Mx} (h : f ρ μ = some (md m, μ)) :
    fBin dIx f (fCon (.int 0)) ρ μ = some (rd m.a, μ) ∧ fBin dIx f (fCon (.int 1)) ρ μ = some (rd m.b, μ) ∧ fBin dIx f (fCon (.int 2)) ρ μ = some (rd m.c, μ) ∧ fBin dIx f (fCon (.int 3)) ρ μ = some (rd m.d, μ) :=
  ⟨(bin h rfl).trans rfl, (bin h rfl).trans rfl, (bin h rfl).trans rfl, (bin h rfl).trans rfl⟩
theorem data_app (r s : Row) (ρ : Slots) (μ : Store) {fa fb : EvF} (h : fa ρ μ = some (Row.data r, μ)) (g : fb ρ μ = some (Row.data s, μ)) (hr : r.length ≤ 100) (hs : s.length ≤ 100) : fBin dAdd fa fb ρ μ = some (Row.data (r ++ s), μ) := by
  refine (bin h g).trans ?_
  unfold Row.data dAdd
  simp only
  rw [if_pos (by have : seqMax = 1000000 := rfl; simp; omega), List.map_append]

section
variable {c : Nat} {s : Option D} {t : Nat} {z3 z4 z5 z6 z7 z8 z9 z10 z11 z12 z13 z14 z15 z16 z17 z18 z19 z20 : Option D} {μ : Store}
theorem y0_ok {ds : List Int} (hd : Dr ds) (hl : ds.length = 300) (ht : t < 6) (hc : μ[c]? = some (.lst (ds.map D.int))) :
    ∃ F S w, Tw F S ∧ y_0 C [s, some (.cel c), some (.int (t : Int)), z3, z4, z5, z6, z7, z8, z9, z10, z11, z12, z13, z14, z15, z16, z17, z18, z19, z20] μ = some (.nx [s, some (.cel c), some (.int (t : Int)), z3, z4, z5, z6, z7, z8, z9, some (Row.data F), some (Row.data S), z12, z13, z14, z15, z16, z17, z18, z19, z20] (μ ++ w)) := by
  have hcl : c < μ.length := (List.getElem?_eq_some_iff.mp hc).1
  obtain ⟨L, w, h1, h2, h3⟩ := fLc_grow (it := iRng1 (fCons (fCon (.int (2))) fNil)) (src := .rng 0 2) (g := gName 20) (t := tYesD)
    (f := fApp (C 26) (fCons (fSl (fVar 1) (fPart (fBin dAdd (fBin dAdd (fCon (.int (10))) (fBin dMul (fCon (.int (40))) (fVar 2))) (fBin dMul (fCon (.int (18))) (fVar 20)))) fPart0) (fCons (fBin dMod (fApp bInt (fCons (fBin dIx (fVar 1) (fBin dAdd (fVar 2) (fVar 20))) fNil)) (fCon (.int (9)))) fNil))) (own := [20]) (ρ := [s, some (.cel c), some (.int (t : Int)), z3, z4, z5, z6, z7, z8, z9, z10, z11, z12, z13, z14, z15, z16, z17, z18, z19, z20]) (μ := μ) (μ0 := μ) (rngs 0 2)
    (fun _ d => ∃ r : Row, r.Ok ∧ r.length ≤ 8 ∧ d = r.data) rfl (by rw [rngs_length]; omega) (fun acc w i => rng_at 0 2 _ i) fun i x acc w hx => by
      obtain ⟨hi, rfl⟩ := rngs_get hx
      have hM : (μ ++ Cell.lst acc :: w)[c]? = some (.lst (ds.map D.int)) := by rw [List.getElem?_append_left hcl]; exact hc
      generalize hMe : μ ++ Cell.lst acc :: w = M at hM
      have hi5 : i < 2 := hi
      have b3 : (t + i) < ds.length := by omega
      obtain ⟨q0, q1⟩ := emod_b ds[t + i] (by decide : (0 : Int) < 9)
      have hcut : dSl (.cel c) (some ((10 + 40 * t + 18 * i : Nat) : Int)) none M = some (.cel M.length, M ++ [.lst ((ds.drop (10 + 40 * t + 18 * i)).map D.int)]) := by
        simp only [dSl, hM, cut_lo, List.map_drop]
      have hcM : c < M.length := by rw [← hMe, List.length_append]; omega
      obtain ⟨r, hr, hrl, hrun⟩ := run_lawrow 6 M.length (ds.drop (10 + 40 * t + 18 * i)) (fun e he => hd e (List.mem_of_mem_drop he)) (ds[t + i] % 9).toNat (by omega) (by rw [List.length_drop]; omega) (M ++ [.lst ((ds.drop (10 + 40 * t + 18 * i)).map D.int)]) (by simp)
      rw [show (((ds[t + i] % 9).toNat : Nat) : Int) = ds[t + i] % 9 by omega] at hrun
      refine ⟨[s, some (.cel c), some (.int (t : Int)), z3, z4, z5, z6, z7, z8, z9, z10, z11, z12, z13, z14, z15, z16, z17, z18, z19, some (.int (0 + (i : Int)))], r.data, w ++ [.lst ((ds.drop (10 + 40 * t + 18 * i)).map D.int)], rfl, rfl, (app2 (x := .cel M.length) (y := .int (ds[t + i] % 9)) (μ1 := M ++ [.lst ((ds.drop (10 + 40 * t + 18 * i)).map D.int)]) (μ2 := M ++ [.lst ((ds.drop (10 + 40 * t + 18 * i)).map D.int)]) ?_ ?_).trans ?_, r, hr, by omega, rfl⟩
      · have e1 : fBin dAdd (fBin dAdd (fCon (.int (10))) (fBin dMul (fCon (.int (40))) (fVar 2))) (fBin dMul (fCon (.int (18))) (fVar 20)) [s, some (.cel c), some (.int (t : Int)), z3, z4, z5, z6, z7, z8, z9, z10, z11, z12, z13, z14, z15, z16, z17, z18, z19, some (.int (0 + (i : Int)))] M = some (.int ((10 + 40 * t + 18 * i : Nat) : Int), M) := by
          have s1 : ((t : Int)).natAbs < 2 ^ 100 := Nat.lt_of_lt_of_le (by omega : (t : Int).natAbs < 2 ^ 3) (Nat.pow_le_pow_right (by decide) (by decide))
          have s2 : (0 + (i : Int)).natAbs < 2 ^ 100 := Nat.lt_of_lt_of_le (by omega : (0 + (i : Int)).natAbs < 2 ^ 3) (Nat.pow_le_pow_right (by decide) (by decide))
          refine (add_int (add_int rfl (mul_int (x := 40) (y := (t : Int)) rfl rfl (by decide) s1)) (mul_int (x := 18) (y := 0 + (i : Int)) rfl rfl (by decide) s2)).trans ?_
          congr 3
          omega
        unfold fSl
        rw [var (d := .cel c) M rfl]
        simp only [fPart, fPart0, e1]
        exact hcut
      · refine mod_int (draw_at rfl ?_ (n := t + i) ?_ b3) rfl (by decide)
        · rw [List.getElem?_append_left hcM]; exact hM
        · exact (add_int rfl rfl).trans (by congr 3; omega)
      · refine Eq.trans hrun ?_
        rw [← hMe]
        simp
  rw [rngs_length] at h2
  match L, h2, h1, h3 with
  | [d1, d2], _, h1, h3 =>
    obtain ⟨F, hF, lF, rfl⟩ := h3 0 d1 rfl
    obtain ⟨S, hS, lS, rfl⟩ := h3 1 d2 rfl
    refine ⟨F, S, Cell.lst [F.data, S.data] :: w, ⟨hF, hS, lF, lS⟩, asg h1 ?_⟩
    simp [gTup, seqOf, gCons, gName, gNil]
theorem y1_ok (h : Tw F S) : y_1 C [s, some (.cel c), some (.int (t : Int)), z3, z4, z5, z6, z7, z8, z9, some (Row.data F), some (Row.data S), z12, z13, z14, z15, z16, z17, z18, z19, z20] μ = some (.nx [s, some (.cel c), some (.int (t : Int)), z3, z4, z5, z6, z7, z8, z9, some (Row.data F), some (Row.data S), some (md (Row.mat F)), some (md (Row.mat S)), z14, z15, z16, z17, z18, z19, z20] μ) := by
  have e1 := c20 F h.hF (by have := h.lF; omega) μ
  have e2 := c20 S h.hS (by have := h.lS; omega) μ
  unfold y_1
  simp only [sPar, fCons, fNil, app1 (o := C 20) (f := fVar 10) (ρ := [s, some (.cel c), some (.int (t : Int)), z3, z4, z5, z6, z7, z8, z9, some (Row.data F), some (Row.data S), z12, z13, z14, z15, z16, z17, z18, z19, z20]) (μ := μ) rfl, app1 (o := C 20) (f := fVar 11) (ρ := [s, some (.cel c), some (.int (t : Int)), z3, z4, z5, z6, z7, z8, z9, some (Row.data F), some (Row.data S), z12, z13, z14, z15, z16, z17, z18, z19, z20]) (μ := μ) rfl, e1, e2]
  rfl
theorem y2_ok (h : Tw F S) : y_2 C [s, some (.cel c), some (.int (t : Int)), z3, z4, z5, z6, z7, z8, z9, some (Row.data F), some (Row.data S), some (md (Row.mat F)), some (md (Row.mat S)), z14, z15, z16, z17, z18, z19, z20] μ = some (.nx [s, some (.cel c), some (.int (t : Int)), some (md (Row.mat (F ++ S))), z4, z5, z6, z7, z8, z9, some (Row.data F), some (Row.data S), some (md (Row.mat F)), some (md (Row.mat S)), z14, z15, z16, z17, z18, z19, z20] μ) := by
  have := h.lF
  have := h.lS
  have := h.lW
  exact asg ((app1 (data_app F S _ _ rfl rfl (by omega) (by omega))).trans (c20 _ h.hW (by omega) μ)) rfl
theorem y3_ok (h : Tw F S) : y_3 C [s, some (.cel c), some (.int (t : Int)), some (md (Row.mat (F ++ S))), z4, z5, z6, z7, z8, z9, some (Row.data F), some (Row.data S), some (md (Row.mat F)), some (md (Row.mat S)), z14, z15, z16, z17, z18, z19, z20] μ = some (.nx [s, some (.cel c), some (.int (t : Int)), some (md (Row.mat (F ++ S))), z4, z5, z6, z7, z8, z9, some (Row.data F), some (Row.data S), some (md (Row.mat F)), some (md (Row.mat S)), z14, z15, z16, z17, z18, z19, z20] μ) := by
  refine (if_ff (μ1 := μ) (or_ff (μ1 := μ) (ne_ff (μ1 := μ) (x := md (Row.mat (F ++ S))) (y := md (mulM S.mat F.mat)) rfl ?_ (eqM (row_append F S) μ)) (ne_ff (μ1 := μ) (x := rd (det (Row.mat (F ++ S)))) (y := rd 1) ?_ rfl (eqR (det_row _) μ)))).trans rfl
  · exact (app2 rfl rfl).trans (c22 _ _ h.bA h.bB (by decide) (det_row _) (det_row _) μ)
  · have b := h.bW
    have i := ix_md (f := fVar 3) (ρ := [s, some (.cel c), some (.int (t : Int)), some (md (Row.mat (F ++ S))), z4, z5, z6, z7, z8, z9, some (Row.data F), some (Row.data S), some (md (Row.mat F)), some (md (Row.mat S)), z14, z15, z16, z17, z18, z19, z20]) (μ := μ) (m := Row.mat (F ++ S)) rfl
    refine (app2 ((app2 i.1 i.2.2.2).trans (run_times 7 _ _ μ (b.a.sm (by decide)) (b.d.sm (by decide)))) ((app2 i.2.1 i.2.2.1).trans (run_times 7 _ _ μ (b.b.sm (by decide)) (b.c.sm (by decide))))).trans ?_
    exact run_minus 7 _ _ μ ((b.a.mul b.d).sm (by decide)) ((b.b.mul b.c).sm (by decide))
theorem y4_ok (h : Tw F S) : y_4 C [s, some (.cel c), some (.int (t : Int)), some (md (Row.mat (F ++ S))), z4, z5, z6, z7, z8, z9, some (Row.data F), some (Row.data S), some (md (Row.mat F)), some (md (Row.mat S)), z14, z15, z16, z17, z18, z19, z20] μ = some (.nx [s, some (.cel c), some (.int (t : Int)), some (md (Row.mat (F ++ S))), z4, z5, z6, z7, z8, z9, some (Row.data F), some (Row.data S), some (md (Row.mat F)), some (md (Row.mat S)), some (rd (Row.mat F).a), some (rd (Row.mat F).b), some (rd (Row.mat F).c), some (rd (Row.mat F).d), z18, z19, z20] μ) := rfl
theorem y5_ok (h : Tw F S) : y_5 C [s, some (.cel c), some (.int (t : Int)), some (md (Row.mat (F ++ S))), z4, z5, z6, z7, z8, z9, some (Row.data F), some (Row.data S), some (md (Row.mat F)), some (md (Row.mat S)), some (rd (Row.mat F).a), some (rd (Row.mat F).b), some (rd (Row.mat F).c), some (rd (Row.mat F).d), z18, z19, z20] μ = some (.nx [s, some (.cel c), some (.int (t : Int)), some (md (Row.mat (F ++ S))), z4, z5, z6, z7, z8, z9, some (Row.data F), some (Row.data S), some (md (Row.mat F)), some (md (Row.mat S)), some (rd (Row.mat F).a), some (rd (Row.mat F).b), some (rd (Row.mat F).c), some (rd (Row.mat F).d), z18, z19, z20] μ) := by
  have hl := h.lF
  have hr : Row.Ok F.reverse := fun e he => h.hF e (List.mem_reverse.mp he)
  have dA := det_row F
  refine (if_ff (μ1 := μ) (or_ff (μ1 := μ) (ne_ff (μ1 := μ) (x := md (Row.mat F.reverse)) (y := md (flipM F.mat)) ?_ ?_ (eqM (row_reverse F) μ)) (or_ff (μ1 := μ) (ne_ff (μ1 := μ) (x := md (mulM (invM F.mat) F.mat)) (y := md idM) ?_ ?_ (eqM (mul_inv _ dA) μ)) (ne_ff (μ1 := μ) (x := md (invM (invM F.mat))) (y := md F.mat) ?_ rfl (eqM (inv_inv _) μ))))).trans rfl
  · refine (app1 (x := Row.data F.reverse) (μ1 := μ) ?_).trans (c20 _ hr (by rw [List.length_reverse]; omega) μ)
    simp [fUn, fVar, dRev, Row.data, List.map_reverse]
  · exact tup4 rfl rfl rfl rfl
  · exact (app2 rfl ((app1 rfl).trans (c23 _ h.bA (by decide) dA μ))).trans (c22 _ _ h.bA (bd_inv h.bA) (by decide) dA (det_inv _ dA) μ)
  · rfl
  · exact (app1 ((app1 rfl).trans (c23 _ h.bA (by decide) dA μ))).trans (c23 _ (bd_inv h.bA) (by decide) (det_inv _ dA) μ)
theorem y6_ok (h : Tw F S) : y_6 C [s, some (.cel c), some (.int (t : Int)), some (md (Row.mat (F ++ S))), z4, z5, z6, z7, z8, z9, some (Row.data F), some (Row.data S), some (md (Row.mat F)), some (md (Row.mat S)), some (rd (Row.mat F).a), some (rd (Row.mat F).b), some (rd (Row.mat F).c), some (rd (Row.mat F).d), z18, z19, z20] μ = some (.nx [s, some (.cel c), some (.int (t : Int)), some (md (Row.mat (F ++ S))), z4, z5, z6, z7, z8, z9, some (Row.data F), some (Row.data S), some (md (Row.mat F)), some (md (Row.mat S)), some (rd (Row.mat F).a), some (rd (Row.mat F).b), some (rd (Row.mat F).c), some (rd (Row.mat F).d), z18, z19, z20] μ) := by
  have dA := det_row F
  have dB := det_row S
  refine (if_ff (μ1 := μ) (or_ff (μ1 := μ) (ne_ff (μ1 := μ) (x := md (invM (Row.mat (F ++ S)))) (y := md (mulM (invM F.mat) (invM S.mat))) ?_ ?_ (eqM ?_ μ)) (ne_ff (μ1 := μ) (x := md idM) (y := md idM) ?_ ?_ (eqM rfl μ)))).trans rfl
  · exact (app1 rfl).trans (c23 _ h.bW (by decide) (det_row _) μ)
  · exact (app2 ((app1 rfl).trans (c23 _ h.bB (by decide) dB μ)) ((app1 rfl).trans (c23 _ h.bA (by decide) dA μ))).trans (c22 _ _ (bd_inv h.bB) (bd_inv h.bA) (by decide) (det_inv _ dB) (det_inv _ dA) μ)
  · rw [row_append, inv_mul]
  · exact (app1 rfl).trans (c20 [] ok_nil (by decide) μ)
  · rfl
theorem ratio_at {fa fb : EvF} {ρ : Slots} {a b : Int} (ha : fa ρ μ = some (.int a, μ)) (hb : fb ρ μ = some (.int b, μ)) (h1 : 1 ≤ b) (h4 : b ≤ 4) : fApp (C 5) (fCons fa (fCons fb fNil)) ρ μ = some (rd (Rat.divInt a b), μ) :=
  (app2 ha hb).trans (run_ratio 8 a b μ (by omega) (Nat.lt_of_lt_of_le (by omega : b.natAbs < 2 ^ 3) (Nat.pow_le_pow_right (by decide) (by decide))))
theorem turn_at {ds : List Int} (hc : μ[c]? = some (.lst (ds.map D.int))) (n : Nat) (hn : n + t < ds.length) {ρ : Slots} (h1 : ρ[1]? = some (some (.cel c))) (h2 : ρ[2]? = some (some (.int (t : Int)))) :
    fApp bInt (fCons (fBin dIx (fVar 1) (fBin dAdd (fCon (.int (n : Int))) (fVar 2))) fNil) ρ μ = some (.int ds[n + t], μ) :=
  draw_at h1 hc ((add_int rfl (var μ h2)).trans (by congr 3)) hn
theorem y7_ok {ds : List Int} (hl : ds.length = 300) (ht : t < 6) (hc : μ[c]? = some (.lst (ds.map D.int))) : ∃ p, BdR 6 p ∧ y_7 C [s, some (.cel c), some (.int (t : Int)), some (md (Row.mat (F ++ S))), z4, z5, z6, z7, z8, z9, some (Row.data F), some (Row.data S), some (md (Row.mat F)), some (md (Row.mat S)), some (rd (Row.mat F).a), some (rd (Row.mat F).b), some (rd (Row.mat F).c), some (rd (Row.mat F).d), z18, z19, z20] μ = some (.nx [s, some (.cel c), some (.int (t : Int)), some (md (Row.mat (F ++ S))), some (rayd p), z5, z6, z7, z8, z9, some (Row.data F), some (Row.data S), some (md (Row.mat F)), some (md (Row.mat S)), some (rd (Row.mat F).a), some (rd (Row.mat F).b), some (rd (Row.mat F).c), some (rd (Row.mat F).d), z18, z19, z20] μ) := by
  have e1 := turn_at (ρ := [s, some (.cel c), some (.int (t : Int)), some (md (Row.mat (F ++ S))), z4, z5, z6, z7, z8, z9, some (Row.data F), some (Row.data S), some (md (Row.mat F)), some (md (Row.mat S)), some (rd (Row.mat F).a), some (rd (Row.mat F).b), some (rd (Row.mat F).c), some (rd (Row.mat F).d), z18, z19, z20]) hc 260 (by omega) rfl rfl
  have e2 := turn_at (ρ := [s, some (.cel c), some (.int (t : Int)), some (md (Row.mat (F ++ S))), z4, z5, z6, z7, z8, z9, some (Row.data F), some (Row.data S), some (md (Row.mat F)), some (md (Row.mat S)), some (rd (Row.mat F).a), some (rd (Row.mat F).b), some (rd (Row.mat F).c), some (rd (Row.mat F).d), z18, z19, z20]) hc 265 (by omega) rfl rfl
  have e3 := turn_at (ρ := [s, some (.cel c), some (.int (t : Int)), some (md (Row.mat (F ++ S))), z4, z5, z6, z7, z8, z9, some (Row.data F), some (Row.data S), some (md (Row.mat F)), some (md (Row.mat S)), some (rd (Row.mat F).a), some (rd (Row.mat F).b), some (rd (Row.mat F).c), some (rd (Row.mat F).d), z18, z19, z20]) hc 270 (by omega) rfl rfl
  have e4 := turn_at (ρ := [s, some (.cel c), some (.int (t : Int)), some (md (Row.mat (F ++ S))), z4, z5, z6, z7, z8, z9, some (Row.data F), some (Row.data S), some (md (Row.mat F)), some (md (Row.mat S)), some (rd (Row.mat F).a), some (rd (Row.mat F).b), some (rd (Row.mat F).c), some (rd (Row.mat F).d), z18, z19, z20]) hc 275 (by omega) rfl rfl
  obtain ⟨a1, b1⟩ := emod_b ds[260 + t] (by decide : (0 : Int) < 11)
  obtain ⟨a2, b2⟩ := emod_b ds[265 + t] (by decide : (0 : Int) < 3)
  obtain ⟨a3, b3⟩ := emod_b ds[270 + t] (by decide : (0 : Int) < 9)
  obtain ⟨a4, b4⟩ := emod_b ds[275 + t] (by decide : (0 : Int) < 3)
  refine ⟨(Rat.divInt (ds[260 + t] % 11 - 5) (1 + ds[265 + t] % 3), Rat.divInt (ds[270 + t] % 9 - 4) (1 + ds[275 + t] % 3)), ⟨frac_bd (by omega) (by omega) (by omega), frac_bd (by omega) (by omega) (by omega)⟩, asg (tup2 (ratio_at (sub_int (mod_int e1 rfl (by decide)) rfl) (add_int rfl (mod_int e2 rfl (by decide))) (by omega) (by omega)) (ratio_at (sub_int (mod_int e3 rfl (by decide)) rfl) (add_int rfl (mod_int e4 rfl (by decide))) (by omega) (by omega))) rfl⟩
theorem y8_ok (h : Tw F S) (hp : BdR 6 p) : y_8 C [s, some (.cel c), some (.int (t : Int)), some (md (Row.mat (F ++ S))), some (rayd p), z5, z6, z7, z8, z9, some (Row.data F), some (Row.data S), some (md (Row.mat F)), some (md (Row.mat S)), some (rd (Row.mat F).a), some (rd (Row.mat F).b), some (rd (Row.mat F).c), some (rd (Row.mat F).d), z18, z19, z20] μ = some (.nx [s, some (.cel c), some (.int (t : Int)), some (md (Row.mat (F ++ S))), some (rayd p), some (.cel μ.length), z6, z7, z8, z9, some (Row.data F), some (Row.data S), some (md (Row.mat F)), some (md (Row.mat S)), some (rd (Row.mat F).a), some (rd (Row.mat F).b), some (rd (Row.mat F).c), some (rd (Row.mat F).d), z18, z19, z20] (μ ++ [.lst (raysD (F ++ S) p)])) := by
  have := h.lF
  have := h.lS
  have := h.lW
  exact asg ((app2 (data_app F S _ _ rfl rfl (by omega) (by omega)) rfl).trans (run_carried 5 (F ++ S) p μ h.hW (by omega) ⟨hp.u.mono (by decide), hp.v.mono (by decide)⟩)) rfl
theorem plain_rays (r : Row) (p : Rat × Rat) : (raysD r p).all (Mini.plain 9) = true := by
  rw [List.all_eq_true]
  intro d hd
  obtain ⟨q, _, rfl⟩ := List.mem_map.mp hd
  exact plain_ray q
theorem y9_ok {q : Nat} (h : Tw F S) (hp : BdR 6 p) (hq : μ[q]? = some (.lst (raysD (F ++ S) p))) : ∃ w, y_9 C [s, some (.cel c), some (.int (t : Int)), some (md (Row.mat (F ++ S))), some (rayd p), some (.cel q), z6, z7, z8, z9, some (Row.data F), some (Row.data S), some (md (Row.mat F)), some (md (Row.mat S)), some (rd (Row.mat F).a), some (rd (Row.mat F).b), some (rd (Row.mat F).c), some (rd (Row.mat F).d), z18, z19, z20] μ = some (.nx [s, some (.cel c), some (.int (t : Int)), some (md (Row.mat (F ++ S))), some (rayd p), some (.cel q), z6, z7, z8, z9, some (Row.data F), some (Row.data S), some (md (Row.mat F)), some (md (Row.mat S)), some (rd (Row.mat F).a), some (rd (Row.mat F).b), some (rd (Row.mat F).c), some (rd (Row.mat F).d), z18, z19, z20] (μ ++ w)) := by
  have lF := h.lF
  have lS := h.lS
  have hql : q < μ.length := (List.getElem?_eq_some_iff.mp hq).1
  have bp : BdR 500 p := ⟨hp.u.mono (by decide), hp.v.mono (by decide)⟩
  have hlen : ∀ μ, fApp bLen (fCons (fVar 10) fNil) [s, some (.cel c), some (.int (t : Int)), some (md (Row.mat (F ++ S))), some (rayd p), some (.cel q), z6, z7, z8, z9, some (Row.data F), some (Row.data S), some (md (Row.mat F)), some (md (Row.mat S)), some (rd (Row.mat F).a), some (rd (Row.mat F).b), some (rd (Row.mat F).c), some (rd (Row.mat F).d), z18, z19, z20] μ = some (.int (F.length : Int), μ) := fun μ => by
    refine (app1 rfl).trans ?_
    simp [bLen, seqOf, Row.data]
  have hlen1 : ∀ μ, fBin dAdd (fApp bLen (fCons (fVar 10) fNil)) (fCon (.int 1)) [s, some (.cel c), some (.int (t : Int)), some (md (Row.mat (F ++ S))), some (rayd p), some (.cel q), z6, z7, z8, z9, some (Row.data F), some (Row.data S), some (md (Row.mat F)), some (md (Row.mat S)), some (rd (Row.mat F).a), some (rd (Row.mat F).b), some (rd (Row.mat F).c), some (rd (Row.mat F).d), z18, z19, z20] μ = some (.int ((F.length + 1 : Nat) : Int), μ) := fun μ => (add_int (g := fCon (.int 1)) (y := 1) (μ2 := μ) (hlen μ) rfl).trans (by push_cast; rfl)
  -- the first test
  let μ1 : Store := μ ++ [.lst (raysD F p)]
  have hq1 : μ1[q]? = some (.lst (raysD (F ++ S) p)) := by rw [List.getElem?_append_left hql]; exact hq
  let μ2 : Store := μ1 ++ [.lst (raysD F p)]
  have hq2 : μ2[q]? = some (.lst (raysD (F ++ S) p)) := by rw [List.getElem?_append_left (by simp [μ1]; omega)]; exact hq1
  let μ3 : Store := μ2 ++ [.lst (raysD S (app F.mat p))]
  have hq3 : μ3[q]? = some (.lst (raysD (F ++ S) p)) := by rw [List.getElem?_append_left (by simp [μ2, μ1]; omega)]; exact hq2
  let μ4 : Store := μ3 ++ [.lst (raysD S (app F.mat p))]
  have hq4 : μ4[q]? = some (.lst (raysD (F ++ S) p)) := by rw [List.getElem?_append_left (by simp [μ3, μ2, μ1]; omega)]; exact hq3
  have t1 : fSl (fVar 5) fPart0 (fPart (fBin dAdd (fApp bLen (fCons (fVar 10) fNil)) (fCon (.int (1))))) [s, some (.cel c), some (.int (t : Int)), some (md (Row.mat (F ++ S))), some (rayd p), some (.cel q), z6, z7, z8, z9, some (Row.data F), some (Row.data S), some (md (Row.mat F)), some (md (Row.mat S)), some (rd (Row.mat F).a), some (rd (Row.mat F).b), some (rd (Row.mat F).c), some (rd (Row.mat F).d), z18, z19, z20] μ = some (.cel μ.length, μ1) := by
    have e := cut_hi (raysD (F ++ S) p) (F.length + 1)
    have e' : (raysD (F ++ S) p).take (F.length + 1) = raysD F p := by rw [raysD, ← List.map_take, rays_take]; rfl
    rw [e'] at e
    unfold fSl
    rw [var (d := .cel q) μ rfl]
    simp only [fPart0, fPart, hlen1, dSl, hq, e]
    rfl
  have t2 : fApp (C 19) (fCons (fVar 10) (fCons (fVar 4) fNil)) [s, some (.cel c), some (.int (t : Int)), some (md (Row.mat (F ++ S))), some (rayd p), some (.cel q), z6, z7, z8, z9, some (Row.data F), some (Row.data S), some (md (Row.mat F)), some (md (Row.mat S)), some (rd (Row.mat F).a), some (rd (Row.mat F).b), some (rd (Row.mat F).c), some (rd (Row.mat F).d), z18, z19, z20] μ1 = some (.cel μ1.length, μ2) := (app2 rfl rfl).trans (run_carried 5 F p μ1 h.hF (by omega) bp)
  have t3 : fSl (fVar 5) (fPart (fApp bLen (fCons (fVar 10) fNil))) fPart0 [s, some (.cel c), some (.int (t : Int)), some (md (Row.mat (F ++ S))), some (rayd p), some (.cel q), z6, z7, z8, z9, some (Row.data F), some (Row.data S), some (md (Row.mat F)), some (md (Row.mat S)), some (rd (Row.mat F).a), some (rd (Row.mat F).b), some (rd (Row.mat F).c), some (rd (Row.mat F).d), z18, z19, z20] μ2 = some (.cel μ2.length, μ3) := by
    have e := cut_lo (raysD (F ++ S) p) F.length
    have e' : (raysD (F ++ S) p).drop F.length = raysD S (app F.mat p) := by rw [raysD, ← List.map_drop, rays_drop]; rfl
    rw [e'] at e
    unfold fSl
    rw [var (d := .cel q) μ2 rfl]
    simp only [fPart0, fPart, hlen, dSl, hq2, e]
    rfl
  have hlast : atI (raysD (F ++ S) p) (-1) = some (rayd (app (Row.mat (F ++ S)) p)) := raysD_last _ _
  have bF : BdR 200 (app F.mat p) := ⟨(BdR.app h.bA hp).u.mono (by decide), (BdR.app h.bA hp).v.mono (by decide)⟩
  have t4 : fApp (C 19) (fCons (fVar 11) (fCons (fBin dIx (fVar 5) (fApp bLen (fCons (fVar 10) fNil))) fNil)) [s, some (.cel c), some (.int (t : Int)), some (md (Row.mat (F ++ S))), some (rayd p), some (.cel q), z6, z7, z8, z9, some (Row.data F), some (Row.data S), some (md (Row.mat F)), some (md (Row.mat S)), some (rd (Row.mat F).a), some (rd (Row.mat F).b), some (rd (Row.mat F).c), some (rd (Row.mat F).d), z18, z19, z20] μ3 = some (.cel μ3.length, μ4) := by
    refine (app2 (x := S.data) (y := rayd (app F.mat p)) (μ1 := μ3) (μ2 := μ3) rfl ?_).trans (run_carried 5 S (app F.mat p) μ3 h.hS (by omega) ⟨bF.u.mono (by decide), bF.v.mono (by decide)⟩)
    refine (bin (var (d := .cel q) μ3 rfl) (hlen μ3)).trans ?_
    have e : atI (raysD (F ++ S) p) (F.length : Int) = some (rayd (app F.mat p)) := by
      rw [atI_nat (by rw [raysD, List.length_map, rays_length, List.length_append]; omega), raysD, List.getElem?_map, rays_mid]
      rfl
    simp only [dIx, hq3, e, Option.map_some]
  have t5 : fBin dIx (fVar 5) (fUn dNeg (fCon (.int (1)))) [s, some (.cel c), some (.int (t : Int)), some (md (Row.mat (F ++ S))), some (rayd p), some (.cel q), z6, z7, z8, z9, some (Row.data F), some (Row.data S), some (md (Row.mat F)), some (md (Row.mat S)), some (rd (Row.mat F).a), some (rd (Row.mat F).b), some (rd (Row.mat F).c), some (rd (Row.mat F).d), z18, z19, z20] μ4 = some (rayd (app (Row.mat (F ++ S)) p), μ4) := by
    refine (bin (var (d := .cel q) μ4 rfl) (y := .int (-1)) (μ2 := μ4) rfl).trans ?_
    simp only [dIx, hq4, hlast, Option.map_some]
  have t6 : fApp (C 21) (fCons (fVar 3) (fCons (fVar 4) fNil)) [s, some (.cel c), some (.int (t : Int)), some (md (Row.mat (F ++ S))), some (rayd p), some (.cel q), z6, z7, z8, z9, some (Row.data F), some (Row.data S), some (md (Row.mat F)), some (md (Row.mat S)), some (rd (Row.mat F).a), some (rd (Row.mat F).b), some (rd (Row.mat F).c), some (rd (Row.mat F).d), z18, z19, z20] μ4 = some (rayd (app (Row.mat (F ++ S)) p), μ4) := (app2 rfl rfl).trans (c21 _ _ h.bW (by decide) (det_row _) ⟨hp.u.mono (by decide), hp.v.mono (by decide)⟩ μ4)
  have t7 : fApp (C 21) (fCons (fVar 13) (fCons (fApp (C 21) (fCons (fVar 12) (fCons (fVar 4) fNil))) fNil)) [s, some (.cel c), some (.int (t : Int)), some (md (Row.mat (F ++ S))), some (rayd p), some (.cel q), z6, z7, z8, z9, some (Row.data F), some (Row.data S), some (md (Row.mat F)), some (md (Row.mat S)), some (rd (Row.mat F).a), some (rd (Row.mat F).b), some (rd (Row.mat F).c), some (rd (Row.mat F).d), z18, z19, z20] μ4 = some (rayd (app S.mat (app F.mat p)), μ4) :=
    (app2 rfl ((app2 rfl rfl).trans (c21 _ _ h.bA (by decide) (det_row _) ⟨hp.u.mono (by decide), hp.v.mono (by decide)⟩ μ4))).trans (c21 (n := 200) _ _ (h.bB.mono (by decide)) (by decide) (det_row _) bF μ4)
  refine ⟨[.lst (raysD F p), .lst (raysD F p), .lst (raysD S (app F.mat p)), .lst (raysD S (app F.mat p))], ?_⟩
  have hμ4 : μ ++ [.lst (raysD F p), .lst (raysD F p), .lst (raysD S (app F.mat p)), .lst (raysD S (app F.mat p))] = μ4 := by simp [μ4, μ3, μ2, μ1]
  rw [hμ4]
  refine (if_ff (μ1 := μ4) (or_ff (ne_ff t1 t2 (eqD_cel 9 (by decide) (ds := raysD F p) ?_ ?_ (plain_rays _ _))) (or_ff (ne_ff t3 t4 (eqD_cel 9 (by decide) (ds := raysD S (app F.mat p)) ?_ ?_ (plain_rays _ _))) (or_ff (ne_ff t5 t6 (eqP rfl μ4)) (ne_ff t7 t5 (eqP ?_ μ4)))))).trans rfl
  · simp [μ2, μ1]
  · simp [μ2]
  · simp [μ4, μ3]
  · simp [μ4]
  · rw [row_append, app_mul]
theorem y10_ok {q : Nat} (h : Tw F S) (hp : BdR 6 p) : y_10 C [s, some (.cel c), some (.int (t : Int)), some (md (Row.mat (F ++ S))), some (rayd p), some (.cel q), z6, z7, z8, z9, some (Row.data F), some (Row.data S), some (md (Row.mat F)), some (md (Row.mat S)), some (rd (Row.mat F).a), some (rd (Row.mat F).b), some (rd (Row.mat F).c), some (rd (Row.mat F).d), z18, z19, z20] μ = some (.nx [s, some (.cel c), some (.int (t : Int)), some (md (Row.mat (F ++ S))), some (rayd p), some (.cel q), z6, z7, z8, z9, some (Row.data F), some (Row.data S), some (md (Row.mat F)), some (md (Row.mat S)), some (rd (Row.mat F).a), some (rd (Row.mat F).b), some (rd (Row.mat F).c), some (rd (Row.mat F).d), z18, z19, z20] μ) := by
  have dA := det_row F
  have bF : BdR 200 (app F.mat p) := ⟨(BdR.app h.bA hp).u.mono (by decide), (BdR.app h.bA hp).v.mono (by decide)⟩
  refine (if_ff (μ1 := μ) (ne_ff (μ1 := μ) (x := rayd (app (invM F.mat) (app F.mat p))) (y := rayd p) ?_ rfl (eqP ?_ μ))).trans rfl
  · exact (app2 ((app1 rfl).trans (c23 _ h.bA (by decide) dA μ)) ((app2 rfl rfl).trans (c21 _ _ h.bA (by decide) dA ⟨hp.u.mono (by decide), hp.v.mono (by decide)⟩ μ))).trans (c21 (n := 200) _ _ ((bd_inv h.bA).mono (by decide)) (by decide) (det_inv _ dA) bF μ)
  · rw [← app_mul, mul_inv _ dA, app_id]
structure Gap (g : Rat) : Prop where
  pos : 0 < g
  bd : Bd 6 g
  num : ∃ z : Int, g * 12 = (z : Rat) ∧ z.natAbs ≤ 480
theorem y11_ok {ds : List Int} {q : Nat} (hl : ds.length = 300) (ht : t < 6) (hc : μ[c]? = some (.lst (ds.map D.int))) : ∃ g, Gap g ∧ y_11 C [s, some (.cel c), some (.int (t : Int)), some (md (Row.mat (F ++ S))), some (rayd p), some (.cel q), z6, z7, z8, z9, some (Row.data F), some (Row.data S), some (md (Row.mat F)), some (md (Row.mat S)), some (rd (Row.mat F).a), some (rd (Row.mat F).b), some (rd (Row.mat F).c), some (rd (Row.mat F).d), z18, z19, z20] μ = some (.nx [s, some (.cel c), some (.int (t : Int)), some (md (Row.mat (F ++ S))), some (rayd p), some (.cel q), some (rd g), z7, z8, z9, some (Row.data F), some (Row.data S), some (md (Row.mat F)), some (md (Row.mat S)), some (rd (Row.mat F).a), some (rd (Row.mat F).b), some (rd (Row.mat F).c), some (rd (Row.mat F).d), z18, z19, z20] μ) := by
  have e1 := turn_at (ρ := [s, some (.cel c), some (.int (t : Int)), some (md (Row.mat (F ++ S))), some (rayd p), some (.cel q), z6, z7, z8, z9, some (Row.data F), some (Row.data S), some (md (Row.mat F)), some (md (Row.mat S)), some (rd (Row.mat F).a), some (rd (Row.mat F).b), some (rd (Row.mat F).c), some (rd (Row.mat F).d), z18, z19, z20]) hc 280 (by omega) rfl rfl
  have e2 := turn_at (ρ := [s, some (.cel c), some (.int (t : Int)), some (md (Row.mat (F ++ S))), some (rayd p), some (.cel q), z6, z7, z8, z9, some (Row.data F), some (Row.data S), some (md (Row.mat F)), some (md (Row.mat S)), some (rd (Row.mat F).a), some (rd (Row.mat F).b), some (rd (Row.mat F).c), some (rd (Row.mat F).d), z18, z19, z20]) hc 285 (by omega) rfl rfl
  obtain ⟨a1, b1⟩ := emod_b ds[280 + t] (by decide : (0 : Int) < 40)
  obtain ⟨a2, b2⟩ := emod_b ds[285 + t] (by decide : (0 : Int) < 3)
  refine ⟨Rat.divInt (1 + ds[280 + t] % 40) (1 + ds[285 + t] % 3), ⟨frac_pos (by omega) (by omega), frac_bd (by omega) (by omega) (by omega), ?_⟩, asg (ratio_at (add_int rfl (mod_int e1 rfl (by decide))) (add_int rfl (mod_int e2 rfl (by decide))) (by omega) (by omega)) rfl⟩
  obtain ⟨z, h1, h2⟩ := frac_num (a := 1 + ds[280 + t] % 40) (b := 1 + ds[285 + t] % 3) (by omega) (by omega)
  exact ⟨z, h1, by omega⟩
theorem y12_ok {ds : List Int} {q : Nat} (hl : ds.length = 300) (ht : t < 6) (hc : μ[c]? = some (.lst (ds.map D.int))) : ∃ d, 0 ≤ d ∧ Bd 6 d ∧ y_12 C [s, some (.cel c), some (.int (t : Int)), some (md (Row.mat (F ++ S))), some (rayd p), some (.cel q), some (rd g), z7, z8, z9, some (Row.data F), some (Row.data S), some (md (Row.mat F)), some (md (Row.mat S)), some (rd (Row.mat F).a), some (rd (Row.mat F).b), some (rd (Row.mat F).c), some (rd (Row.mat F).d), z18, z19, z20] μ = some (.nx [s, some (.cel c), some (.int (t : Int)), some (md (Row.mat (F ++ S))), some (rayd p), some (.cel q), some (rd g), some (rd d), z8, z9, some (Row.data F), some (Row.data S), some (md (Row.mat F)), some (md (Row.mat S)), some (rd (Row.mat F).a), some (rd (Row.mat F).b), some (rd (Row.mat F).c), some (rd (Row.mat F).d), z18, z19, z20] μ) := by
  have e1 := turn_at (ρ := [s, some (.cel c), some (.int (t : Int)), some (md (Row.mat (F ++ S))), some (rayd p), some (.cel q), some (rd g), z7, z8, z9, some (Row.data F), some (Row.data S), some (md (Row.mat F)), some (md (Row.mat S)), some (rd (Row.mat F).a), some (rd (Row.mat F).b), some (rd (Row.mat F).c), some (rd (Row.mat F).d), z18, z19, z20]) hc 290 (by omega) rfl rfl
  have e2 := turn_at (ρ := [s, some (.cel c), some (.int (t : Int)), some (md (Row.mat (F ++ S))), some (rayd p), some (.cel q), some (rd g), z7, z8, z9, some (Row.data F), some (Row.data S), some (md (Row.mat F)), some (md (Row.mat S)), some (rd (Row.mat F).a), some (rd (Row.mat F).b), some (rd (Row.mat F).c), some (rd (Row.mat F).d), z18, z19, z20]) hc 293 (by omega) rfl rfl
  obtain ⟨a1, b1⟩ := emod_b ds[290 + t] (by decide : (0 : Int) < 12)
  obtain ⟨a2, b2⟩ := emod_b ds[293 + t] (by decide : (0 : Int) < 2)
  exact ⟨Rat.divInt (ds[290 + t] % 12) (1 + ds[293 + t] % 2), Rat.divInt_nonneg a1 (by omega), frac_bd (by omega) (by omega) (by omega), asg (ratio_at (mod_int e1 rfl (by decide)) (add_int rfl (mod_int e2 rfl (by decide))) (by omega) (by omega)) rfl⟩
theorem y13_ok {q : Nat} (h : Tw F S) (h0 : 0 ≤ d) (hd : Bd 6 d) : y_13 C [s, some (.cel c), some (.int (t : Int)), some (md (Row.mat (F ++ S))), some (rayd p), some (.cel q), some (rd g), some (rd d), z8, z9, some (Row.data F), some (Row.data S), some (md (Row.mat F)), some (md (Row.mat S)), some (rd (Row.mat F).a), some (rd (Row.mat F).b), some (rd (Row.mat F).c), some (rd (Row.mat F).d), z18, z19, z20] μ = some (.nx [s, some (.cel c), some (.int (t : Int)), some (md (Row.mat (F ++ S))), some (rayd p), some (.cel q), some (rd g), some (rd d), some (imgD (Row.mat F) d), z9, some (Row.data F), some (Row.data S), some (md (Row.mat F)), some (md (Row.mat S)), some (rd (Row.mat F).a), some (rd (Row.mat F).b), some (rd (Row.mat F).c), some (rd (Row.mat F).d), z18, z19, z20] μ) :=
  asg ((app2 rfl rfl).trans (run_image 4 F.mat d μ (h.bA.mono (by decide)) (det_row _) (hd.mono (by decide)) h0)) rfl

/-! images of images -/
def sI : Str := "image"
def sF : Str := "far"
theorem eq_II (μ : Store) : eqD (.str sI) (.str sI) μ = some true := eqD_self 9 (by decide) (by decide +kernel) μ
theorem eq_FF (μ : Store) : eqD (.str sF) (.str sF) μ = some true := eqD_self 9 (by decide) (by decide +kernel) μ
theorem eq_FI (μ : Store) : eqD (.str sF) (.str sI) μ = some false := by rw [eqD_str _ _ _ (by decide +kernel) (by decide +kernel)]; exact congrArg some (by decide +kernel)
def img (m : Mx) (d : Rat) : D := .tup [.str sI, rd (0 - high m d / steep m d), rd (1 / steep m d)]
theorem imgD_far {m : Mx} {d : Rat} (h : steep m d = 0) : imgD m d = .tup [.str sF] := by unfold imgD; rw [if_pos h]; rfl
theorem imgD_img {m : Mx} {d : Rat} (h : steep m d ≠ 0) : imgD m d = img m d := by unfold imgD; rw [if_neg h]; rfl
theorem steep_two (A B : Mx) (g d : Rat) (hs : steep A d ≠ 0) : steep (mulM B (mulM ⟨1, g, 0, 1⟩ A)) d = steep A d * steep B (g - (0 - high A d / steep A d)) := by
  have hq : high A d / steep A d * steep A d = high A d := Rat.div_mul_cancel hs
  generalize high A d / steep A d = q at *
  simp only [steep, high, mulM] at *
  grind
theorem high_two (A B : Mx) (g d : Rat) (hs : steep A d ≠ 0) : high (mulM B (mulM ⟨1, g, 0, 1⟩ A)) d = steep A d * high B (g - (0 - high A d / steep A d)) := by
  have hq : high A d / steep A d * steep A d = high A d := Rat.div_mul_cancel hs
  generalize high A d / steep A d = q at *
  simp only [steep, high, mulM] at *
  grind
theorem div_two {a b c : Rat} (ha : a ≠ 0) (hc : c ≠ 0) : (a * b) / (a * c) = b / c := by
  have h1 : (a * b) / (a * c) * (a * c) = a * b := Rat.div_mul_cancel (by intro e; rcases Rat.mul_eq_zero.mp e with e | e <;> contradiction)
  have h2 : b / c * c = b := Rat.div_mul_cancel hc
  generalize (a * b) / (a * c) = x at *
  generalize b / c = y at *
  have h3 : (x - y) * (a * c) = 0 := by grind
  rcases Rat.mul_eq_zero.mp h3 with e | e
  · grind
  · rcases Rat.mul_eq_zero.mp e with e | e <;> contradiction
theorem one_two {a c : Rat} (ha : a ≠ 0) (hc : c ≠ 0) : 1 / (a * c) = 1 / a * (1 / c) := by
  have h1 : 1 / (a * c) * (a * c) = 1 := Rat.div_mul_cancel (by intro e; rcases Rat.mul_eq_zero.mp e with e | e <;> contradiction)
  have h2 : 1 / a * a = 1 := Rat.div_mul_cancel ha
  have h3 : 1 / c * c = 1 := Rat.div_mul_cancel hc
  generalize 1 / (a * c) = x at *
  generalize 1 / a = y at *
  generalize 1 / c = z at *
  have h4 : (x - y * z) * (a * c) = 0 := by grind
  rcases Rat.mul_eq_zero.mp h4 with e | e
  · grind
  · rcases Rat.mul_eq_zero.mp e with e | e <;> contradiction
theorem Gap.ok (h : Gap g) : El.Ok ⟨true, g⟩ := gap_ok h.pos (by obtain ⟨z, h1, h2⟩ := h.num; exact ⟨z, h1, by omega⟩) (h.bd.mono (by decide))
theorem ix_img (m : Mx) (d : Rat) (μ : Store) : dIx (img m d) (.int 0) μ = some (.str sI, μ) ∧ dIx (img m d) (.int 1) μ = some (rd (0 - high m d / steep m d), μ) ∧ dIx (img m d) (.int 2) μ = some (rd (1 / steep m d), μ) := ⟨rfl, rfl, rfl⟩
theorem eq_tt {a b : EvF} {ρ : Slots} {μ μ1 μ2 : Store} {x y : D} {k : Bool} (h : a ρ μ = some (x, μ1)) (g : b ρ μ1 = some (y, μ2)) (e : eqD x y μ2 = some k) : tBl (fBin dEq a b) ρ μ = some (k, μ2) := by
  simp only [tBl, fBin, h, g, dEq, mapB, e]
theorem y14_ok {q : Nat} (h : Tw F S) (h0 : 0 ≤ d) (hd : Bd 6 d) (hg : Gap g) : ∃ z18' z19', y_14 C [s, some (.cel c), some (.int (t : Int)), some (md (Row.mat (F ++ S))), some (rayd p), some (.cel q), some (rd g), some (rd d), some (imgD (Row.mat F) d), z9, some (Row.data F), some (Row.data S), some (md (Row.mat F)), some (md (Row.mat S)), some (rd (Row.mat F).a), some (rd (Row.mat F).b), some (rd (Row.mat F).c), some (rd (Row.mat F).d), z18, z19, z20] μ = some (.nx [s, some (.cel c), some (.int (t : Int)), some (md (Row.mat (F ++ S))), some (rayd p), some (.cel q), some (rd g), some (rd d), some (imgD (Row.mat F) d), z9, some (Row.data F), some (Row.data S), some (md (Row.mat F)), some (md (Row.mat S)), some (rd (Row.mat F).a), some (rd (Row.mat F).b), some (rd (Row.mat F).c), some (rd (Row.mat F).d), z18', z19', z20] μ) := by
  by_cases hs : steep F.mat d = 0
  · refine ⟨z18, z19, ?_⟩
    rw [imgD_far hs]
    exact (if_ff (μ1 := μ) (and_ff (eq_tt (x := .str sF) (y := .str sI) (μ1 := μ) rfl rfl (eq_FI μ)))).trans rfl
  · rw [imgD_img hs]
    have dA := det_row F
    have dB := det_row S
    have bs := bd_steep (h.bA.mono (by decide : 80 ≤ 400)) (hd.mono (by decide : 6 ≤ 800))
    have bs1 : Bd 200 (steep F.mat d) := ((h.bA.c.mul hd).add h.bA.d).mono (by decide)
    have bh1 : Bd 200 (high F.mat d) := ((h.bA.a.mul hd).add h.bA.b).mono (by decide)
    have ba : Bd 401 (0 - high F.mat d / steep F.mat d) := neg_bd ((bh1.div bs1 hs).mono (by decide))
    have bo : Bd 200 (1 / steep F.mat d) := ((bd_one 0).div bs1 hs).mono (by decide)
    have t1 : tBl (fBin dEq (fBin dIx (fVar 8) (fCon (.int (0)))) (fCon (.str "image"))) [s, some (.cel c), some (.int (t : Int)), some (md (Row.mat (F ++ S))), some (rayd p), some (.cel q), some (rd g), some (rd d), some (img (Row.mat F) d), z9, some (Row.data F), some (Row.data S), some (md (Row.mat F)), some (md (Row.mat S)), some (rd (Row.mat F).a), some (rd (Row.mat F).b), some (rd (Row.mat F).c), some (rd (Row.mat F).d), z18, z19, z20] μ = some (true, μ) := eq_tt (x := .str sI) (y := .str sI) (μ1 := μ) rfl rfl (eq_II μ)
    have t2 : tVal (fApp (C 10) (fCons (fVar 6) (fCons (fBin dIx (fVar 8) (fCon (.int (1)))) fNil))) [s, some (.cel c), some (.int (t : Int)), some (md (Row.mat (F ++ S))), some (rayd p), some (.cel q), some (rd g), some (rd d), some (img (Row.mat F) d), z9, some (Row.data F), some (Row.data S), some (md (Row.mat F)), some (md (Row.mat S)), some (rd (Row.mat F).a), some (rd (Row.mat F).b), some (rd (Row.mat F).c), some (rd (Row.mat F).d), z18, z19, z20] μ = some (decide (g < 0 - high F.mat d / steep F.mat d), μ) := by
      have := run_less 7 g (0 - high F.mat d / steep F.mat d) μ (hg.bd.sm (by decide)) (ba.sm (by decide))
      have e : fApp (C 10) (fCons (fVar 6) (fCons (fBin dIx (fVar 8) (fCon (.int (1)))) fNil)) [s, some (.cel c), some (.int (t : Int)), some (md (Row.mat (F ++ S))), some (rayd p), some (.cel q), some (rd g), some (rd d), some (img (Row.mat F) d), z9, some (Row.data F), some (Row.data S), some (md (Row.mat F)), some (md (Row.mat S)), some (rd (Row.mat F).a), some (rd (Row.mat F).b), some (rd (Row.mat F).c), some (rd (Row.mat F).d), z18, z19, z20] μ = _ := (app2 (x := rd g) (y := rd (0 - high F.mat d / steep F.mat d)) (μ1 := μ) (μ2 := μ) rfl rfl).trans this
      simp only [tVal, e, truD, Option.map_some]
    by_cases hlt : g < 0 - high F.mat d / steep F.mat d
    · rw [decide_eq_true hlt] at t2
      refine ⟨z18, z19, (if_ff (μ1 := μ) (and_tt t1 ?_)).trans rfl⟩
      simp only [tNotD, t2, Bool.not_true]
    · rw [decide_eq_false hlt] at t2
      have hle : 0 ≤ g - (0 - high F.mat d / steep F.mat d) := by grind
      have bd2 : Bd 500 (g - (0 - high F.mat d / steep F.mat d)) := (hg.bd.sub ba).mono (by decide)
      have hst := steep_two F.mat S.mat g d hs
      have hht := high_two F.mat S.mat g d hs
      have rowE : Row.mat ((F ++ [(⟨true, g⟩ : El)]) ++ S) = mulM S.mat (mulM ⟨1, g, 0, 1⟩ F.mat) := by
        rw [row_append, row_append, row_one]
        rfl
      rw [← rowE] at hst hht
      have hW : Row.Ok ((F ++ [(⟨true, g⟩ : El)]) ++ S) := (h.hF.app (ok_one hg.ok)).app h.hS
      have lF := h.lF
      have lS := h.lS
      have lW : ((F ++ [(⟨true, g⟩ : El)]) ++ S).length ≤ 17 := by simp only [List.length_append, List.length_cons, List.length_nil]; omega
      have bW := Row.bd hW lW
      have dW := det_row ((F ++ [(⟨true, g⟩ : El)]) ++ S)
      have e1 : sAsg (fApp (C 24) (fCons (fVar 13) (fCons (fApp (C 7) (fCons (fVar 6) (fCons (fBin dIx (fVar 8) (fCon (.int (1)))) fNil))) fNil))) (gName 18) [s, some (.cel c), some (.int (t : Int)), some (md (Row.mat (F ++ S))), some (rayd p), some (.cel q), some (rd g), some (rd d), some (img (Row.mat F) d), z9, some (Row.data F), some (Row.data S), some (md (Row.mat F)), some (md (Row.mat S)), some (rd (Row.mat F).a), some (rd (Row.mat F).b), some (rd (Row.mat F).c), some (rd (Row.mat F).d), z18, z19, z20] μ = some (.nx [s, some (.cel c), some (.int (t : Int)), some (md (Row.mat (F ++ S))), some (rayd p), some (.cel q), some (rd g), some (rd d), some (img (Row.mat F) d), z9, some (Row.data F), some (Row.data S), some (md (Row.mat F)), some (md (Row.mat S)), some (rd (Row.mat F).a), some (rd (Row.mat F).b), some (rd (Row.mat F).c), some (rd (Row.mat F).d), some (imgD (Row.mat S) (g - (0 - high (Row.mat F) d / steep (Row.mat F) d))), z19, z20] μ) := by
        refine asg ((app2 (x := md S.mat) (μ1 := μ) rfl ((app2 (x := rd g) (y := rd (0 - high F.mat d / steep F.mat d)) (μ1 := μ) (μ2 := μ) rfl rfl).trans (run_minus 7 g _ μ (hg.bd.sm (by decide)) (ba.sm (by decide))))).trans (run_image 4 S.mat _ μ (h.bB.mono (by decide)) dB (bd2.mono (by decide)) hle)) rfl
      have e2 : sAsg (fApp (C 24) (fCons (fApp (C 20) (fCons (fBin dAdd (fBin dAdd (fVar 10) (fTup (fCons (fTup (fCons (fCon (.str "gap")) (fCons (fVar 6) fNil))) fNil))) (fVar 11)) fNil)) (fCons (fVar 7) fNil))) (gName 19) [s, some (.cel c), some (.int (t : Int)), some (md (Row.mat (F ++ S))), some (rayd p), some (.cel q), some (rd g), some (rd d), some (img (Row.mat F) d), z9, some (Row.data F), some (Row.data S), some (md (Row.mat F)), some (md (Row.mat S)), some (rd (Row.mat F).a), some (rd (Row.mat F).b), some (rd (Row.mat F).c), some (rd (Row.mat F).d), some (imgD (Row.mat S) (g - (0 - high (Row.mat F) d / steep (Row.mat F) d))), z19, z20] μ = some (.nx [s, some (.cel c), some (.int (t : Int)), some (md (Row.mat (F ++ S))), some (rayd p), some (.cel q), some (rd g), some (rd d), some (img (Row.mat F) d), z9, some (Row.data F), some (Row.data S), some (md (Row.mat F)), some (md (Row.mat S)), some (rd (Row.mat F).a), some (rd (Row.mat F).b), some (rd (Row.mat F).c), some (rd (Row.mat F).d), some (imgD (Row.mat S) (g - (0 - high (Row.mat F) d / steep (Row.mat F) d))), some (imgD (Row.mat ((F ++ [⟨true, g⟩]) ++ S)) d), z20] μ) := by
        refine asg ((app2 (x := md (Row.mat ((F ++ [(⟨true, g⟩ : El)]) ++ S))) (y := rd d) (μ1 := μ) (μ2 := μ) ?_ rfl).trans (run_image 4 _ _ μ (bW.mono (by decide)) dW (hd.mono (by decide)) h0)) rfl
        refine (app1 (x := Row.data ((F ++ [(⟨true, g⟩ : El)]) ++ S)) (μ1 := μ) ?_).trans (c20 _ hW (by omega) μ)
        exact data_app _ _ _ _ (data_app F [(⟨true, g⟩ : El)] _ _ rfl (tup1 (tup2 rfl rfl)) (by omega) (by simp)) rfl (by simp only [List.length_append, List.length_cons, List.length_nil]; omega) (by omega)
      refine ⟨some (imgD S.mat (g - (0 - high F.mat d / steep F.mat d))), some (imgD (Row.mat ((F ++ [(⟨true, g⟩ : El)]) ++ S)) d), (if_tt (μ1 := μ) (and_tt t1 ?_)).trans ?_⟩
      · simp only [tNotD, t2, Bool.not_false]
      · rw [seq_nx e1, seq_nx e2]
        by_cases hs2 : steep S.mat (g - (0 - high F.mat d / steep F.mat d)) = 0
        · have hs3 : steep (Row.mat ((F ++ [(⟨true, g⟩ : El)]) ++ S)) d = 0 := by rw [hst, hs2, Rat.mul_zero]
          rw [imgD_far hs2, imgD_far hs3]
          refine (seq_nx ((if_ff (μ1 := μ) (or_ff (μ1 := μ) (ne_ff (x := .str sF) (y := .str sF) (μ1 := μ) rfl rfl (eq_FF μ)) (and_ff (eq_tt (x := .str sF) (y := .str sI) (μ1 := μ) rfl rfl (eq_FI μ))))).trans rfl)).trans rfl
        · have hs3 : steep (Row.mat ((F ++ [(⟨true, g⟩ : El)]) ++ S)) d ≠ 0 := by
            rw [hst]
            intro e
            rcases Rat.mul_eq_zero.mp e with e | e <;> contradiction
          rw [imgD_img hs2, imgD_img hs3]
          have bs2 : Bd 800 (steep S.mat (g - (0 - high F.mat d / steep F.mat d))) := ((h.bB.c.mul bd2).add h.bB.d).mono (by decide)
          have bo2 : Bd 800 (1 / steep S.mat (g - (0 - high F.mat d / steep F.mat d))) := ((bd_one 0).div bs2 hs2).mono (by decide)
          refine (seq_nx ((if_ff (μ1 := μ) (or_ff (μ1 := μ) (ne_ff (x := .str sI) (y := .str sI) (μ1 := μ) rfl rfl (eq_II μ)) (and_tt (eq_tt (x := .str sI) (y := .str sI) (μ1 := μ) rfl rfl (eq_II μ)) (or_ff (μ1 := μ) (ne_ff (x := rd (0 - high (Row.mat ((F ++ [(⟨true, g⟩ : El)]) ++ S)) d / steep (Row.mat ((F ++ [(⟨true, g⟩ : El)]) ++ S)) d)) (y := rd (0 - high S.mat (g - (0 - high F.mat d / steep F.mat d)) / steep S.mat (g - (0 - high F.mat d / steep F.mat d)))) (μ1 := μ) rfl rfl (eqR ?_ μ)) (ne_ff (x := rd (1 / steep (Row.mat ((F ++ [(⟨true, g⟩ : El)]) ++ S)) d)) (y := rd (1 / steep F.mat d * (1 / steep S.mat (g - (0 - high F.mat d / steep F.mat d))))) (μ1 := μ) rfl ?_ (eqR ?_ μ)))))).trans rfl)).trans rfl
          · rw [hst, hht, div_two hs hs2]
          · exact (app2 (x := rd (1 / steep F.mat d)) (y := rd (1 / steep S.mat (g - (0 - high F.mat d / steep F.mat d)))) (μ1 := μ) (μ2 := μ) rfl rfl).trans (run_times 7 _ _ μ (bo.sm (by decide)) (bo2.sm (by decide)))
          · rw [hst, one_two hs hs2]
theorem dbl_num (h : Gap g) : ∃ z : Int, (g + g) * 12 = (z : Rat) ∧ z.natAbs ≤ 1000 := by
  obtain ⟨z, h1, h2⟩ := h.num
  refine ⟨z + z, ?_, by omega⟩
  push_cast
  rw [← h1]; grind
theorem dbl_bd (h : Gap g) : Bd 9 (g + g) := by
  have : g + g = 2 * g := by grind
  rw [this]
  have b2 : Bd 1 (2 : Rat) := ⟨by decide +kernel, by decide +kernel⟩
  exact (b2.mul h.bd).mono (by decide)
theorem Gap.dbl (h : Gap g) (b : Bool) : El.Ok ⟨b, g + g⟩ := by
  have := h.pos
  have hp : 0 < g + g := by grind
  cases b
  · exact lens_ok (by grind) (dbl_num h) (dbl_bd h)
  · exact gap_ok hp (dbl_num h) (dbl_bd h)
theorem Gap.any (h : Gap g) (b : Bool) : El.Ok ⟨b, g⟩ := by
  have := h.pos
  cases b
  · exact lens_ok (by grind) h.ok.num h.ok.bd
  · exact h.ok
theorem two_el (b : Bool) (g : Rat) : mulM (El.mat ⟨b, g⟩) (El.mat ⟨b, g⟩) = El.mat ⟨b, g + g⟩ := by
  cases b <;> simp only [El.mat, if_true, if_false, Bool.false_eq_true] <;> apply Mx.ext' <;> simp only [mulM] <;> grind
theorem y15_one {q : Nat} {z18' z19' : Option D} (h : Tw F S) (hg : Gap g) (b : Bool) : ∃ ρ2, (sSeq (sIf (tBl (fBin dNe (fApp (C 20) (fCons (fBin dAdd (fTup (fCons (fTup (fCons (fVar 9) (fCons (fVar 6) fNil))) (fCons (fTup (fCons (fVar 9) (fCons (fVar 6) fNil))) fNil))) (fVar 10)) fNil)) (fApp (C 20) (fCons (fBin dAdd (fTup (fCons (fTup (fCons (fVar 9) (fCons (fApp (C 6) (fCons (fVar 6) (fCons (fVar 6) fNil))) fNil))) fNil)) (fVar 10)) fNil)))) (sSeq (sRet (fCon (.bl false))) sNil) sNil) sNil) [s, some (.cel c), some (.int (t : Int)), some (md (Row.mat (F ++ S))), some (rayd p), some (.cel q), some (rd g), some (rd d), some (imgD (Row.mat F) d), some (.str (if b = true then sG else sL)), some (Row.data F), some (Row.data S), some (md (Row.mat F)), some (md (Row.mat S)), some (rd (Row.mat F).a), some (rd (Row.mat F).b), some (rd (Row.mat F).c), some (rd (Row.mat F).d), z18', z19', z20] μ = some (.nx ρ2 μ) ∧ ρ2 = [s, some (.cel c), some (.int (t : Int)), some (md (Row.mat (F ++ S))), some (rayd p), some (.cel q), some (rd g), some (rd d), some (imgD (Row.mat F) d), some (.str (if b = true then sG else sL)), some (Row.data F), some (Row.data S), some (md (Row.mat F)), some (md (Row.mat S)), some (rd (Row.mat F).a), some (rd (Row.mat F).b), some (rd (Row.mat F).c), some (rd (Row.mat F).d), z18', z19', z20] := by
  have lF := h.lF
  refine ⟨_, (seq_nx ((if_ff (μ1 := μ) (ne_ff (x := md (Row.mat ([⟨b, g⟩, ⟨b, g⟩] ++ F))) (y := md (Row.mat ([⟨b, g + g⟩] ++ F))) (μ1 := μ) ?_ ?_ (eqM ?_ μ))).trans rfl)).trans rfl, rfl⟩
  · refine (app1 (x := Row.data ([⟨b, g⟩, ⟨b, g⟩] ++ F)) (μ1 := μ) (data_app _ _ _ _ (tup2 (tup2 rfl rfl) (tup2 rfl rfl)) rfl (by simp) (by omega))).trans (c20 _ ?_ (by simp only [List.length_append, List.length_cons, List.length_nil]; omega) μ)
    exact Row.Ok.app (r := [⟨b, g⟩, ⟨b, g⟩]) (fun f hf => by simp only [List.mem_cons, List.not_mem_nil, or_false, or_self] at hf; rw [hf]; exact hg.any b) h.hF
  · refine (app1 (x := Row.data ([⟨b, g + g⟩] ++ F)) (μ1 := μ) (data_app _ _ _ _ (tup1 (tup2 rfl ((app2 rfl rfl).trans (run_plus 7 g g μ (hg.bd.sm (by decide)) (hg.bd.sm (by decide)))))) rfl (by simp) (by omega))).trans (c20 _ ?_ (by simp only [List.length_append, List.length_cons, List.length_nil]; omega) μ)
    exact (ok_one (hg.dbl b)).app h.hF
  · rw [row_append, row_append, row_one, row_cons, row_one, two_el]
theorem y15_ok {q : Nat} {z18' z19' : Option D} (h : Tw F S) (hg : Gap g) : ∃ z9', y_15 C [s, some (.cel c), some (.int (t : Int)), some (md (Row.mat (F ++ S))), some (rayd p), some (.cel q), some (rd g), some (rd d), some (imgD (Row.mat F) d), z9, some (Row.data F), some (Row.data S), some (md (Row.mat F)), some (md (Row.mat S)), some (rd (Row.mat F).a), some (rd (Row.mat F).b), some (rd (Row.mat F).c), some (rd (Row.mat F).d), z18', z19', z20] μ = some (.nx [s, some (.cel c), some (.int (t : Int)), some (md (Row.mat (F ++ S))), some (rayd p), some (.cel q), some (rd g), some (rd d), some (imgD (Row.mat F) d), z9', some (Row.data F), some (Row.data S), some (md (Row.mat F)), some (md (Row.mat S)), some (rd (Row.mat F).a), some (rd (Row.mat F).b), some (rd (Row.mat F).c), some (rd (Row.mat F).d), z18', z19', z20] μ) := by
  obtain ⟨ρ', μ', f, z9', rfl, rfl⟩ := for_inv (it := iSeq (fTup (fCons (fCon (.str "gap")) (fCons (fCon (.str "lens")) fNil)))) (src := .seq [.str sG, .str sL]) (g := gName 9)
    (body := (sSeq (sIf (tBl (fBin dNe (fApp (C 20) (fCons (fBin dAdd (fTup (fCons (fTup (fCons (fVar 9) (fCons (fVar 6) fNil))) (fCons (fTup (fCons (fVar 9) (fCons (fVar 6) fNil))) fNil))) (fVar 10)) fNil)) (fApp (C 20) (fCons (fBin dAdd (fTup (fCons (fTup (fCons (fVar 9) (fCons (fApp (C 6) (fCons (fVar 6) (fCons (fVar 6) fNil))) fNil))) fNil)) (fVar 10)) fNil)))) (sSeq (sRet (fCon (.bl false))) sNil) sNil) sNil)) (ρ := [s, some (.cel c), some (.int (t : Int)), some (md (Row.mat (F ++ S))), some (rayd p), some (.cel q), some (rd g), some (rd d), some (imgD (Row.mat F) d), z9, some (Row.data F), some (Row.data S), some (md (Row.mat F)), some (md (Row.mat S)), some (rd (Row.mat F).a), some (rd (Row.mat F).b), some (rd (Row.mat F).c), some (rd (Row.mat F).d), z18', z19', z20]) (μ := μ) (μ0 := μ) [.str sG, .str sL]
    (fun i ρ μ' => ∃ z9', ρ = [s, some (.cel c), some (.int (t : Int)), some (md (Row.mat (F ++ S))), some (rayd p), some (.cel q), some (rd g), some (rd d), some (imgD (Row.mat F) d), z9', some (Row.data F), some (Row.data S), some (md (Row.mat F)), some (md (Row.mat S)), some (rd (Row.mat F).a), some (rd (Row.mat F).b), some (rd (Row.mat F).c), some (rd (Row.mat F).d), z18', z19', z20] ∧ μ' = μ) (by
      have := tup2 (f := fCon (.str "gap")) (g := fCon (.str "lens")) (ρ := [s, some (.cel c), some (.int (t : Int)), some (md (Row.mat (F ++ S))), some (rayd p), some (.cel q), some (rd g), some (rd d), some (imgD (Row.mat F) d), z9, some (Row.data F), some (Row.data S), some (md (Row.mat F)), some (md (Row.mat S)), some (rd (Row.mat F).a), some (rd (Row.mat F).b), some (rd (Row.mat F).c), some (rd (Row.mat F).d), z18', z19', z20]) (μ := μ) (x := .str sG) (y := .str sL) (μ1 := μ) (μ2 := μ) rfl rfl
      simp only [iSeq, this]) (by decide) ⟨z9, rfl, rfl⟩ (fun i ρ μ _ => rfl) fun i x ρ μ' hx hp => by
      obtain ⟨z9', rfl, rfl⟩ := hp
      have hb : ∃ b : Bool, x = .str (if b = true then sG else sL) := by
        match i, hx with
        | 0, hx => exact ⟨true, by cases hx; rfl⟩
        | 1, hx => exact ⟨false, by cases hx; rfl⟩
      obtain ⟨b, rfl⟩ := hb
      obtain ⟨ρ2, h1, h2⟩ := y15_one (c := c) (s := s) (t := t) (z20 := z20) (μ := μ') (p := p) (d := d) (q := q) (z18' := z18') (z19' := z19') h hg b
      exact ⟨_, _, _, _, rfl, .inl h1, _, h2, rfl⟩
  exact ⟨z9', f⟩
theorem lens_back (F : Row) (g : Rat) : Row.mat (F ++ [⟨false, g⟩, ⟨false, 0 - g⟩]) = F.mat := by
  have e : mulM (El.mat ⟨false, 0 - g⟩) (El.mat ⟨false, g⟩) = idM := by
    simp only [El.mat, if_false, Bool.false_eq_true]
    apply Mx.ext' <;> simp only [mulM, idM] <;> grind
  rw [row_append, row_cons, row_one, e, id_mul]
theorem y16_ok {q : Nat} {z9' z18' z19' : Option D} (h : Tw F S) (hg : Gap g) : y_16 C [s, some (.cel c), some (.int (t : Int)), some (md (Row.mat (F ++ S))), some (rayd p), some (.cel q), some (rd g), some (rd d), some (imgD (Row.mat F) d), z9', some (Row.data F), some (Row.data S), some (md (Row.mat F)), some (md (Row.mat S)), some (rd (Row.mat F).a), some (rd (Row.mat F).b), some (rd (Row.mat F).c), some (rd (Row.mat F).d), z18', z19', z20] μ = some (.nx [s, some (.cel c), some (.int (t : Int)), some (md (Row.mat (F ++ S))), some (rayd p), some (.cel q), some (rd g), some (rd d), some (imgD (Row.mat F) d), z9', some (Row.data F), some (Row.data S), some (md (Row.mat F)), some (md (Row.mat S)), some (rd (Row.mat F).a), some (rd (Row.mat F).b), some (rd (Row.mat F).c), some (rd (Row.mat F).d), z18', z19', z20] μ) := by
  have lF := h.lF
  have hp := hg.pos
  refine (if_ff (μ1 := μ) (ne_ff (x := md (Row.mat (F ++ [⟨false, g⟩, ⟨false, 0 - g⟩]))) (y := md F.mat) (μ1 := μ) ?_ rfl (eqM (lens_back F g) μ))).trans rfl
  refine (app1 (x := Row.data (F ++ [⟨false, g⟩, ⟨false, 0 - g⟩])) (μ1 := μ) (data_app _ _ _ _ rfl (tup2 (tup2 rfl rfl) (tup2 rfl ((app2 (tup2 rfl rfl) rfl).trans (run_minus 7 0 g μ sm_zero (hg.bd.sm (by decide)))))) (by omega) (by simp))).trans (c20 _ ?_ (by simp only [List.length_append, List.length_cons, List.length_nil]; omega) μ)
  refine h.hF.app fun f hf => ?_
  simp only [List.mem_cons, List.not_mem_nil, or_false] at hf
  rcases hf with rfl | rfl
  · exact hg.any false
  · exact lens_ok (by grind) (neg_num hg.ok.num) (neg_bd hg.ok.bd)
theorem body_ok {ds : List Int} (hd : Dr ds) (hl : ds.length = 300) (ht : t < 6) (hc : μ[c]? = some (.lst (ds.map D.int))) :
    ∃ z3' z4' z5' z6' z7' z8' z9' z10' z11' z12' z13' z14' z15' z16' z17' z18' z19' w, y_body C [s, some (.cel c), some (.int (t : Int)), z3, z4, z5, z6, z7, z8, z9, z10, z11, z12, z13, z14, z15, z16, z17, z18, z19, z20] μ = some (.nx [s, some (.cel c), some (.int (t : Int)), z3', z4', z5', z6', z7', z8', z9', z10', z11', z12', z13', z14', z15', z16', z17', z18', z19', z20] (μ ++ w)) := by
  obtain ⟨F, S, w0, h, e0⟩ := y0_ok (s := s) (z3 := z3) (z4 := z4) (z5 := z5) (z6 := z6) (z7 := z7) (z8 := z8) (z9 := z9) (z10 := z10) (z11 := z11) (z12 := z12) (z13 := z13) (z14 := z14) (z15 := z15) (z16 := z16) (z17 := z17) (z18 := z18) (z19 := z19) (z20 := z20) hd hl ht hc
  have hcl : c < μ.length := (List.getElem?_eq_some_iff.mp hc).1
  have per : ∀ w, (μ ++ w)[c]? = some (.lst (ds.map D.int)) := fun w => by rw [List.getElem?_append_left hcl]; exact hc
  obtain ⟨p, hp, e7⟩ := y7_ok (μ := μ ++ w0) (F := F) (S := S) (s := s) (z4 := z4) (z5 := z5) (z6 := z6) (z7 := z7) (z8 := z8) (z9 := z9) (z18 := z18) (z19 := z19) (z20 := z20) hl ht (per w0)
  have hq : ((μ ++ w0) ++ [Cell.lst (raysD (F ++ S) p)])[(μ ++ w0).length]? = some (.lst (raysD (F ++ S) p)) := by simp
  obtain ⟨w9, e9⟩ := y9_ok (c := c) (t := t) (s := s) (z6 := z6) (z7 := z7) (z8 := z8) (z9 := z9) (z18 := z18) (z19 := z19) (z20 := z20) h hp hq
  obtain ⟨g, hg, e11⟩ := y11_ok (μ := (μ ++ w0) ++ [Cell.lst (raysD (F ++ S) p)] ++ w9) (F := F) (S := S) (p := p) (q := (μ ++ w0).length) (s := s) (z6 := z6) (z7 := z7) (z8 := z8) (z9 := z9) (z18 := z18) (z19 := z19) (z20 := z20) hl ht (by rw [List.append_assoc, List.append_assoc]; exact per _)
  obtain ⟨d, h0, hdb, e12⟩ := y12_ok (μ := (μ ++ w0) ++ [Cell.lst (raysD (F ++ S) p)] ++ w9) (F := F) (S := S) (p := p) (g := g) (q := (μ ++ w0).length) (s := s) (z7 := z7) (z8 := z8) (z9 := z9) (z18 := z18) (z19 := z19) (z20 := z20) hl ht (by rw [List.append_assoc, List.append_assoc]; exact per _)
  obtain ⟨z18', z19', e14⟩ := y14_ok (μ := (μ ++ w0) ++ [Cell.lst (raysD (F ++ S) p)] ++ w9) (c := c) (t := t) (p := p) (q := (μ ++ w0).length) (s := s) (z9 := z9) (z18 := z18) (z19 := z19) (z20 := z20) h h0 hdb hg
  obtain ⟨z9', e15⟩ := y15_ok (μ := (μ ++ w0) ++ [Cell.lst (raysD (F ++ S) p)] ++ w9) (c := c) (t := t) (p := p) (d := d) (q := (μ ++ w0).length) (s := s) (z9 := z9) (z18' := z18') (z19' := z19') (z20 := z20) h hg
  have hb : y_body C [s, some (.cel c), some (.int (t : Int)), z3, z4, z5, z6, z7, z8, z9, z10, z11, z12, z13, z14, z15, z16, z17, z18, z19, z20] μ = some (.nx [s, some (.cel c), some (.int (t : Int)), some (md (Row.mat (F ++ S))), some (rayd p), some (.cel (μ ++ w0).length), some (rd g), some (rd d), some (imgD (Row.mat F) d), z9', some (Row.data F), some (Row.data S), some (md (Row.mat F)), some (md (Row.mat S)), some (rd (Row.mat F).a), some (rd (Row.mat F).b), some (rd (Row.mat F).c), some (rd (Row.mat F).d), z18', z19', z20] (μ ++ (w0 ++ ([Cell.lst (raysD (F ++ S) p)] ++ w9)))) := by
    unfold y_body
    rw [seq_nx e0, seq_nx (y1_ok h), seq_nx (y2_ok h), seq_nx (y3_ok h), seq_nx (y4_ok h), seq_nx (y5_ok h), seq_nx (y6_ok h), seq_nx e7, seq_nx (y8_ok h hp), seq_nx e9, seq_nx (y10_ok h hp), seq_nx e11, seq_nx e12, seq_nx (y13_ok h h0 hdb), seq_nx e14, seq_nx e15, seq_nx (y16_ok h hg)]
    simp only [sNil, List.append_assoc]
  exact ⟨_, _, _, _, _, _, _, _, _, _, _, _, _, _, _, _, _, _, hb⟩
end
theorem law_ok (ns : List Int) (μ : Store) : ∃ μ', T.run 12 27 [.ls (ns.map D.int)] μ = some (.bl true, μ') := by
  obtain ⟨ds, hd, hl, hr⟩ := run_draws 10 ns μ
  have e0 : sAsg (fApp (C 25) (fCons (fVar 0) (fCons (fCon (.int (300))) fNil))) (gName 1) [some (.ls (ns.map D.int)), none, none, none, none, none, none, none, none, none, none, none, none, none, none, none, none, none, none, none, none] μ = some (.nx [some (.ls (ns.map D.int)), some (.cel μ.length), none, none, none, none, none, none, none, none, none, none, none, none, none, none, none, none, none, none, none] (μ ++ [.lst (ds.map D.int)])) :=
    asg ((app2 rfl rfl).trans hr) rfl
  obtain ⟨ρ', μ', f, hp⟩ := for_inv (it := iRng1 (fCons (fCon (.int (6))) fNil)) (src := .rng 0 6) (g := gName 2) (body := y_body C) (ρ := [some (.ls (ns.map D.int)), some (.cel μ.length), none, none, none, none, none, none, none, none, none, none, none, none, none, none, none, none, none, none, none]) (μ := μ ++ [.lst (ds.map D.int)]) (μ0 := μ ++ [.lst (ds.map D.int)]) (rngs 0 6)
    (fun i ρ μ' => μ'[μ.length]? = some (.lst (ds.map D.int)) ∧ ∃ (s : Option D) (z2 z3 z4 z5 z6 z7 z8 z9 z10 z11 z12 z13 z14 z15 z16 z17 z18 z19 z20 : Option D), ρ = [s, some (.cel μ.length), z2, z3, z4, z5, z6, z7, z8, z9, z10, z11, z12, z13, z14, z15, z16, z17, z18, z19, z20]) rfl (by rw [rngs_length]; omega)
    ⟨by simp, _, _, _, _, _, _, _, _, _, _, _, _, _, _, _, _, _, _, _, _, rfl⟩ (fun i ρ μ _ => rng_at 0 6 μ i) fun i x ρ μ' hx hp => by
      obtain ⟨hi, rfl⟩ := rngs_get hx
      obtain ⟨hc, s, z2, z3, z4, z5, z6, z7, z8, z9, z10, z11, z12, z13, z14, z15, z16, z17, z18, z19, z20, rfl⟩ := hp
      obtain ⟨y3, y4, y5, y6, y7, y8, y9, y10, y11, y12, y13, y14, y15, y16, y17, y18, y19, w, hb⟩ := body_ok (s := s) (z3 := z3) (z4 := z4) (z5 := z5) (z6 := z6) (z7 := z7) (z8 := z8) (z9 := z9) (z10 := z10) (z11 := z11) (z12 := z12) (z13 := z13) (z14 := z14) (z15 := z15) (z16 := z16) (z17 := z17) (z18 := z18) (z19 := z19) (z20 := z20) hd hl hi hc
      refine ⟨_, _, _, _, ?_, .inl hb, ?_, _, _, _, _, _, _, _, _, _, _, _, _, _, _, _, _, _, _, _, _, rfl⟩
      · rw [Int.zero_add]; rfl
      · rw [List.getElem?_append_left (List.getElem?_eq_some_iff.mp hc).1]; exact hc
  refine ⟨(gc μ (.bl true) μ').2, ?_⟩
  rw [r27, y_split, seq_nx e0, seq_nx f]
  show some (gc μ (.bl true) μ') = _
  have e : (gc μ (.bl true) μ').1 = .bl true := by
    unfold gc
    repeat' split
    all_goals first | rfl | simp_all [below]
  generalize gc μ (.bl true) μ' = w at *
  cases w
  cases e
  rfl
end K05
end

section
set_option Elab.async false
set_option linter.all false
set_option maxRecDepth 100000
set_option maxHeartbeats 0
namespace K05
open PySem PySem.Spec PyProof.Rows L2 HT Mini
abbrev R : PySem.W.OpenRow := PySem.W.OpenLaw.row PySem.Challenge.rw_lightwrit_k05_main_rows_of_lenses_togeth
theorem scOk : T.defs.all scB = true := by decide +kernel
theorem run (w : World) : HandSHeadRun.RunEq R q (hookM 4 T) (obM 4 T) 4000 loose w := by
  intro os
  kernel_rfl
theorem main (ns : List Int) (h : ns.length ≤ 63) : ∃ μ', T.run 12 27 [.ls (ns.map D.int)] [] = some (.bl true, μ') := law_ok ns []
end K05
open PySem PySem.W PySem.Calls PyProof.Rows
theorem PySem.Challenge.cw_lightwrit_k05_main_rows_of_lenses_togeth_holds : PySem.Challenge.rw_lightwrit_k05_main_rows_of_lenses_togeth.Holds := by
  w_on; o_law
  refine HandSHeadRun.head_any (r := K05.R) (q := K05.q) (H := Mini.hookM 4 K05.T) (ob := Mini.obM 4 K05.T) (M := 4000) (loose := K05.loose) (d := HandSHeadRun.topDef K05.R.prog 42) (kwd := []) (Mini.obM_eq 4 K05.T)
    (by kernel_rfl) (fun s => by kernel_rfl) K05.run (by kernel_rfl) (by kernel_rfl) (by kernel_rfl) (by rfl) (by first | assumption | decide +kernel) (by decide +kernel) ⟨rfl, rfl, rfl, rfl, rfl, by decide +kernel⟩ ?hw ?hc
  case hw => w_witness2
  case hc =>
    exact Mini.law_end (i := 27) (k := 12) (T := K05.T) (di := K05.d27) rfl (by kernel_rfl) ⟨rfl, by decide, by decide⟩ K05.scOk (by rfl) (by kernel_rfl) (by rfl) K05.main
end
