import PyProof.Rows.All
import Wide.All
import OpenK.AllK
import Wide.FinOn
import HandS.ForMost
import HandS.Zip
import HandS.TupAny
import HandS.TupLe
import HandS.IsInst
import HandS.SortRule
import HandS.Conv
import HandS.TupSets
import HandS.SortKw
import KE.KSortKeySt
import HandS.Slots
import HandS.SetFor
import HandS.Iter
import PyProof.EnumMake
import PyProof.Draws
import KE.GoesMore
import HandS.TupLen
import HandS.Dict
import HandS.More
import KE.KDictSum
import PyProof.ReprRoads
import PySem.Challenge.RW_allislands_k16_whole_ranks
import HandS.ExcOwn
import HandS.ExcInit
import HandS.ExcField
import HandS.TryMany
import HandS.Lambda
import KE.KExcSuper
import HandS.WordsExc
import HandS.EndBits
import HandS.EndTab
import KE.KStateDown
import HandS.Defaults
import HandS.Head0
import HandS.Head1
import HandS.Head2
import HandS.HeadHook1
import HandS.HeadHook2
import HandS.HeadHook3
import HandS.HeadHook4
set_option Elab.async false
set_option linter.all false
set_option maxRecDepth 100000
set_option maxHeartbeats 2000000
/-! Ai, part A: data in the abstract heap, environments, what an expression, a test, a statement comes to. -/
namespace Ai
open PySem L2

/-! ### data that never changes -/
mutual
inductive Im (H : Hp) : V → PyData → Prop
  | non : Im H .non .none
  | bl (b : Bool) : Im H (.bl b) (.bool b)
  | int (i : Int) : Im H (.int i) (.int i)
  | str (x : Str) : Im H (.str x) (.str x)
  | tup {a : Addr} {xs : List V} {ds : List PyData} : H a = some (.tup xs) → ImAll H xs ds → Im H (.ref a) (.tuple ds)
inductive ImAll (H : Hp) : List V → List PyData → Prop
  | nil : ImAll H [] []
  | cons {v : V} {vs : List V} {d : PyData} {ds : List PyData} : Im H v d → ImAll H vs ds → ImAll H (v :: vs) (d :: ds)
end
/-- the tuples stand -/
def Tp (H H' : Hp) : Prop := ∀ a xs, H a = some (.tup xs) → H' a = some (.tup xs)
theorem Tp.refl (H : Hp) : Tp H H := fun _ _ h => h
theorem Tp.trans {H H1 H2 : Hp} (a : Tp H H1) (b : Tp H1 H2) : Tp H H2 := fun c o h => b c o (a c o h)
theorem tp {H H' : Hp} (h : Same H H') : Tp H H' := fun a _ e => h a _ e
theorem same_new {H : Hp} {p : Addr} {o : HO} (h : H p = none) : Same H (upd H p o) := fun a u e => by
  rw [upd_ne (ne_of_none e h)]
  exact e
theorem same_mut {H H' : Hp} {p : Addr} {o : HO} (e : Same H H') (h : H p = none) : Same H (upd H' p o) := fun a u ha => by
  rw [upd_ne (ne_of_none ha h)]
  exact e a u ha
/-- an object that is no tuple changes -/
theorem tp_mut {H : Hp} {p : Addr} {o u : HO} (h : H p = some u) (n : ∀ xs, u ≠ .tup xs) : Tp H (upd H p o) := fun a xs e => by
  rw [upd_ne (fun z => by rw [z, h] at e; exact n xs (Option.some.inj e))]
  exact e
mutual
theorem Im.mono {H H' : Hp} (t : Tp H H') : ∀ (d : PyData) (v : V), Im H v d → Im H' v d
  | .none, _, h => by cases h; exact .non
  | .bool b, _, h => by cases h; exact .bl b
  | .int i, _, h => by cases h; exact .int i
  | .str x, _, h => by cases h; exact .str x
  | .tuple ds, _, h => by
    cases h with
    | tup e q => exact .tup (t _ _ e) (ImAll.mono t ds _ q)
  | .list _, _, h => by cases h
  | .dict _, _, h => by cases h
theorem ImAll.mono {H H' : Hp} (t : Tp H H') : ∀ (ds : List PyData) (vs : List V), ImAll H vs ds → ImAll H' vs ds
  | [], _, h => by cases h; exact .nil
  | d :: ds, _, h => by
    cases h with
    | cons a b => exact .cons (Im.mono t d _ a) (ImAll.mono t ds _ b)
end
mutual
theorem Im.dp {K : PySem.W.Frag} {H : Hp} : ∀ (d : PyData) (v : V), Im H v d → Dp K H v d
  | .none, _, h => by cases h; exact .non
  | .bool b, _, h => by cases h; exact .bl b
  | .int i, _, h => by cases h; exact .int i
  | .str x, _, h => by cases h; exact .str x
  | .tuple ds, _, h => by
    cases h with
    | tup e q => exact .tup (SqT.of e) (ImAll.dp ds _ q)
  | .list _, _, h => by cases h
  | .dict _, _, h => by cases h
theorem ImAll.dp {K : PySem.W.Frag} {H : Hp} : ∀ (ds : List PyData) (vs : List V), ImAll H vs ds → DpAll K H vs ds
  | [], _, h => by cases h; exact .nil
  | d :: ds, _, h => by
    cases h with
    | cons a b => exact .cons (Im.dp d _ a) (ImAll.dp ds _ b)
end
theorem ImAll.len {H : Hp} : ∀ {vs : List V} {ds : List PyData}, ImAll H vs ds → vs.length = ds.length
  | _, _, .nil => rfl
  | _, _, .cons _ t => by rw [List.length_cons, List.length_cons, ImAll.len t]
theorem ImAll.get {H : Hp} : ∀ {vs : List V} {ds : List PyData} {i : Nat} {d : PyData}, ImAll H vs ds → ds[i]? = some d → ∃ v, vs[i]? = some v ∧ Im H v d
  | _, _, _, _, .nil, e => by simp at e
  | _, _, 0, _, .cons a _, e => by simp at e; subst e; exact ⟨_, rfl, a⟩
  | _, _, i + 1, d, .cons _ t, e => by
    obtain ⟨v, h1, h2⟩ := ImAll.get (i := i) (d := d) t (by simpa using e)
    exact ⟨v, by simpa using h1, h2⟩
theorem ImAll.getV {H : Hp} : ∀ {vs : List V} {ds : List PyData} {i : Nat} {v : V}, ImAll H vs ds → vs[i]? = some v → ∃ d, ds[i]? = some d ∧ Im H v d
  | _, _, _, _, .nil, e => by simp at e
  | _, _, 0, _, .cons a _, e => by simp at e; subst e; exact ⟨_, rfl, a⟩
  | _, _, i + 1, d, .cons _ t, e => by
    obtain ⟨v, h1, h2⟩ := ImAll.getV (i := i) (v := d) t (by simpa using e)
    exact ⟨v, by simpa using h1, h2⟩
theorem ImAll.app {H : Hp} : ∀ {vs ws : List V} {ds es : List PyData}, ImAll H vs ds → ImAll H ws es → ImAll H (vs ++ ws) (ds ++ es)
  | _, _, _, _, .nil, h => h
  | _, _, _, _, .cons a t, h => .cons a (ImAll.app t h)
theorem ImAll.one {H : Hp} {v : V} {d : PyData} (h : Im H v d) : ImAll H [v] [d] := .cons h .nil
theorem ImAll.dropn {H : Hp} : ∀ (n : Nat) {vs : List V} {ds : List PyData}, ImAll H vs ds → ImAll H (vs.drop n) (ds.drop n)
  | 0, _, _, h => h
  | n + 1, _, _, .nil => .nil
  | n + 1, _, _, .cons _ t => ImAll.dropn n t
theorem ImAll.taken {H : Hp} : ∀ (n : Nat) {vs : List V} {ds : List PyData}, ImAll H vs ds → ImAll H (vs.take n) (ds.take n)
  | 0, _, _, _ => .nil
  | n + 1, _, _, .nil => .nil
  | n + 1, _, _, .cons a t => .cons a (ImAll.taken n t)
/-- the same data of the same value -/
theorem Im.tupInv {H : Hp} {v : V} {ds : List PyData} (h : Im H v (.tuple ds)) : ∃ a xs, v = .ref a ∧ H a = some (.tup xs) ∧ ImAll H xs ds := by
  cases h with
  | tup e q => exact ⟨_, _, rfl, e, q⟩
theorem Im.intInv {H : Hp} {v : V} {i : Int} (h : Im H v (.int i)) : v = .int i := by cases h; rfl
theorem Im.strInv {H : Hp} {v : V} {i : Str} (h : Im H v (.str i)) : v = .str i := by cases h; rfl
theorem Im.boolInv {H : Hp} {v : V} {i : Bool} (h : Im H v (.bool i)) : v = .bl i := by cases h; rfl
theorem Im.noneInv {H : Hp} {v : V} (h : Im H v .none) : v = .non := by cases h; rfl

/-! ### what a slot holds: data, or a list of data (own: made by the def itself, held by this slot alone) -/
inductive Val where
  | im (d : PyData)
  | ls (own : Bool) (ds : List PyData)
  | dc (kv : List ((Int × Int) × PyData))
  | pc (b : Bool) (kv : List ((Int × Int) × PyData))
/-- a dict's pairs: keys are pairs of ints -/
abbrev KV := List ((Int × Int) × PyData)
def DKV (H : Hp) : List (List Key × V) → KV → Prop := Paired fun p q => p.1 = [.inl q.1.1, .inl q.1.2] ∧ Im H p.2 q.2
/-- a dict that is read alone -/
def DcAt (H : Hp) (l : Addr) (kv : KV) : Prop := ∃ od kvs, H l = some (.frz od (.dT kvs)) ∧ DKV H kvs kv
theorem DKV.mono {H H' : Hp} (t : Tp H H') : ∀ {kvs : List (List Key × V)} {kv : KV}, DKV H kvs kv → DKV H' kvs kv
  | _, _, .nil => .nil
  | _, _, .cons a b => .cons ⟨a.1, Im.mono t _ _ a.2⟩ (DKV.mono t b)
abbrev En := List (Option Val)
abbrev Xp := En → Option Val
abbrev Te := En → Option Bool
abbrev Tas := En → Option (List Val)
def Val.ro : Val → Val
  | .im d => .im d
  | .ls _ ds => .ls false ds
  | .dc kv => .dc kv
  | .pc b kv => .pc b kv
def VOk (H : Hp) (u : V) : Val → Prop
  | .im d => Im H u d
  | .ls _ ds => ∃ l vs, u = .ref l ∧ H l = some (.lst vs) ∧ ImAll H vs ds
  | .dc kv => ∃ l, u = .ref l ∧ DcAt H l kv
  | .pc b kv => ∃ a l, u = .ref a ∧ H a = some (.tup [.bl b, .ref l]) ∧ DcAt H l kv
/-- a new list is new -/
def Fr (H : Hp) (u : V) : Val → Prop
  | .ls true _ => ∀ l, u = .ref l → H l = none
  | _ => True
abbrev VsOk (H : Hp) : List V → List Val → Prop := Paired (VOk H)
theorem VOk.mono {H H' : Hp} (s : Same H H') {u : V} {x : Val} (h : VOk H u x) : VOk H' u x := by
  cases x with
  | im d => exact Im.mono (tp s) d u h
  | ls o ds =>
    obtain ⟨l, vs, e, h1, h2⟩ := h
    exact ⟨l, vs, e, s _ _ h1, ImAll.mono (tp s) _ _ h2⟩
  | dc kv =>
    obtain ⟨l, e, od, kvs, h1, h2⟩ := h
    exact ⟨l, e, od, kvs, s _ _ h1, h2.mono (tp s)⟩
  | pc b kv =>
    obtain ⟨a, l, e, h0, od, kvs, h1, h2⟩ := h
    exact ⟨a, l, e, s _ _ h0, od, kvs, s _ _ h1, h2.mono (tp s)⟩
theorem VOk.roV {H : Hp} {u : V} {x : Val} (h : VOk H u x) : VOk H u x.ro := by
  cases x <;> exact h
theorem Fr.roV {H : Hp} {u : V} {x : Val} : Fr H u x.ro := by
  cases x <;> trivial
theorem Fr.back {H H' : Hp} (s : Same H H') {u : V} {x : Val} (h : Fr H' u x) : Fr H u x := by
  cases x with
  | im d => trivial
  | ls o ds =>
    cases o with
    | false => trivial
    | true => exact fun l e => s.free (h l e)
  | dc kv => trivial
  | pc b kv => trivial
theorem VsOk.mono {H H' : Hp} (s : Same H H') : ∀ {us : List V} {xs : List Val}, VsOk H us xs → VsOk H' us xs
  | _, _, .nil => .nil
  | _, _, .cons a t => .cons (VOk.mono s a) (VsOk.mono s t)
structure EnOk (H0 H : Hp) (σ : L2.St) (ρ : En) : Prop where
  len : σ.length = ρ.length
  ok : ∀ (i : Nat) (x : Val), ρ[i]? = some (some x) → ∃ u, σ[i]? = some (some u) ∧ VOk H u x
  own : ∀ (i : Nat) (ds : List PyData) (l : Addr), ρ[i]? = some (some (.ls true ds)) → σ[i]? = some (some (.ref l)) → H0 l = none
  sep : ∀ (i j : Nat) (ds : List PyData) (b : Bool) (es : List PyData) (l : Addr), ρ[i]? = some (some (.ls true ds)) → ρ[j]? = some (some (.ls b es)) → i ≠ j → σ[i]? = some (some (.ref l)) → σ[j]? ≠ some (some (.ref l))
theorem EnOk.mono {H0 H H' : Hp} {σ : L2.St} {ρ : En} (s : Same H H') (E : EnOk H0 H σ ρ) : EnOk H0 H' σ ρ :=
  ⟨E.len, fun i x e => by obtain ⟨u, h1, h2⟩ := E.ok i x e; exact ⟨u, h1, h2.mono s⟩, E.own, E.sep⟩
/-- slot i gets data, or a new list -/
theorem EnOk.set {H0 H H2 : Hp} {σ : L2.St} {ρ : En} {i : Nat} {u : V} {x : Val} (E : EnOk H0 H σ ρ) (s0 : Same H0 H) (s : Same H H2) (h : VOk H2 u x) (f : Fr H u x) (hx : ∀ ds, x ≠ .ls false ds) : EnOk H0 H2 (σ.set i (some u)) (ρ.set i (some x)) := by
  have E2 := E.mono s
  refine ⟨by rw [List.length_set, List.length_set, E.len], fun j y e => ?_, fun j ds l e1 e2 => ?_, fun j k ds b es l e1 e2 ne e3 e4 => ?_⟩
  · by_cases hj : i = j
    · subst hj
      have hl : i < ρ.length := by
        rcases Nat.lt_or_ge i ρ.length with h' | h'
        · exact h'
        · rw [List.getElem?_eq_none (by rw [List.length_set]; exact h')] at e; cases e
      rw [List.getElem?_set_self hl] at e
      obtain rfl : x = y := Option.some.inj (Option.some.inj e)
      exact ⟨u, List.getElem?_set_self (by rw [E.len]; exact hl), h⟩
    · rw [List.getElem?_set_ne hj] at e
      obtain ⟨w, h1, h2⟩ := E2.ok j y e
      exact ⟨w, by rw [List.getElem?_set_ne hj]; exact h1, h2⟩
  · by_cases hj : i = j
    · subst hj
      have hl : i < ρ.length := by
        rcases Nat.lt_or_ge i ρ.length with h' | h'
        · exact h'
        · rw [List.getElem?_eq_none (by rw [List.length_set]; exact h')] at e1; cases e1
      rw [List.getElem?_set_self hl] at e1
      rw [List.getElem?_set_self (by rw [E.len]; exact hl)] at e2
      obtain rfl : x = .ls true ds := Option.some.inj (Option.some.inj e1)
      exact s0.free (f l (Option.some.inj (Option.some.inj e2)))
    · rw [List.getElem?_set_ne hj] at e1 e2
      exact E.own j ds l e1 e2
  · have hl : ∀ m y, (ρ.set i (some x))[m]? = some y → m < ρ.length := fun m y q => by
      rcases Nat.lt_or_ge m ρ.length with h' | h'
      · exact h'
      · rw [List.getElem?_eq_none (by rw [List.length_set]; exact h')] at q; cases q
    have lj := hl _ _ e1
    have lk := hl _ _ e2
    by_cases hj : i = j
    · subst hj
      rw [List.getElem?_set_self lj] at e1
      rw [List.getElem?_set_self (by rw [E.len]; exact lj)] at e3
      rw [List.getElem?_set_ne ne] at e2 e4
      obtain rfl : x = .ls true ds := Option.some.inj (Option.some.inj e1)
      obtain ⟨w, h1, l', vs, h2, h3, _⟩ := E.ok k _ e2
      rw [e4] at h1
      obtain rfl := Option.some.inj (Option.some.inj h1)
      cases h2
      have z := f l (Option.some.inj (Option.some.inj e3))
      rw [z] at h3
      cases h3
    · rw [List.getElem?_set_ne hj] at e1 e3
      by_cases hk : i = k
      · subst hk
        rw [List.getElem?_set_self lk] at e2
        rw [List.getElem?_set_self (by rw [E.len]; exact lk)] at e4
        obtain rfl : x = .ls b es := Option.some.inj (Option.some.inj e2)
        cases b with
        | false => exact hx es rfl
        | true =>
          obtain ⟨w, h1, l', vs, h2, h3, _⟩ := E.ok j _ e1
          rw [e3] at h1
          obtain rfl := Option.some.inj (Option.some.inj h1)
          cases h2
          have z := f l (Option.some.inj (Option.some.inj e4))
          rw [z] at h3
          cases h3
      · rw [List.getElem?_set_ne hk] at e2 e4
        exact E.sep j k ds b es l e1 e2 ne e3 e4
/-- slot i forgotten -/
theorem EnOk.drop {H0 H : Hp} {σ : L2.St} {ρ : En} {i : Nat} (E : EnOk H0 H σ ρ) (z : Option V) : EnOk H0 H (σ.set i z) (ρ.set i none) := by
  have key : ∀ j y, (ρ.set i none)[j]? = some (some y) → i ≠ j ∧ ρ[j]? = some (some y) := fun j y e => by
    by_cases hj : i = j
    · subst hj
      by_cases hl : i < ρ.length
      · rw [List.getElem?_set_self hl] at e; cases e
      · rw [List.getElem?_eq_none (by rw [List.length_set]; omega)] at e; cases e
    · rw [List.getElem?_set_ne hj] at e
      exact ⟨hj, e⟩
  refine ⟨by rw [List.length_set, List.length_set, E.len], fun j y e => ?_, fun j ds l e1 e2 => ?_, fun j k ds b es l e1 e2 ne e3 => ?_⟩
  · obtain ⟨hj, e'⟩ := key j y e
    rw [List.getElem?_set_ne hj]
    exact E.ok j y e'
  · obtain ⟨hj, e'⟩ := key _ _ e1
    rw [List.getElem?_set_ne hj] at e2
    exact E.own j ds l e' e2
  · obtain ⟨hj, e'⟩ := key _ _ e1
    obtain ⟨hk, e2'⟩ := key _ _ e2
    rw [List.getElem?_set_ne hj] at e3
    rw [List.getElem?_set_ne hk]
    exact E.sep j k ds b es l e' e2' ne e3
def wipeE (ρ : En) : List Nat → En
  | [] => ρ
  | v :: vs => (wipeE ρ vs).set v none
theorem EnOk.wipe {H0 H : Hp} {σ : L2.St} {ρ : En} (E : EnOk H0 H σ ρ) : ∀ vs : List Nat, EnOk H0 H (L2.wipe σ vs) (wipeE ρ vs)
  | [] => E
  | _ :: vs => (EnOk.wipe E vs).drop none
/-- another entry heap: fewer things stand since then -/
theorem EnOk.weak {H0 H0' H : Hp} {σ : L2.St} {ρ : En} (E : EnOk H0' H σ ρ) (s : Same H0 H0') : EnOk H0 H σ ρ := ⟨E.len, E.ok, fun i ds l e1 e2 => s.free (E.own i ds l e1 e2), E.sep⟩
/-- slot i's list is looked at from now on -/
def frz (i : Nat) (ρ : En) : En := match ρ[i]? with
  | some (some x) => ρ.set i (some x.ro)
  | _ => ρ
theorem EnOk.frz {H0 H : Hp} {σ : L2.St} {ρ : En} (E : EnOk H0 H σ ρ) (i : Nat) : EnOk H0 H σ (frz i ρ) := by
  unfold Ai.frz
  split
  · rename_i x hx
    have hl : i < ρ.length := by
      rcases Nat.lt_or_ge i ρ.length with h' | h'
      · exact h'
      · rw [List.getElem?_eq_none h'] at hx; cases hx
    have key : ∀ j y, (ρ.set i (some x.ro))[j]? = some (some y) → ∃ z, ρ[j]? = some (some z) ∧ (y = z ∨ (i = j ∧ y = z.ro)) := fun j y e => by
      by_cases hj : i = j
      · subst hj
        rw [List.getElem?_set_self hl] at e
        exact ⟨x, hx, .inr ⟨rfl, (Option.some.inj (Option.some.inj e)).symm⟩⟩
      · rw [List.getElem?_set_ne hj] at e
        exact ⟨y, e, .inl rfl⟩
    have own_ : ∀ {z : Val} {ds : List PyData} {p : Prop}, ((.ls true ds : Val) = z ∨ (p ∧ (.ls true ds : Val) = z.ro)) → z = .ls true ds := fun {z ds p} h => by
      rcases h with h | ⟨_, h⟩
      · exact h.symm
      · cases z <;> cases h
    refine ⟨by rw [List.length_set]; exact E.len, fun j y e => ?_, fun j ds l e1 e2 => ?_, fun j k ds b es l e1 e2 ne e3 => ?_⟩
    · obtain ⟨z, h1, h2⟩ := key j y e
      obtain ⟨u, h3, h4⟩ := E.ok j z h1
      refine ⟨u, h3, ?_⟩
      rcases h2 with h2 | ⟨_, h2⟩
      · rw [h2]; exact h4
      · rw [h2]; exact h4.roV
    · obtain ⟨z, h1, h2⟩ := key _ _ e1
      rw [own_ h2] at h1
      exact E.own j ds l h1 e2
    · obtain ⟨z, h1, h2⟩ := key _ _ e1
      rw [own_ h2] at h1
      obtain ⟨z', h3, h4⟩ := key _ _ e2
      obtain ⟨b', hz⟩ : ∃ b', z' = .ls b' es := by
        rcases h4 with h4 | ⟨_, h4⟩
        · exact ⟨b, h4.symm⟩
        · cases z' with
          | im d => cases h4
          | ls o ds' => cases h4; exact ⟨o, rfl⟩
          | dc kv => cases h4
          | pc c kv => cases h4
      rw [hz] at h3
      exact E.sep j k ds b' es l h1 h3 ne e3
  · exact E

/-! ### what an expression, a test, arguments come to -/
def tD (f : Xp) : TE := fun σ H Q => ∃ H0 ρ x, EnOk H0 H σ ρ ∧ f ρ = some x ∧ ∀ u H2, Same H H2 → VOk H2 u x → Fr H u x → Q u H2
def tT (f : Te) : TT := fun σ H Q => ∃ H0 ρ b, EnOk H0 H σ ρ ∧ f ρ = some b ∧ ∀ H2, Same H H2 → Q b H2
def tA (f : Tas) : TA := fun σ H Q => ∃ H0 ρ xs, EnOk H0 H σ ρ ∧ f ρ = some xs ∧ ∀ us H2, Same H H2 → VsOk H2 us xs → Q us H2
inductive Out where
  | nx (ρ : En)
  | rt (x : Val)
  | bk (ρ : En)
  | ct (ρ : En)
abbrev Bk := En → Option Out
def OOk (H0 : Hp) (D : Ends) : Out → Prop
  | .nx ρ => ∀ σ H, Same H0 H → EnOk H0 H σ ρ → D.nx σ H
  | .rt x => ∀ u H, Same H0 H → VOk H u x → Fr H0 u x → D.rt u H
  | .bk ρ => ∀ σ H, Same H0 H → EnOk H0 H σ ρ → D.bk σ H
  | .ct ρ => ∀ σ H, Same H0 H → EnOk H0 H σ ρ → D.ct σ H
def tS (s : Bk) : TS := fun D σ H => ∃ H0 ρ o, Same H0 H ∧ EnOk H0 H σ ρ ∧ s ρ = some o ∧ OOk H0 D o
section
variable {X : Cx}
theorem _root_.L2.PE.wk {e : Expr} {t t' : TE} (h : PE X e t) (k : ∀ σ H Q, t' σ H Q → t σ H Q) : PE X e t' := ⟨fun pins s σ H Q I q => h.run pins s σ H Q I (k σ H Q q)⟩
theorem _root_.L2.PT.wk {e : Expr} {t t' : TT} (h : PT X e t) (k : ∀ σ H Q, t' σ H Q → t σ H Q) : PT X e t' := ⟨fun pins s σ H Q I q => h.run pins s σ H Q I (k σ H Q q)⟩
theorem _root_.L2.PW.wk {e : Expr} {t t' : TT} (h : PW X e t) (k : ∀ σ H Q, t' σ H Q → t σ H Q) : PW X e t' := ⟨fun wh pins s σ H Q I q => h.run wh pins s σ H Q I (k σ H Q q)⟩
theorem _root_.L2.PA.wk {es : List Expr} {t t' : TA} (h : PA X es t) (k : ∀ σ H Q, t' σ H Q → t σ H Q) : PA X es t' := ⟨fun pos pins s σ H Q I q => h.run pos pins s σ H Q I (k σ H Q q)⟩
theorem _root_.L2.PS.wk {st : Stmt} {t t' : TS} (h : PS X st t) (k : ∀ D σ H, t' D σ H → t D σ H) : PS X st t' := ⟨fun pins s σ H D I q => h.run pins s σ H D I (k D σ H q)⟩
theorem _root_.L2.PSs.wk {st : List Stmt} {t t' : TS} (h : PSs X st t) (k : ∀ D σ H, t' D σ H → t D σ H) : PSs X st t' := ⟨fun pins s σ H D I q => h.run pins s σ H D I (k D σ H q)⟩
theorem _root_.L2.PG.wk {e : Expr} {t t' : TG} (h : PG X e t) (k : ∀ v σ H Q, t' v σ H Q → t v σ H Q) : PG X e t' := ⟨fun pins s σ H v u Q I r q => h.run pins s σ H v u Q I r (k v σ H Q q)⟩
theorem _root_.L2.PI.wk {tg e : Expr} {t t' : TI} (h : PI X tg e t) (k : ∀ σ H R, t' σ H R → t σ H R) : PI X tg e t' := ⟨fun pins s σ H R I q => h.run pins s σ H R I (k σ H R q)⟩
end
end Ai
set_option Elab.async false
set_option linter.all false
set_option maxRecDepth 100000
set_option maxHeartbeats 2000000
/-! Ai, part B: expressions and tests. -/
namespace Ai
open PySem L2
theorem tD_intro {f : Xp} {σ : L2.St} {H : Hp} {Q : VK} {H0 : Hp} {ρ : En} {x : Val} (E : EnOk H0 H σ ρ) (e : f ρ = some x) (k : ∀ u H2, Same H H2 → VOk H2 u x → Fr H u x → Q u H2) : tD f σ H Q := ⟨H0, ρ, x, E, e, k⟩
section
variable {X : Cx}
/-! ### names and constants -/
def eVar (i : Nat) : Xp := fun ρ => match ρ[i]? with
  | some (some x) => some x.ro
  | _ => none
theorem d_var (i : Nat) {x : Str} {pos : Pos} (h : PE X (.Name x pos) (tVar i)) : PE X (.Name x pos) (tD (eVar i)) := h.wk fun σ H Q ⟨H0, ρ, x, E, e, k⟩ => by
  unfold eVar at e
  split at e
  · rename_i y hy
    cases e
    obtain ⟨u, h1, h2⟩ := E.ok i y hy
    exact ⟨u, h1, k u H (Same.refl H) h2.roV Fr.roV⟩
  · cases e
def eC (d : PyData) : Xp := fun _ => some (.im d)
theorem d_c {v : V} {d : PyData} {e : Expr} (h : PE X e (tC v)) (hv : ∀ H, Im H v d) : PE X e (tD (eC d)) := h.wk fun σ H Q ⟨H0, ρ, x, E, e, k⟩ => by
  cases e
  exact k v H (Same.refl H) (hv H) trivial
theorem d_int {i : Int} {j : Nat} {pos : Pos} : PE X (.Constant (.int i) j pos) (tD (eC (.int i))) := d_c pe_int fun _ => .int i
theorem d_bool {i : Bool} {j : Nat} {pos : Pos} : PE X (.Constant (.bool i) j pos) (tD (eC (.bool i))) := d_c pe_bl fun _ => .bl i
theorem d_str {i : Str} {j : Nat} {pos : Pos} : PE X (.Constant (.str i) j pos) (tD (eC (.str i))) := d_c pe_str fun _ => .str i
theorem d_none {j : Nat} {pos : Pos} : PE X (.Constant .none j pos) (tD (eC .none)) := d_c pe_non fun _ => .non
theorem d_glob {x : Str} {i : Int} {pos : Pos} (hg : Gl X x) (hm : ∃ t, X.mg x = some (.int i t)) (hd : (x == ("__debug__" : Str)) = false := by decide) : PE X (.Name x pos) (tD (eC (.int i))) := by
  obtain ⟨t, hm⟩ := hm
  exact d_c (v := .int i) (pe_glob hg hm ⟨t, rfl⟩ hd) fun _ => .int i

/-! ### operators -/
def OpD (r : R2) (g : Val → Val → Option Val) : Prop := ∀ (u w : V) (x y z : Val) (H : Hp) (Q : VK), VOk H u x → VOk H w y → g x y = some z → (∀ v H2, Same H H2 → VOk H2 v z → Fr H v z → Q v H2) → r u w H Q
def eBin (g : Val → Val → Option Val) (a b : Xp) : Xp := fun ρ => (a ρ).bind fun x => (b ρ).bind fun y => g x y
theorem bindS {α β : Type} {o : Option α} {f : α → Option β} {z : β} (h : o.bind f = some z) : ∃ a, o = some a ∧ f a = some z := by
  cases o with
  | none => cases h
  | some a => exact ⟨a, rfl, h⟩
theorem tOp_D {r : R2} {g : Val → Val → Option Val} (hd : OpD r g) (fa fb : Xp) (σ : L2.St) (H : Hp) (Q : VK) (h : tD (eBin g fa fb) σ H Q) : tOp r (tD fa) (tD fb) σ H Q := by
  obtain ⟨H0, ρ, z, E, e, k⟩ := h
  obtain ⟨x, ex, e⟩ := bindS e
  obtain ⟨y, ey, e⟩ := bindS e
  refine ⟨H0, ρ, x, E, ex, fun u H1 s1 v1 _ => ?_⟩
  refine ⟨H0, ρ, y, E.mono s1, ey, fun w H2 s2 v2 _ => ?_⟩
  exact hd u w x y z H2 Q (v1.mono s2) v2 e fun v H3 s3 v3 f3 => k v H3 ((s1.trans s2).trans s3) v3 (f3.back (s1.trans s2))
theorem d_op {op : Operator} {r : R2} {g : Val → Val → Option Val} {a b : Expr} {fa fb : Xp} {pos : Pos} (ho : OpR X (binaryOp op) r) (hd : OpD r g) (ha : PE X a (tD fa)) (hb : PE X b (tD fb)) : PE X (.BinOp a op b pos) (tD (eBin g fa fb)) :=
  (pe_op ho ha hb).wk (tOp_D hd fa fb)
theorem d_cmp {op : CmpOp} {r : R2} {g : Val → Val → Option Val} {a b : Expr} {fa fb : Xp} {pos : Pos} (ho : OpR X (compareOp op) r) (hd : OpD r g) (ha : PE X a (tD fa)) (hb : PE X b (tD fb)) (hm : behindInMarks op b = false) : PE X (.Compare a [op] [b] pos) (tD (eBin g fa fb)) :=
  (pe_cmpR ho ha hb hm).wk (tOp_D hd fa fb)
/-- a bool as a test -/
def eB (f : Xp) : Te := fun ρ => match f ρ with
  | some (.im (.bool b)) => some b
  | _ => none
theorem eB_some {f : Xp} {ρ : En} {b : Bool} (h : eB f ρ = some b) : f ρ = some (.im (.bool b)) := by
  unfold eB at h
  split at h
  · cases h; assumption
  · cases h
theorem tB_D (f : Xp) (σ : L2.St) (H : Hp) (Q : Bool → Hp → Prop) (h : tT (eB f) σ H Q) : tD f σ H (fun x H' => ∃ c, x = .bl c ∧ Q c H') := by
  obtain ⟨H0, ρ, b, E, e, k⟩ := h
  exact ⟨H0, ρ, _, E, eB_some e, fun u H1 s1 v1 _ => ⟨b, Im.boolInv v1, k H1 s1⟩⟩
theorem t_val {e : Expr} {f : Xp} (h : PE X e (tD f)) (he : ∀ whole, isTrue e X.env whole = (do let v ← whole; standAt e.pos; holding [v] (truthy v)) := by intro _; rfl) : PT X e (tT (eB f)) := (pt_val h he).wk (tB_D f)
theorem t_cmp {op : CmpOp} {r : R2} {g : Val → Val → Option Val} {a b : Expr} {fa fb : Xp} {pos : Pos} (ho : OpR X (compareOp op) r) (hd : OpD r g) (ha : PE X a (tD fa)) (hb : PE X b (tD fb)) (hm : behindInMarks op b = false) : PT X (.Compare a [op] [b] pos) (tT (eB (eBin g fa fb))) :=
  (pt_cmpR ho ha hb hm).wk fun σ H Q h => tOp_D hd fa fb σ H _ (tB_D _ σ H Q h)
def eChain (g g' : Val → Val → Option Val) (a b c : Xp) : Xp := fun ρ => (a ρ).bind fun x => (b ρ).bind fun y => (g x y).bind fun z => match z with
  | .im (.bool true) => (c ρ).bind fun w => g' y w
  | .im (.bool false) => some (.im (.bool false))
  | _ => none
theorem tChain_D {r r' : R2} {g g' : Val → Val → Option Val} (hd : OpD r g) (hd' : OpD r' g') (fa fb fc : Xp) (σ : L2.St) (H : Hp) (Q : VK) (h : tD (eChain g g' fa fb fc) σ H Q) : tChain r r' (tD fa) (tD fb) (tD fc) σ H Q := by
  obtain ⟨H0, ρ, z, E, e, k⟩ := h
  obtain ⟨x, ex, e⟩ := bindS e
  obtain ⟨y, ey, e⟩ := bindS e
  obtain ⟨t, et, e⟩ := bindS e
  refine ⟨H0, ρ, x, E, ex, fun u H1 s1 v1 _ => ?_⟩
  refine ⟨H0, ρ, y, E.mono s1, ey, fun w H2 s2 v2 _ => ?_⟩
  refine hd u w x y t H2 _ (v1.mono s2) v2 et fun v H3 s3 v3 f3 => ?_
  split at e
  · refine ⟨true, Im.boolInv v3, ?_⟩
    rw [if_pos rfl]
    obtain ⟨q, eq, e⟩ := bindS e
    refine ⟨H0, ρ, q, E.mono ((s1.trans s2).trans s3), eq, fun u4 H4 s4 v4 _ => ?_⟩
    exact hd' w u4 y q z H4 Q (v2.mono (s3.trans s4)) v4 e fun v5 H5 s5 w5 f5 => k v5 H5 ((((s1.trans s2).trans s3).trans s4).trans s5) w5 (f5.back (((s1.trans s2).trans s3).trans s4))
  · refine ⟨false, Im.boolInv v3, ?_⟩
    rw [if_neg Bool.false_ne_true]
    cases e
    exact k _ H3 ((s1.trans s2).trans s3) (.bl false) trivial
  · cases e
theorem d_chain {op op' : CmpOp} {r r' : R2} {g g' : Val → Val → Option Val} {a b c : Expr} {fa fb fc : Xp} {pos : Pos} (ho : OpR X (compareOp op) r) (hd : OpD r g) (ho' : OpR X (compareOp op') r') (hd' : OpD r' g') (ha : PE X a (tD fa)) (hb : PE X b (tD fb)) (hc : PE X c (tD fc))
    (h : PE X (.Compare a [op, op'] [b, c] pos) (tChain r r' (tD fa) (tD fb) (tD fc))) : PE X (.Compare a [op, op'] [b, c] pos) (tD (eChain g g' fa fb fc)) := h.wk (tChain_D hd hd' fa fb fc)
theorem t_chain {op op' : CmpOp} {r r' : R2} {g g' : Val → Val → Option Val} {a b c : Expr} {fa fb fc : Xp} {pos : Pos} (ho : OpR X (compareOp op) r) (hd : OpD r g) (ho' : OpR X (compareOp op') r') (hd' : OpD r' g') (ha : PE X a (tD fa)) (hb : PE X b (tD fb)) (hc : PE X c (tD fc))
    (h : PT X (.Compare a [op, op'] [b, c] pos) (tTest (tChain r r' (tD fa) (tD fb) (tD fc)))) : PT X (.Compare a [op, op'] [b, c] pos) (tT (eB (eChain g g' fa fb fc))) :=
  h.wk fun σ H Q h => tChain_D hd hd' fa fb fc σ H _ (tB_D _ σ H Q h)
/-! ### and, or, not -/
def eAnd (a b : Xp) : Xp := fun ρ => (a ρ).bind fun x => match x with
  | .im (.bool true) => b ρ
  | .im (.bool false) => some (.im (.bool false))
  | _ => none
def eOr (a b : Xp) : Xp := fun ρ => (a ρ).bind fun x => match x with
  | .im (.bool false) => b ρ
  | .im (.bool true) => some (.im (.bool true))
  | _ => none
def eNot (a : Xp) : Xp := fun ρ => (a ρ).bind fun x => match x with
  | .im (.bool b) => some (.im (.bool (!b)))
  | _ => none
theorem d_one {op : BoolOp} {a : Expr} {fa : Xp} {pos : Pos} (ha : PE X a (tD fa)) : PE X (.BoolOp op [a] pos) (tD fa) := pe_one ha
theorem d_and {a b : Expr} {rest : List Expr} {fa fb : Xp} {pos : Pos} (ha : PE X a (tD fa)) (hb : PE X (.BoolOp .And (b :: rest) pos) (tD fb)) : PE X (.BoolOp .And (a :: b :: rest) pos) (tD (eAnd fa fb)) := (pe_and ha hb).wk fun σ H Q ⟨H0, ρ, z, E, e, k⟩ => by
  obtain ⟨x, ex, e⟩ := bindS e
  refine ⟨H0, ρ, x, E, ex, fun u H1 s1 v1 _ => ?_⟩
  split at e
  · refine ⟨true, Im.boolInv v1, ?_⟩
    rw [if_pos rfl]
    exact ⟨H0, ρ, z, E.mono s1, e, fun w H2 s2 v2 f2 => k w H2 (s1.trans s2) v2 (f2.back s1)⟩
  · refine ⟨false, Im.boolInv v1, ?_⟩
    rw [if_neg Bool.false_ne_true]
    cases e
    exact k _ H1 s1 (.bl false) trivial
  · cases e
theorem d_or {a b : Expr} {rest : List Expr} {fa fb : Xp} {pos : Pos} (ha : PE X a (tD fa)) (hb : PE X (.BoolOp .Or (b :: rest) pos) (tD fb)) : PE X (.BoolOp .Or (a :: b :: rest) pos) (tD (eOr fa fb)) := (pe_or ha hb).wk fun σ H Q ⟨H0, ρ, z, E, e, k⟩ => by
  obtain ⟨x, ex, e⟩ := bindS e
  refine ⟨H0, ρ, x, E, ex, fun u H1 s1 v1 _ => ?_⟩
  split at e
  · refine ⟨false, Im.boolInv v1, ?_⟩
    rw [if_neg Bool.false_ne_true]
    exact ⟨H0, ρ, z, E.mono s1, e, fun w H2 s2 v2 f2 => k w H2 (s1.trans s2) v2 (f2.back s1)⟩
  · refine ⟨true, Im.boolInv v1, ?_⟩
    rw [if_pos rfl]
    cases e
    exact k _ H1 s1 (.bl true) trivial
  · cases e
theorem d_not {a : Expr} {fa : Xp} {pos : Pos} (ha : PE X a (tD fa)) : PE X (.UnaryOp .Not a pos) (tD (eNot fa)) := (pe_not ha).wk fun σ H Q ⟨H0, ρ, z, E, e, k⟩ => by
  obtain ⟨x, ex, e⟩ := bindS e
  refine ⟨H0, ρ, x, E, ex, fun u H1 s1 v1 _ => ?_⟩
  split at e
  · cases e
    exact ⟨_, Im.boolInv v1, k _ H1 s1 (.bl _) trivial⟩
  · cases e
def tAndE (a b : Te) : Te := fun ρ => (a ρ).bind fun x => match x with
  | true => b ρ
  | false => some false
def tOrE (a b : Te) : Te := fun ρ => (a ρ).bind fun x => match x with
  | false => b ρ
  | true => some true
def tNotE (a : Te) : Te := fun ρ => (a ρ).map (!·)
theorem w_and1 {a : Expr} {fa : Te} {pos : Pos} (ha : PT X a (tT fa)) : PW X (.BoolOp .And [a] pos) (tT fa) := pw_and1 ha
theorem w_or1 {a : Expr} {fa : Te} {pos : Pos} (ha : PT X a (tT fa)) : PW X (.BoolOp .Or [a] pos) (tT fa) := pw_or1 ha
theorem w_and {a b : Expr} {rest : List Expr} {fa fb : Te} {pos : Pos} (ha : PT X a (tT fa)) (hb : PW X (.BoolOp .And (b :: rest) pos) (tT fb)) : PW X (.BoolOp .And (a :: b :: rest) pos) (tT (tAndE fa fb)) := (pw_and ha hb).wk fun σ H Q ⟨H0, ρ, z, E, e, k⟩ => by
  obtain ⟨x, ex, e⟩ := bindS e
  refine ⟨H0, ρ, x, E, ex, fun H1 s1 => ?_⟩
  cases x with
  | true =>
    rw [if_pos rfl]
    exact ⟨H0, ρ, z, E.mono s1, e, fun H2 s2 => k H2 (s1.trans s2)⟩
  | false =>
    rw [if_neg Bool.false_ne_true]
    cases e
    exact k H1 s1
theorem w_or {a b : Expr} {rest : List Expr} {fa fb : Te} {pos : Pos} (ha : PT X a (tT fa)) (hb : PW X (.BoolOp .Or (b :: rest) pos) (tT fb)) : PW X (.BoolOp .Or (a :: b :: rest) pos) (tT (tOrE fa fb)) := (pw_or ha hb).wk fun σ H Q ⟨H0, ρ, z, E, e, k⟩ => by
  obtain ⟨x, ex, e⟩ := bindS e
  refine ⟨H0, ρ, x, E, ex, fun H1 s1 => ?_⟩
  cases x with
  | false =>
    rw [if_neg Bool.false_ne_true]
    exact ⟨H0, ρ, z, E.mono s1, e, fun H2 s2 => k H2 (s1.trans s2)⟩
  | true =>
    rw [if_pos rfl]
    cases e
    exact k H1 s1
theorem t_w {e : Expr} {f : Te} (h : PW X e (tT f)) : PT X e (tT f) := h.pt
theorem t_not {a : Expr} {fa : Te} {pos : Pos} (ha : PT X a (tT fa)) : PT X (.UnaryOp .Not a pos) (tT (tNotE fa)) := (pt_not ha).wk fun σ H Q ⟨H0, ρ, z, E, e, k⟩ => by
  unfold tNotE at e
  cases h : fa ρ with
  | none => rw [h] at e; cases e
  | some b =>
    rw [h] at e
    cases e
    exact ⟨H0, ρ, b, E, h, fun H1 s1 => k H1 s1⟩
def eIf (t : Te) (a b : Xp) : Xp := fun ρ => (t ρ).bind fun c => match c with
  | true => a ρ
  | false => b ρ
theorem d_if {c a b : Expr} {t : Te} {fa fb : Xp} {pos : Pos} (hc : PT X c (tT t)) (ha : PE X a (tD fa)) (hb : PE X b (tD fb)) : PE X (.IfExp c a b pos) (tD (eIf t fa fb)) := (pe_ifExp hc ha hb).wk fun σ H Q ⟨H0, ρ, z, E, e, k⟩ => by
  obtain ⟨x, ex, e⟩ := bindS e
  refine ⟨H0, ρ, x, E, ex, fun H1 s1 => ?_⟩
  cases x with
  | true =>
    rw [if_pos rfl]
    exact ⟨H0, ρ, z, E.mono s1, e, fun w H2 s2 v2 f2 => k w H2 (s1.trans s2) v2 (f2.back s1)⟩
  | false =>
    rw [if_neg Bool.false_ne_true]
    exact ⟨H0, ρ, z, E.mono s1, e, fun w H2 s2 v2 f2 => k w H2 (s1.trans s2) v2 (f2.back s1)⟩
/-! ### arguments, tuples, lists -/
def aNil : Tas := fun _ => some []
def aCons (a : Xp) (r : Tas) : Tas := fun ρ => (a ρ).bind fun x => (r ρ).bind fun xs => some (x :: xs)
theorem a_nil : PA X [] (tA aNil) := pa_nil.wk fun σ H Q ⟨H0, ρ, z, E, e, k⟩ => by
  cases e
  exact k [] H (Same.refl H) .nil
theorem a_cons {e : Expr} {es : List Expr} {fa : Xp} {r : Tas} (ha : PE X e (tD fa)) (hr : PA X es (tA r)) (hs : starEach (e :: es) X.env = (false, eval e X.env) :: starEach es X.env := by rfl) : PA X (e :: es) (tA (aCons fa r)) := (pa_cons ha hr hs).wk fun σ H Q ⟨H0, ρ, z, E, e, k⟩ => by
  obtain ⟨x, ex, e⟩ := bindS e
  obtain ⟨xs, exs, e⟩ := bindS e
  cases e
  refine ⟨H0, ρ, x, E, ex, fun u H1 s1 v1 _ => ?_⟩
  exact ⟨H0, ρ, xs, E.mono s1, exs, fun us H2 s2 v2 => k (u :: us) H2 (s1.trans s2) (.cons (v1.mono s2) v2)⟩
def imsOf : List Val → Option (List PyData)
  | [] => some []
  | .im d :: r => (imsOf r).map (d :: ·)
  | _ :: _ => none
theorem imsOk {H : Hp} : ∀ {us : List V} {xs : List Val} {ds : List PyData}, VsOk H us xs → imsOf xs = some ds → ImAll H us ds
  | _, _, _, .nil, e => by cases e; exact .nil
  | _, .im d :: r, _, .cons a t, e => by
    unfold imsOf at e
    cases h : imsOf r with
    | none => rw [h] at e; cases e
    | some es =>
      rw [h] at e
      cases e
      exact .cons a (imsOk t h)
  | _, .ls _ _ :: _, _, .cons _ _, e => by cases e
  | _, .dc _ :: _, _, .cons _ _, e => by cases e
  | _, .pc _ _ :: _, _, .cons _ _, e => by cases e
def lenOk (n : Nat) : Bool := decide (n ≤ 1000000)
theorem lenLe {n : Nat} (h : lenOk n = true) : n ≤ sizeLine := by
  have h1 : n ≤ 1000000 := of_decide_eq_true h
  rw [sizeLine_eq]
  omega
def eTup (a : Tas) : Xp := fun ρ => (a ρ).bind fun xs => (imsOf xs).bind fun ds => if lenOk ds.length then some (.im (.tuple ds)) else none
def eLst (a : Tas) : Xp := fun ρ => (a ρ).bind fun xs => (imsOf xs).bind fun ds => if lenOk ds.length then some (.ls true ds) else none
theorem ifS {α : Type} {c : Bool} {a z : α} (h : (if c then some a else none) = some z) : c = true ∧ a = z := by
  cases c with
  | true => exact ⟨rfl, Option.some.inj h⟩
  | false => cases h
theorem d_tup {es : List Expr} {a : Tas} {k : Nat} {pos : Pos} (h : PA X es (tA a)) : PE X (.Tuple es k pos) (tD (eTup a)) := (pe_tup h).wk fun σ H Q ⟨H0, ρ, z, E, e, k⟩ => by
  obtain ⟨xs, exs, e⟩ := bindS e
  obtain ⟨ds, eds, e⟩ := bindS e
  obtain ⟨hl, e⟩ := ifS e
  subst e
  refine ⟨H0, ρ, xs, E, exs, fun us H1 s1 v1 => ?_⟩
  have im := imsOk v1 eds
  refine ⟨by rw [im.len]; exact lenLe hl, fun p hp => k _ _ (s1.trans (same_new hp)) (.tup upd_same (ImAll.mono (tp (same_new hp)) _ _ im)) trivial⟩
theorem d_lst {es : List Expr} {a : Tas} {pos : Pos} (h : PA X es (tA a)) : PE X (.List es pos) (tD (eLst a)) := (pe_lst h).wk fun σ H Q ⟨H0, ρ, z, E, e, k⟩ => by
  obtain ⟨xs, exs, e⟩ := bindS e
  obtain ⟨ds, eds, e⟩ := bindS e
  obtain ⟨hl, e⟩ := ifS e
  subst e
  refine ⟨H0, ρ, xs, E, exs, fun us H1 s1 v1 => ?_⟩
  have im := imsOk v1 eds
  refine ⟨by rw [im.len]; exact lenLe hl, fun p hp => k _ _ (s1.trans (same_new hp)) ⟨p, us, rfl, upd_same, ImAll.mono (tp (same_new hp)) _ _ im⟩ fun l e => ?_⟩
  cases e
  exact s1.free hp
/-! ### calls of built-ins by name -/
def CallD (r : List V → Hp → VK → Prop) (g : List Val → Option Val) : Prop := ∀ (us : List V) (xs : List Val) (z : Val) (H : Hp) (Q : VK), VsOk H us xs → g xs = some z → (∀ v H2, Same H H2 → VOk H2 v z → Fr H v z → Q v H2) → r us H Q
def eCall (g : List Val → Option Val) (a : Tas) : Xp := fun ρ => (a ρ).bind g
theorem tCB_D {r : List V → Hp → VK → Prop} {g : List Val → Option Val} (hd : CallD r g) (a : Tas) (σ : L2.St) (H : Hp) (Q : VK) (h : tD (eCall g a) σ H Q) : tCB r (tA a) σ H Q := by
  obtain ⟨H0, ρ, z, E, e, k⟩ := h
  obtain ⟨xs, exs, e⟩ := bindS e
  refine ⟨H0, ρ, xs, E, exs, fun us H1 s1 v1 => ?_⟩
  exact hd us xs z H1 Q v1 e fun v H2 s2 v2 f2 => k v H2 (s1.trans s2) v2 (f2.back s1)
theorem d_callB {e : Expr} {r : List V → Hp → VK → Prop} {g : List Val → Option Val} {a : Tas} (h : PE X e (tCB r (tA a))) (hd : CallD r g) : PE X e (tD (eCall g a)) := h.wk (tCB_D hd a)
/-! ### calls of defs: the promise by a mirror -/
def spG (g : List Val → Option Val) : Sp := fun vs H Q _ => ∃ xs z, VsOk H vs xs ∧ g xs = some z ∧ ∀ v H2, Same H H2 → VOk H2 v z → Fr H v z → Q v H2
theorem d_call {e : Expr} {g : List Val → Option Val} {a : Tas} {E : XK} (h : PE X e (tCall (spG g) [] E (tA a))) : PE X e (tD (eCall g a)) := h.wk fun σ H Q ⟨H0, ρ, z, E, e, k⟩ => by
  obtain ⟨xs, exs, e⟩ := bindS e
  refine ⟨H0, ρ, xs, E, exs, fun us H1 s1 v1 => ?_⟩
  refine ⟨xs, z, by rw [List.append_nil]; exact v1, e, fun v H2 s2 v2 f2 => k v H2 (s1.trans s2) v2 (f2.back s1)⟩
end
end Ai
set_option Elab.async false
set_option linter.all false
set_option maxRecDepth 100000
set_option maxHeartbeats 2000000
/-! Ai, part C: the order of data (ints, tuples of such at any depth), in and not in over a tuple of data. -/
namespace Ai
open PySem L2
/-! ### the order, as a function -/
mutual
def okD : PyData → PyData → Bool
  | .int _, .int _ => true
  | .tuple xs, .tuple ys => okL xs ys
  | _, _ => false
def okL : List PyData → List PyData → Bool
  | x :: xs, y :: ys => okD x y && okL xs ys
  | _, _ => true
end
mutual
def ordD (f : Int → Int → Bool) : PyData → PyData → Bool
  | .int a, .int b => f a b
  | .tuple xs, .tuple ys => ordL f xs ys
  | _, _ => false
def ordL (f : Int → Int → Bool) : List PyData → List PyData → Bool
  | [], ys => f 0 ys.length
  | x :: xs, [] => f (xs.length + 1) 0
  | x :: xs, y :: ys => if PyData.eqv x y = true then ordL f xs ys else ordD f x y
end
structure OpF (op : CmpOp) (f : Int → Int → Bool) : Prop where
  int : ∀ (A : Around) (s : Shared) (a b : Int) (t u : Tok), Ob.RcOp op A s (.int a t) (.int b u) (f a b)
  tup : ∀ {A : Around} {s : Shared} {l b : Addr} {items items2 : Array Value} {e r : Nat → Bool}, s.heap.IsTuple l items → s.heap.IsTuple b items2 → A.units < cLine →
    (∀ (j : Nat) (h1 : j < items.size) (h2 : j < items2.size), SeqAt.EqAt A.in1 s items[j] items2[j] (e j)) →
    (∀ (j : Nat) (h1 : j < items.size) (h2 : j < items2.size), e j = false → Ob.RcOp op A.in1 s items[j] items2[j] (r j)) →
    Ob.RcOp op A s (.ref l) (.ref b) (Ob.lexAt e r (f items.size items2.size) 0 (min items.size items2.size))
  sh : ∀ a b : Int, f (a + 1) (b + 1) = f a b
  rc : ∀ v u : Value, compareOp op v u = richCompare op v u
theorem opF_lt : OpF .Lt fun a b => decide (a < b) := ⟨fun A s a b t u => Ob.RcOp.lt_int a b t u, fun {A s l b items items2 e r} hl hb hu he hr => by
  have h := Ob.RcOp.tuples_lt hl hb hu he hr
  have e2 : decide ((items.size : Int) < (items2.size : Int)) = decide (items.size < items2.size) := by simp
  rw [e2]
  exact h, fun a b => by simp, fun _ _ => rfl⟩
theorem opF_le : OpF .LtE fun a b => decide (a ≤ b) := ⟨fun A s a b t u => Ob.RcOp.le_int a b t u, fun {A s l b items items2 e r} hl hb hu he hr => by
  have h := Ob.RcOp.tuples_le hl hb hu he hr
  have e2 : decide ((items.size : Int) ≤ (items2.size : Int)) = decide (items.size ≤ items2.size) := by simp
  rw [e2]
  exact h, fun a b => by simp, fun _ _ => rfl⟩
theorem opF_gt : OpF .Gt fun a b => decide (b < a) := ⟨fun A s a b t u => Ob.RcOp.gt_int a b t u, fun {A s l b items items2 e r} hl hb hu he hr => by
  have h := Ob.RcOp.tuples_gt hl hb hu he hr
  have e2 : decide ((items2.size : Int) < (items.size : Int)) = decide (items.size > items2.size) := by simp
  rw [e2]
  exact h, fun a b => by simp, fun _ _ => rfl⟩
theorem opF_ge : OpF .GtE fun a b => decide (b ≤ a) := ⟨fun A s a b t u => Ob.RcOp.ge_int a b t u, fun {A s l b items items2 e r} hl hb hu he hr => by
  have h := Ob.RcOp.tuples_ge hl hb hu he hr
  have e2 : decide ((items2.size : Int) ≤ (items.size : Int)) = decide (items.size ≥ items2.size) := by simp
  rw [e2]
  exact h, fun a b => by simp, fun _ _ => rfl⟩
theorem lex_ord {f : Int → Int → Bool} (sh : ∀ a b : Int, f (a + 1) (b + 1) = f a b) (e r : Nat → Bool) : ∀ (xs ys : List PyData) (i : Nat),
    (∀ j x y, xs[j]? = some x → ys[j]? = some y → e (i + j) = PyData.eqv x y ∧ r (i + j) = ordD f x y) →
    Ob.lexAt e r (f xs.length ys.length) i (min xs.length ys.length) = ordL f xs ys
  | [], ys, i, h => by
    rw [show min ([] : List PyData).length ys.length = 0 by simp, Ob.lexAt_zero]
    simp [ordL]
  | x :: xs, [], i, h => by
    rw [show min (x :: xs).length ([] : List PyData).length = 0 by simp, Ob.lexAt_zero]
    simp [ordL]
  | x :: xs, y :: ys, i, h => by
    have hm : min (x :: xs).length (y :: ys).length = min xs.length ys.length + 1 := by simp only [List.length_cons]; omega
    have hf : f (((x :: xs).length : Nat) : Int) (((y :: ys).length : Nat) : Int) = f (xs.length : Nat) (ys.length : Nat) := by
      rw [List.length_cons, List.length_cons, Int.natCast_add, Int.natCast_add]
      exact sh _ _
    rw [hm, Ob.lexAt_succ, hf]
    obtain ⟨h1, h2⟩ := h 0 x y rfl rfl
    rw [Nat.add_zero] at h1 h2
    rw [h1, h2]
    have ih := lex_ord sh e r xs ys (i + 1) fun j a b ea eb => by
      have q := h (j + 1) a b (by simpa using ea) (by simpa using eb)
      rw [show i + 1 + j = i + (j + 1) by omega]
      exact q
    rw [ih]
    conv => rhs; unfold ordL
mutual
theorem rc_data {op : CmpOp} {f : Int → Int → Bool} (F : OpF op f) : ∀ (d e : PyData) (A : Around) (s : Shared) (a b : Value) (as bs : List Addr), Reads s.heap a d as → Reads s.heap b e bs → okD d e = true → d.canLay0 = true → e.canLay0 = true →
    A.units + min d.depth e.depth < cLine → Ob.RcOp op A s a b (ordD f d e)
  | .int i, .int j, A, s, _, _, _, _, ra, rb, _, _, _, _ => by
    cases ra
    cases rb
    exact F.int A s i j _ _
  | .tuple xs, .tuple ys, A, s, _, _, _, _, ra, rb, ok, ha, hb, hu => by
    cases ra with
    | tuple h1 h2 h3 h4 =>
      cases rb with
      | tuple k1 k2 k3 k4 =>
        rename_i vs n a o vs' n' a' o'
        have hl : s.heap.IsTuple _ _ := ⟨_, h1, h2, _, h3⟩
        have hl' : s.heap.IsTuple _ _ := ⟨_, k1, k2, _, k3⟩
        have n1 := SeqAt.ReadsAll.length xs _ _ h4
        have n2 := SeqAt.ReadsAll.length ys _ _ k4
        have hok : okL xs ys = true := ok
        have hu' := SeqAt.room_in hu
        have key := F.tup hl hl' (SeqAt.room_here hu) (e := SeqAt.pairEq xs ys) (r := fun j => ordD f (xs.getD j .none) (ys.getD j .none))
          (fun j j1 j2 => by
            have := SeqAt.eqAt_readsAll xs ys A.in1 s _ _ _ _ h4 k4 ha hb hu' j (by simpa using j1) (by simpa using j2)
            simpa using this)
          (fun j j1 j2 _ => by
            have := rc_dataAll F xs ys A.in1 s _ _ _ _ h4 k4 hok ha hb hu' j (by simpa using j1) (by simpa using j2)
            simpa using this)
        have e1 : ∀ j x y, xs[j]? = some x → ys[j]? = some y → SeqAt.pairEq xs ys (0 + j) = PyData.eqv x y ∧ ordD f (xs.getD (0 + j) .none) (ys.getD (0 + j) .none) = ordD f x y := fun j x y ex ey => by
          rw [Nat.zero_add]
          refine ⟨?_, ?_⟩
          · unfold SeqAt.pairEq
            simp [List.getD, ex, ey]
          · simp [List.getD, ex, ey]
        have e2 := lex_ord F.sh (SeqAt.pairEq xs ys) (fun j => ordD f (xs.getD j .none) (ys.getD j .none)) xs ys 0 e1
        rw [Array.length_toList] at n1 n2
        rw [n1, n2, e2] at key
        have e3 : ordD f (.tuple xs) (.tuple ys) = ordL f xs ys := by unfold ordD; rfl
        rw [e3]
        exact key
  | .none, _, _, _, _, _, _, _, _, _, ok, _, _, _ => by simp [okD] at ok
  | .bool _, _, _, _, _, _, _, _, _, _, ok, _, _, _ => by simp [okD] at ok
  | .str _, _, _, _, _, _, _, _, _, _, ok, _, _, _ => by simp [okD] at ok
  | .list _, _, _, _, _, _, _, _, _, _, ok, _, _, _ => by simp [okD] at ok
  | .dict _, _, _, _, _, _, _, _, _, _, ok, _, _, _ => by simp [okD] at ok
  | .int _, .none, _, _, _, _, _, _, _, _, ok, _, _, _ => by simp [okD] at ok
  | .int _, .bool _, _, _, _, _, _, _, _, _, ok, _, _, _ => by simp [okD] at ok
  | .int _, .str _, _, _, _, _, _, _, _, _, ok, _, _, _ => by simp [okD] at ok
  | .int _, .list _, _, _, _, _, _, _, _, _, ok, _, _, _ => by simp [okD] at ok
  | .int _, .tuple _, _, _, _, _, _, _, _, _, ok, _, _, _ => by simp [okD] at ok
  | .int _, .dict _, _, _, _, _, _, _, _, _, ok, _, _, _ => by simp [okD] at ok
  | .tuple _, .none, _, _, _, _, _, _, _, _, ok, _, _, _ => by simp [okD] at ok
  | .tuple _, .bool _, _, _, _, _, _, _, _, _, ok, _, _, _ => by simp [okD] at ok
  | .tuple _, .str _, _, _, _, _, _, _, _, _, ok, _, _, _ => by simp [okD] at ok
  | .tuple _, .list _, _, _, _, _, _, _, _, _, ok, _, _, _ => by simp [okD] at ok
  | .tuple _, .int _, _, _, _, _, _, _, _, _, ok, _, _, _ => by simp [okD] at ok
  | .tuple _, .dict _, _, _, _, _, _, _, _, _, ok, _, _, _ => by simp [okD] at ok
theorem rc_dataAll {op : CmpOp} {f : Int → Int → Bool} (F : OpF op f) : ∀ (xs ys : List PyData) (A : Around) (s : Shared) (vs ws : List Value) (as bs : List Addr), ReadsAll s.heap vs xs as → ReadsAll s.heap ws ys bs → okL xs ys = true → PyData.canLayAll0 xs = true → PyData.canLayAll0 ys = true →
    A.units + min (PyData.depthAll xs) (PyData.depthAll ys) < cLine → ∀ j (h1 : j < vs.length) (h2 : j < ws.length), Ob.RcOp op A s vs[j] ws[j] (ordD f (xs.getD j .none) (ys.getD j .none))
  | [], _, _, _, _, _, _, _, ra, _, _, _, _, _, j, h1, _ => by cases ra; exact absurd h1 (Nat.not_lt_zero _)
  | _ :: _, [], _, _, _, _, _, _, _, rb, _, _, _, _, j, _, h2 => by cases rb; exact absurd h2 (Nat.not_lt_zero _)
  | x :: xs, y :: ys, A, s, _, _, _, _, ra, rb, ok, ha, hb, hu, j, h1, h2 => by
    have ha' : x.canLay0 = true ∧ PyData.canLayAll0 xs = true := by simpa [PyData.canLayAll0] using ha
    have hb' : y.canLay0 = true ∧ PyData.canLayAll0 ys = true := by simpa [PyData.canLayAll0] using hb
    have ok' : okD x y = true ∧ okL xs ys = true := by simpa [okL] using ok
    cases ra with
    | cons r rs =>
      cases rb with
      | cons r' rs' =>
        cases j with
        | zero => exact rc_data F x y A s _ _ _ _ r r' ok'.1 ha'.1 hb'.1 (SeqAt.room_head hu)
        | succ j => exact rc_dataAll F xs ys A s _ _ _ _ rs rs' ok'.2 ha'.2 hb'.2 (SeqAt.room_tail hu) j (Nat.lt_of_succ_lt_succ h1) (Nat.lt_of_succ_lt_succ h2)
end
section
variable {X : Cx}
/-- x op y of data: ints, tuples of such -/
def rRel (f : Int → Int → Bool) : R2 := fun x y H Q => ∃ d e, Im H x d ∧ Im H y e ∧ okD d e = true ∧ SeqAt.shaped d = true ∧ SeqAt.shaped e = true ∧ Q (.bl (ordD f d e)) H
theorem op_rel {op : CmpOp} {f : Int → Int → Bool} (F : OpF op f) (hu : X.A.units + 64 < cLine) : OpR X (compareOp op) (rRel f) := by
  intro pins s σ H x y v u Q I rx ry h
  obtain ⟨d, e, hd, he, ok, sd, se, q⟩ := h
  obtain ⟨as, r1⟩ := Dp.reads I d x v (Im.dp d x hd) rx
  obtain ⟨bs, r2⟩ := Dp.reads I e y u (Im.dp e y he) ry
  have h1 := SeqAt.depth_of_shaped sd
  have key := rc_data F d e X.A s v u as bs r1 r2 ok (SeqAt.canLay_of_shaped sd) (SeqAt.canLay_of_shaped se) (by
    have : min d.depth e.depth ≤ d.depth := Nat.min_le_left _ _
    omega) X.prog X.w X.xe (EP X pins σ Q) ⟨.bl _, H, I, rfl, q⟩
  rw [F.rc]
  exact key
def gRel (f : Int → Int → Bool) : Val → Val → Option Val
  | .im d, .im e => if okD d e && SeqAt.shaped d && SeqAt.shaped e then some (.im (.bool (ordD f d e))) else none
  | _, _ => none
theorem rel_D {f : Int → Int → Bool} : OpD (rRel f) (gRel f) := fun u w x y z H Q hx hy e k => by
  unfold gRel at e
  split at e
  · obtain ⟨h1, h2⟩ := ifS e
    simp only [Bool.and_eq_true] at h1
    subst h2
    exact ⟨_, _, hx, hy, h1.1.1, h1.1.2, h1.2, k _ H (Same.refl H) (.bl _) trivial⟩
  · cases e
/-- x in t, x not in t, t a tuple of data -/
def rInI (neg : Bool) : R2 := fun x y H Q => ∃ d ds, Im H x d ∧ Im H y (.tuple ds) ∧ SeqAt.shaped d = true ∧ SeqAt.shaped (.tuple ds) = true ∧ Q (.bl (if neg then !(ds.any fun z => PyData.eqv z d) else ds.any fun z => PyData.eqv z d)) H
theorem room_shaped {A : Around} {d : PyData} {ds : List PyData} (h : SeqAt.shaped d = true) (hu : A.units + 66 < cLine) : A.units + 1 + min (PyData.depthAll ds) d.depth < cLine := by
  have h1 := SeqAt.depth_of_shaped h
  have h2 : min (PyData.depthAll ds) d.depth ≤ d.depth := Nat.min_le_right _ _
  omega
theorem op_inI (hu : X.A.units + 66 < cLine) : OpR X (compareOp .In) (rInI false) := by
  intro pins s σ H x y v u Q I rx ry h
  obtain ⟨d, ds, hd, he, sd, se, q⟩ := h
  obtain ⟨as, r1⟩ := Dp.reads I d x v (Im.dp d x hd) rx
  obtain ⟨bs, r2⟩ := Dp.reads I _ y u (Im.dp _ y he) ry
  exact SeqAt.in_tuple_reads r2 r1 (SeqAt.canLay_of_shaped se) (SeqAt.canLay_of_shaped sd) (room_shaped sd hu) ⟨.bl _, H, I, rfl, q⟩
theorem op_notInI (hu : X.A.units + 66 < cLine) : OpR X (compareOp .NotIn) (rInI true) := by
  intro pins s σ H x y v u Q I rx ry h
  obtain ⟨d, ds, hd, he, sd, se, q⟩ := h
  obtain ⟨as, r1⟩ := Dp.reads I d x v (Im.dp d x hd) rx
  obtain ⟨bs, r2⟩ := Dp.reads I _ y u (Im.dp _ y he) ry
  exact SeqAt.notIn_tuple_reads r2 r1 (SeqAt.canLay_of_shaped se) (SeqAt.canLay_of_shaped sd) (room_shaped sd hu) ⟨.bl _, H, I, rfl, q⟩
def gIn (neg : Bool) : Val → Val → Option Val
  | .im d, .im (.tuple ds) => if SeqAt.shaped d && SeqAt.shaped (.tuple ds) then some (.im (.bool (if neg then !(ds.any fun z => PyData.eqv z d) else ds.any fun z => PyData.eqv z d))) else none
  | _, _ => none
theorem in_D {neg : Bool} : OpD (rInI neg) (gIn neg) := fun u w x y z H Q hx hy e k => by
  unfold gIn at e
  split at e
  · obtain ⟨h1, h2⟩ := ifS e
    simp only [Bool.and_eq_true] at h1
    subst h2
    exact ⟨_, _, hx, hy, h1.1, h1.2, k _ H (Same.refl H) (.bl _) trivial⟩
  · cases e
/-! ### == and != -/
def toD : Val → PyData
  | .im d => d
  | .ls _ ds => .list ds
  | _ => .none
def isD : Val → Bool
  | .im _ => true
  | .ls _ _ => true
  | _ => false
theorem VOk.dp {K : PySem.W.Frag} {H : Hp} {u : V} {x : Val} (h : VOk H u x) (hd : isD x = true) : Dp K H u (toD x) := by
  cases x with
  | im d => exact Im.dp d u h
  | ls o ds =>
    obtain ⟨l, vs, e, h1, h2⟩ := h
    subst e
    exact .lst (SqL.of h1) (ImAll.dp ds vs h2)
  | dc kv => cases hd
  | pc b kv => cases hd
def gEq : Val → Val → Option Val := fun x y => if isD x && isD y && SeqAt.shaped (toD x) && SeqAt.shaped (toD y) then some (.im (.bool (PyData.eqv (toD x) (toD y)))) else none
def gNe : Val → Val → Option Val := fun x y => if isD x && isD y && SeqAt.shaped (toD x) && SeqAt.shaped (toD y) then some (.im (.bool (!PyData.eqv (toD x) (toD y)))) else none
theorem eq_D {K : PySem.W.Frag} : OpD (rEqD K) gEq := fun u w x y z H Q hx hy e k => by
  obtain ⟨h1, h2⟩ := ifS e
  simp only [Bool.and_eq_true] at h1
  subst h2
  exact ⟨_, _, hx.dp h1.1.1.1, hy.dp h1.1.1.2, h1.1.2, h1.2, k _ H (Same.refl H) (.bl _) trivial⟩
theorem ne_D {K : PySem.W.Frag} : OpD (rNeD K) gNe := fun u w x y z H Q hx hy e k => by
  obtain ⟨h1, h2⟩ := ifS e
  simp only [Bool.and_eq_true] at h1
  subst h2
  exact ⟨_, _, hx.dp h1.1.1.1, hy.dp h1.1.1.2, h1.1.2, h1.2, k _ H (Same.refl H) (.bl _) trivial⟩
end
end Ai
set_option Elab.async false
set_option linter.all false
set_option maxRecDepth 100000
set_option maxHeartbeats 2000000
/-! Ai, part D: arithmetic, subscripts, slices, len, isinstance, tuple, list; comprehensions. -/
namespace Ai
open PySem L2
theorem OpD.or {r r' : R2} {g g' : Val → Val → Option Val} (h : OpD r g) (h' : OpD r' g') : OpD (fun x y H Q => r x y H Q ∨ r' x y H Q) (fun x y => (g x y).or (g' x y)) := fun u w x y z H Q hx hy e k => by
  have e : (g x y).or (g' x y) = some z := e
  cases q : g x y with
  | some t =>
    rw [q] at e
    have e2 : t = z := Option.some.inj e
    subst e2
    exact .inl (h u w x y _ H Q hx hy q k)
  | none =>
    rw [q] at e
    exact .inr (h' u w x y z H Q hx hy e k)
/-! ### ints -/
def gI (C : Int → Int → Bool) (f : Int → Int → Int) : Val → Val → Option Val
  | .im (.int a), .im (.int b) => if C a b then some (.im (.int (f a b))) else none
  | _, _ => none
theorem I0_D {f : Int → Int → Int} : OpD (rI0 fun i j => .int (f i j)) (gI (fun _ _ => true) f) := fun u w x y z H Q hx hy e k => by
  unfold gI at e
  split at e
  · obtain ⟨_, e⟩ := ifS e
    subst e
    exact ⟨_, _, Im.intInv hx, Im.intInv hy, k _ H (Same.refl H) (.int _) trivial⟩
  · cases e
theorem I_D {C : Int → Int → Prop} {c : Int → Int → Bool} {f : Int → Int → Int} (hc : ∀ i j, c i j = true → C i j) : OpD (rI C fun i j => .int (f i j)) (gI c f) := fun u w x y z H Q hx hy e k => by
  unfold gI at e
  split at e
  · obtain ⟨h1, e⟩ := ifS e
    subst e
    exact ⟨_, _, Im.intInv hx, Im.intInv hy, hc _ _ h1, k _ H (Same.refl H) (.int _) trivial⟩
  · cases e
def cMul (i j : Int) : Bool := (decide (-(2 ^ 64) < i) && decide (i < 2 ^ 64)) || (decide (-(2 ^ 64) < j) && decide (j < 2 ^ 64))
theorem cMul_ok {i j : Int} (h : cMul i j = true) : CMul i j := by
  unfold cMul at h
  simp only [Bool.or_eq_true, Bool.and_eq_true, decide_eq_true_eq] at h
  exact h
def cDiv (_ j : Int) : Bool := decide (0 < j) && decide (j < 1073741824)
theorem cDiv_ok {i j : Int} (h : cDiv i j = true) : CDiv i j := by
  unfold cDiv at h
  simp only [Bool.and_eq_true, decide_eq_true_eq] at h
  exact h
def cMod (_ j : Int) : Bool := decide (0 < j)
/-! ### + of tuples, of lists -/
def gCatT : Val → Val → Option Val
  | .im (.tuple a), .im (.tuple b) => if lenOk (a.length + b.length) then some (.im (.tuple (a ++ b))) else none
  | _, _ => none
theorem catT_D {K : PySem.W.Frag} : OpD (rCatA K) gCatT := fun u w x y z H Q hx hy e k => by
  unfold gCatT at e
  split at e
  · obtain ⟨h1, e⟩ := ifS e
    subst e
    obtain ⟨p, xs, e1, hp, ip⟩ := Im.tupInv hx
    obtain ⟨q, ys, e2, hq, iq⟩ := Im.tupInv hy
    subst e1 e2
    refine ⟨p, q, xs, ys, rfl, rfl, SqT.of hp, SqT.of hq, by rw [ip.len, iq.len]; exact lenLe h1, fun e => ?_, fun _ e => ?_, fun _ _ t ht => ?_⟩
    · subst e
      cases ip
      exact k _ H (Same.refl H) (.tup hq iq) trivial
    · subst e
      cases iq
      refine k _ H (Same.refl H) ?_ trivial
      rw [List.append_nil]
      exact .tup hp ip
    · exact k _ _ (same_new ht) (.tup upd_same (ImAll.mono (tp (same_new ht)) _ _ (ip.app iq))) trivial
  · cases e
def gCatL : Val → Val → Option Val
  | .ls _ a, .ls _ b => if lenOk (a.length + b.length) then some (.ls true (a ++ b)) else none
  | _, _ => none
theorem catL_D : OpD rCat gCatL := fun u w x y z H Q hx hy e k => by
  unfold gCatL at e
  split at e
  · obtain ⟨h1, e⟩ := ifS e
    subst e
    obtain ⟨p, xs, e1, hp, ip⟩ := hx
    obtain ⟨q, ys, e2, hq, iq⟩ := hy
    subst e1 e2
    refine ⟨p, q, xs, ys, rfl, rfl, hp, hq, by rw [ip.len, iq.len]; exact lenLe h1, fun t ht => ?_⟩
    exact k _ _ (same_new ht) ⟨t, _, rfl, upd_same, ImAll.mono (tp (same_new ht)) _ _ (ip.app iq)⟩ fun l e => by cases e; exact ht
  · cases e
section
variable {X : Cx}
theorem d_add {a b : Expr} {fa fb : Xp} {pos : Pos} (ha : PE X a (tD fa)) (hb : PE X b (tD fb)) : PE X (.BinOp a .Add b pos) (tD (eBin (fun x y => (gI (fun _ _ => true) (· + ·) x y).or ((gCatT x y).or (gCatL x y))) fa fb)) :=
  d_op (OpR.or op_add (OpR.or op_catA op_cat)) (OpD.or I0_D (OpD.or catT_D catL_D)) ha hb
theorem d_sub {a b : Expr} {fa fb : Xp} {pos : Pos} (ha : PE X a (tD fa)) (hb : PE X b (tD fb)) : PE X (.BinOp a .Sub b pos) (tD (eBin (gI (fun _ _ => true) (· - ·)) fa fb)) := d_op op_sub I0_D ha hb
theorem d_mul {a b : Expr} {fa fb : Xp} {pos : Pos} (ha : PE X a (tD fa)) (hb : PE X b (tD fb)) : PE X (.BinOp a .Mult b pos) (tD (eBin (gI cMul (· * ·)) fa fb)) := d_op op_mul (I_D fun _ _ h => cMul_ok h) ha hb
theorem d_fdiv {a b : Expr} {fa fb : Xp} {pos : Pos} (ha : PE X a (tD fa)) (hb : PE X b (tD fb)) : PE X (.BinOp a .FloorDiv b pos) (tD (eBin (gI cDiv (· / ·)) fa fb)) := d_op op_fdiv (I_D fun _ _ h => cDiv_ok h) ha hb
theorem d_mod {a b : Expr} {fa fb : Xp} {pos : Pos} (ha : PE X a (tD fa)) (hb : PE X b (tD fb)) : PE X (.BinOp a .Mod b pos) (tD (eBin (gI cMod (· % ·)) fa fb)) := d_op op_mod (I_D fun _ _ h => of_decide_eq_true h) ha hb
def eNeg (a : Xp) : Xp := fun ρ => (a ρ).bind fun x => match x with
  | .im (.int i) => some (.im (.int (-i)))
  | _ => none
theorem d_neg {a : Expr} {fa : Xp} {pos : Pos} (ha : PE X a (tD fa)) : PE X (.UnaryOp .USub a pos) (tD (eNeg fa)) := (pe_un un_neg ha).wk fun σ H Q ⟨H0, ρ, z, E, e, k⟩ => by
  obtain ⟨x, ex, e⟩ := bindS e
  refine ⟨H0, ρ, x, E, ex, fun u H1 s1 v1 _ => ?_⟩
  split at e
  · cases e
    exact ⟨_, Im.intInv v1, k _ H1 s1 (.int _) trivial⟩
  · cases e
/-! ### comparisons -/
theorem d_eq {a b : Expr} {fa fb : Xp} {pos : Pos} (hu : X.A.units + 100 < cLine) (ha : PE X a (tD fa)) (hb : PE X b (tD fb)) : PE X (.Compare a [.Eq] [b] pos) (tD (eBin gEq fa fb)) := d_cmp (op_eqD (by omega)) eq_D ha hb (nomark _)
theorem d_ne {a b : Expr} {fa fb : Xp} {pos : Pos} (hu : X.A.units + 100 < cLine) (ha : PE X a (tD fa)) (hb : PE X b (tD fb)) : PE X (.Compare a [.NotEq] [b] pos) (tD (eBin gNe fa fb)) := d_cmp (op_neD (by omega)) ne_D ha hb (nomark _)
theorem t_eq {a b : Expr} {fa fb : Xp} {pos : Pos} (hu : X.A.units + 100 < cLine) (ha : PE X a (tD fa)) (hb : PE X b (tD fb)) : PT X (.Compare a [.Eq] [b] pos) (tT (eB (eBin gEq fa fb))) := t_cmp (op_eqD (by omega)) eq_D ha hb (nomark _)
theorem t_ne {a b : Expr} {fa fb : Xp} {pos : Pos} (hu : X.A.units + 100 < cLine) (ha : PE X a (tD fa)) (hb : PE X b (tD fb)) : PT X (.Compare a [.NotEq] [b] pos) (tT (eB (eBin gNe fa fb))) := t_cmp (op_neD (by omega)) ne_D ha hb (nomark _)
abbrev fLt : Int → Int → Bool := fun a b => decide (a < b)
abbrev fLe : Int → Int → Bool := fun a b => decide (a ≤ b)
abbrev fGt : Int → Int → Bool := fun a b => decide (b < a)
abbrev fGe : Int → Int → Bool := fun a b => decide (b ≤ a)
theorem d_lt {a b : Expr} {fa fb : Xp} {pos : Pos} (hu : X.A.units + 100 < cLine) (ha : PE X a (tD fa)) (hb : PE X b (tD fb)) : PE X (.Compare a [.Lt] [b] pos) (tD (eBin (gRel fLt) fa fb)) := d_cmp (op_rel opF_lt (by omega)) rel_D ha hb (nomark _)
theorem d_le {a b : Expr} {fa fb : Xp} {pos : Pos} (hu : X.A.units + 100 < cLine) (ha : PE X a (tD fa)) (hb : PE X b (tD fb)) : PE X (.Compare a [.LtE] [b] pos) (tD (eBin (gRel fLe) fa fb)) := d_cmp (op_rel opF_le (by omega)) rel_D ha hb (nomark _)
theorem d_gt {a b : Expr} {fa fb : Xp} {pos : Pos} (hu : X.A.units + 100 < cLine) (ha : PE X a (tD fa)) (hb : PE X b (tD fb)) : PE X (.Compare a [.Gt] [b] pos) (tD (eBin (gRel fGt) fa fb)) := d_cmp (op_rel opF_gt (by omega)) rel_D ha hb (nomark _)
theorem d_ge {a b : Expr} {fa fb : Xp} {pos : Pos} (hu : X.A.units + 100 < cLine) (ha : PE X a (tD fa)) (hb : PE X b (tD fb)) : PE X (.Compare a [.GtE] [b] pos) (tD (eBin (gRel fGe) fa fb)) := d_cmp (op_rel opF_ge (by omega)) rel_D ha hb (nomark _)
theorem t_lt {a b : Expr} {fa fb : Xp} {pos : Pos} (hu : X.A.units + 100 < cLine) (ha : PE X a (tD fa)) (hb : PE X b (tD fb)) : PT X (.Compare a [.Lt] [b] pos) (tT (eB (eBin (gRel fLt) fa fb))) := t_cmp (op_rel opF_lt (by omega)) rel_D ha hb (nomark _)
theorem t_le {a b : Expr} {fa fb : Xp} {pos : Pos} (hu : X.A.units + 100 < cLine) (ha : PE X a (tD fa)) (hb : PE X b (tD fb)) : PT X (.Compare a [.LtE] [b] pos) (tT (eB (eBin (gRel fLe) fa fb))) := t_cmp (op_rel opF_le (by omega)) rel_D ha hb (nomark _)
theorem t_gt {a b : Expr} {fa fb : Xp} {pos : Pos} (hu : X.A.units + 100 < cLine) (ha : PE X a (tD fa)) (hb : PE X b (tD fb)) : PT X (.Compare a [.Gt] [b] pos) (tT (eB (eBin (gRel fGt) fa fb))) := t_cmp (op_rel opF_gt (by omega)) rel_D ha hb (nomark _)
theorem t_ge {a b : Expr} {fa fb : Xp} {pos : Pos} (hu : X.A.units + 100 < cLine) (ha : PE X a (tD fa)) (hb : PE X b (tD fb)) : PT X (.Compare a [.GtE] [b] pos) (tT (eB (eBin (gRel fGe) fa fb))) := t_cmp (op_rel opF_ge (by omega)) rel_D ha hb (nomark _)
theorem d_in {a b : Expr} {fa fb : Xp} {pos : Pos} (hu : X.A.units + 100 < cLine) (ha : PE X a (tD fa)) (hb : PE X b (tD fb)) (hm : behindInMarks .In b = false) : PE X (.Compare a [.In] [b] pos) (tD (eBin (gIn false) fa fb)) := d_cmp (op_inI (by omega)) in_D ha hb hm
theorem d_notin {a b : Expr} {fa fb : Xp} {pos : Pos} (hu : X.A.units + 100 < cLine) (ha : PE X a (tD fa)) (hb : PE X b (tD fb)) (hm : behindInMarks .NotIn b = false) : PE X (.Compare a [.NotIn] [b] pos) (tD (eBin (gIn true) fa fb)) := d_cmp (op_notInI (by omega)) in_D ha hb hm
theorem t_in {a b : Expr} {fa fb : Xp} {pos : Pos} (hu : X.A.units + 100 < cLine) (ha : PE X a (tD fa)) (hb : PE X b (tD fb)) (hm : behindInMarks .In b = false) : PT X (.Compare a [.In] [b] pos) (tT (eB (eBin (gIn false) fa fb))) := t_cmp (op_inI (by omega)) in_D ha hb hm
theorem t_notin {a b : Expr} {fa fb : Xp} {pos : Pos} (hu : X.A.units + 100 < cLine) (ha : PE X a (tD fa)) (hb : PE X b (tD fb)) (hm : behindInMarks .NotIn b = false) : PT X (.Compare a [.NotIn] [b] pos) (tT (eB (eBin (gIn true) fa fb))) := t_cmp (op_notInI (by omega)) in_D ha hb hm
theorem d_lele {a b c : Expr} {fa fb fc : Xp} {pos : Pos} (hu : X.A.units + 100 < cLine) (ha : PE X a (tD fa)) (hb : PE X b (tD fb)) (hc : PE X c (tD fc)) (hm : lastMarks [CmpOp.LtE, CmpOp.LtE] [b, c] = false := by with_unfolding_all rfl) : PE X (.Compare a [.LtE, .LtE] [b, c] pos) (tD (eChain (gRel fLe) (gRel fLe) fa fb fc)) :=
  d_chain (op_rel opF_le (by omega)) rel_D (op_rel opF_le (by omega)) rel_D ha hb hc (pe_chain (op_rel opF_le (by omega)) (op_rel opF_le (by omega)) ha hb hc (hm := hm))
theorem t_lele {a b c : Expr} {fa fb fc : Xp} {pos : Pos} (hu : X.A.units + 100 < cLine) (ha : PE X a (tD fa)) (hb : PE X b (tD fb)) (hc : PE X c (tD fc)) (hm : lastMarks [CmpOp.LtE, CmpOp.LtE] [b, c] = false := by with_unfolding_all rfl) : PT X (.Compare a [.LtE, .LtE] [b, c] pos) (tT (eB (eChain (gRel fLe) (gRel fLe) fa fb fc))) :=
  t_chain (op_rel opF_le (by omega)) rel_D (op_rel opF_le (by omega)) rel_D ha hb hc (pt_chain (op_rel opF_le (by omega)) (op_rel opF_le (by omega)) ha hb hc (hm := hm))
/-- x is None; b is not True -/
def eIsNone (neg : Bool) (a : Xp) : Xp := fun ρ => (a ρ).bind fun x => match x with
  | .im .none => some (.im (.bool (!neg)))
  | .im (.bool _) => some (.im (.bool neg))
  | .im (.int _) => some (.im (.bool neg))
  | .im (.tuple _) => some (.im (.bool neg))
  | _ => none
theorem tC_V {v : V} {σ : L2.St} {H : Hp} {Q : VK} (h : Q v H) : tC v σ H Q := h
theorem t_isnotN {a : Expr} {fa : Xp} {j : Nat} {p pos : Pos} (ha : PE X a (tD fa)) : PT X (.Compare a [.IsNot] [.Constant .none j p] pos) (tT (eB (eIsNone true fa))) := (pt_cmpR op_notN ha pe_non (nomark _)).wk fun σ H Q h => by
  obtain ⟨H0, ρ, b, E, e, k⟩ := h
  obtain ⟨x, ex, e⟩ := bindS (eB_some e)
  refine ⟨H0, ρ, x, E, ex, fun u H1 s1 v1 _ => ⟨rfl, _, rfl, ?_⟩⟩
  split at e
  · cases e
    cases (Im.noneInv v1)
    exact k H1 s1
  · cases e
    cases (Im.boolInv v1)
    exact k H1 s1
  · cases e
    cases (Im.intInv v1)
    exact k H1 s1
  · cases e
    obtain ⟨a, xs, e1, _⟩ := Im.tupInv v1
    subst e1
    exact k H1 s1
  · cases e
theorem t_isN {a : Expr} {fa : Xp} {j : Nat} {p pos : Pos} (ha : PE X a (tD fa)) : PT X (.Compare a [.Is] [.Constant .none j p] pos) (tT (eB (eIsNone false fa))) := (pt_cmpR op_isN ha pe_non (nomark _)).wk fun σ H Q h => by
  obtain ⟨H0, ρ, b, E, e, k⟩ := h
  obtain ⟨x, ex, e⟩ := bindS (eB_some e)
  refine ⟨H0, ρ, x, E, ex, fun u H1 s1 v1 _ => ⟨rfl, _, rfl, ?_⟩⟩
  split at e
  · cases e
    cases (Im.noneInv v1)
    exact k H1 s1
  · cases e
    cases (Im.boolInv v1)
    exact k H1 s1
  · cases e
    cases (Im.intInv v1)
    exact k H1 s1
  · cases e
    obtain ⟨a, xs, e1, _⟩ := Im.tupInv v1
    subst e1
    exact k H1 s1
  · cases e
/-- of bools alone -/
def gIsB (neg : Bool) : Val → Val → Option Val
  | .im (.bool a), .im (.bool b) => some (.im (.bool (if neg then !decide (a = b) else decide (a = b))))
  | _, _ => none
theorem isB_D : OpD (fun x y H Q => ∃ a b, x = .bl a ∧ y = .bl b ∧ Q (.bl (decide (a = b))) H) (gIsB false) := fun u w x y z H Q hx hy e k => by
  unfold gIsB at e
  split at e
  · cases e
    exact ⟨_, _, Im.boolInv hx, Im.boolInv hy, k _ H (Same.refl H) (.bl _) trivial⟩
  · cases e
theorem isnotB_D : OpD (fun x y H Q => ∃ a b, x = .bl a ∧ y = .bl b ∧ Q (.bl (!decide (a = b))) H) (gIsB true) := fun u w x y z H Q hx hy e k => by
  unfold gIsB at e
  split at e
  · cases e
    exact ⟨_, _, Im.boolInv hx, Im.boolInv hy, k _ H (Same.refl H) (.bl _) trivial⟩
  · cases e
theorem d_isB {a b : Expr} {fa fb : Xp} {pos : Pos} (ha : PE X a (tD fa)) (hb : PE X b (tD fb)) : PE X (.Compare a [.Is] [b] pos) (tD (eBin (gIsB false) fa fb)) := d_cmp op_is_bl isB_D ha hb (nomark _)
theorem t_isnotB {a b : Expr} {fa fb : Xp} {pos : Pos} (ha : PE X a (tD fa)) (hb : PE X b (tD fb)) : PT X (.Compare a [.IsNot] [b] pos) (tT (eB (eBin (gIsB true) fa fb))) := t_cmp op_isnot_bl isnotB_D ha hb (nomark _)
/-! ### subscripts -/
def gIx : Val → Val → Option Val
  | .im (.tuple ds), .im (.int i) => (atI ds i).map .im
  | .ls _ ds, .im (.int i) => (atI ds i).map .im
  | _, _ => none
theorem atI_im {H : Hp} {vs : List V} {ds : List PyData} {i : Int} {d : PyData} (h : ImAll H vs ds) (e : atI ds i = some d) : ∃ v, atI vs i = some v ∧ Im H v d := by
  unfold atI at e ⊢
  rw [h.len]
  obtain ⟨j, h1, h2⟩ := bindS e
  rw [h1]
  obtain ⟨v, h3, h4⟩ := h.get h2
  exact ⟨v, h3, h4⟩
theorem mapS {α β : Type} {o : Option α} {f : α → β} {z : β} (h : o.map f = some z) : ∃ a, o = some a ∧ f a = z := by
  cases o with
  | none => cases h
  | some a => exact ⟨a, rfl, Option.some.inj h⟩
theorem ix_D {K : PySem.W.Frag} : OpD (fun x y H Q => rIxT K x y H Q ∨ rIxL K x y H Q) gIx := fun u w x y z H Q hx hy e k => by
  unfold gIx at e
  split at e
  · obtain ⟨d, e1, e2⟩ := mapS e
    subst e2
    obtain ⟨p, xs, e3, hp, ip⟩ := Im.tupInv hx
    subst e3
    obtain ⟨v, h1, h2⟩ := atI_im ip e1
    exact .inl ⟨p, xs, _, v, rfl, Im.intInv hy, SqT.of hp, h1, k v H (Same.refl H) h2 trivial⟩
  · obtain ⟨d, e1, e2⟩ := mapS e
    subst e2
    obtain ⟨p, xs, e3, hp, ip⟩ := hx
    subst e3
    obtain ⟨v, h1, h2⟩ := atI_im ip e1
    exact .inr ⟨p, xs, _, v, rfl, Im.intInv hy, SqL.of hp, h1, k v H (Same.refl H) h2 trivial⟩
  · cases e
theorem d_ix {a b : Expr} {fa fb : Xp} {pos : Pos} (ha : PE X a (tD fa)) (hb : PE X b (tD fb)) (hs : PlainIx b := by exact fun _ _ => rfl) : PE X (.Subscript a b pos) (tD (eBin gIx fa fb)) := (pe_ix (IxR.or ix_tup ix_list) ha hb hs).wk (tOp_D ix_D fa fb)
/-- t[1:] -/
def eTail (a : Xp) : Xp := fun ρ => (a ρ).bind fun x => match x with
  | .im (.tuple ds) => some (.im (.tuple (ds.drop 1)))
  | _ => none
theorem d_tail {a : Expr} {fa : Xp} {j : Nat} {p1 p2 pos : Pos} (ha : PE X a (tD fa)) : PE X (.Subscript a (.Slice (some (.Constant (.int 1) j p1)) none none p2) pos) (tD (eTail fa)) := (pe_slice sl_tupA ha (po_some pe_int) po_none).wk fun σ H Q ⟨H0, ρ, z, E, e, k⟩ => by
  obtain ⟨x, ex, e⟩ := bindS e
  refine ⟨H0, ρ, x, E, ex, fun u H1 s1 v1 _ => ?_⟩
  split at e
  · cases e
    obtain ⟨t, xs, e3, hp, ip⟩ := Im.tupInv v1
    subst e3
    have e1 : HT.sIx xs.length 0 (some (1 : Int)) = min 1 xs.length := HT.sIx_nat xs.length 0 1
    have e2 : HT.sIx xs.length xs.length (none : Option Int) = xs.length := rfl
    have e4 : cutV xs (some 1) none = xs.drop 1 := by
      unfold cutV
      rw [e1, e2]
      cases xs with
      | nil => rfl
      | cons v vs =>
        have : min 1 (v :: vs).length = 1 := by simp only [List.length_cons]; omega
        rw [this]
        apply List.take_of_length_le
        simp
    refine ⟨1, rfl, t, xs, rfl, SqT.of hp, fun e => ?_, fun _ q hq => ?_⟩
    · rw [e1] at e
      have : xs = [] := by
        cases xs with
        | nil => rfl
        | cons v vs => exact absurd e.1 (by simp only [List.length_cons]; omega)
      subst this
      cases ip
      exact k _ H1 s1 (.tup hp .nil) trivial
    · rw [e4]
      exact k _ _ (s1.trans (same_new hq)) (.tup upd_same (ImAll.mono (tp (same_new hq)) _ _ (ip.dropn 1))) trivial
  · cases e
/-! ### len, tuple, list, int -/
def gLen : List Val → Option Val
  | [.im (.tuple ds)] => some (.im (.int ds.length))
  | [.ls _ ds] => some (.im (.int ds.length))
  | _ => none
theorem vs1 {H : Hp} {us : List V} {x : Val} (h : VsOk H us [x]) : ∃ u, us = [u] ∧ VOk H u x := by
  cases h with
  | cons a t => cases t; exact ⟨_, rfl, a⟩
theorem vs2 {H : Hp} {us : List V} {x y : Val} (h : VsOk H us [x, y]) : ∃ u w, us = [u, w] ∧ VOk H u x ∧ VOk H w y := by
  cases h with
  | cons a t =>
    cases t with
    | cons b t => cases t; exact ⟨_, _, rfl, a, b⟩
theorem len_D : CallD (fun xs H Q => ∃ p ys, xs = [.ref p] ∧ (SqL X.K H p ys ∨ SqT X.K H p ys) ∧ Q (.int ys.length) H) gLen := fun us xs z H Q h e k => by
  unfold gLen at e
  split at e
  · cases e
    obtain ⟨u, e1, v1⟩ := vs1 h
    obtain ⟨p, ys, e3, hp, ip⟩ := Im.tupInv v1
    subst e3 e1
    refine ⟨p, ys, rfl, .inr (SqT.of hp), ?_⟩
    rw [ip.len]
    exact k _ H (Same.refl H) (.int _) trivial
  · cases e
    obtain ⟨u, e1, v1⟩ := vs1 h
    obtain ⟨p, ys, e3, hp, ip⟩ := v1
    subst e3 e1
    refine ⟨p, ys, rfl, .inl (SqL.of hp), ?_⟩
    rw [ip.len]
    exact k _ H (Same.refl H) (.int _) trivial
  · cases e
def gTuple : List Val → Option Val
  | [.im (.tuple ds)] => some (.im (.tuple ds))
  | [.ls _ ds] => some (.im (.tuple ds))
  | _ => none
theorem tuple_D : CallD (fun xs H Q => ∃ p ys, xs = [.ref p] ∧ ((SqL X.K H p ys ∧ ∀ l, H l = none → Q (.ref l) (upd H l (.tup ys))) ∨ (SqT X.K H p ys ∧ Q (.ref p) H))) gTuple := fun us xs z H Q h e k => by
  unfold gTuple at e
  split at e
  · cases e
    obtain ⟨u, e1, v1⟩ := vs1 h
    obtain ⟨p, ys, e3, hp, ip⟩ := Im.tupInv v1
    subst e3 e1
    exact ⟨p, ys, rfl, .inr ⟨SqT.of hp, k _ H (Same.refl H) (.tup hp ip) trivial⟩⟩
  · cases e
    obtain ⟨u, e1, v1⟩ := vs1 h
    obtain ⟨p, ys, e3, hp, ip⟩ := v1
    subst e3 e1
    exact ⟨p, ys, rfl, .inl ⟨SqL.of hp, fun l hl => k _ _ (same_new hl) (.tup upd_same (ImAll.mono (tp (same_new hl)) _ _ ip)) trivial⟩⟩
  · cases e
def gList : List Val → Option Val
  | [.im (.tuple ds)] => some (.ls true ds)
  | [.ls _ ds] => some (.ls true ds)
  | _ => none
theorem list_D : CallD (fun xs H Q => ∃ p ys, xs = [.ref p] ∧ (SqL X.K H p ys ∨ SqT X.K H p ys) ∧ ∀ l, H l = none → Q (.ref l) (upd H l (.lst ys))) gList := fun us xs z H Q h e k => by
  unfold gList at e
  split at e
  · cases e
    obtain ⟨u, e1, v1⟩ := vs1 h
    obtain ⟨p, ys, e3, hp, ip⟩ := Im.tupInv v1
    subst e3 e1
    exact ⟨p, ys, rfl, .inr (SqT.of hp), fun l hl => k _ _ (same_new hl) ⟨l, ys, rfl, upd_same, ImAll.mono (tp (same_new hl)) _ _ ip⟩ fun q e => by cases e; exact hl⟩
  · cases e
    obtain ⟨u, e1, v1⟩ := vs1 h
    obtain ⟨p, ys, e3, hp, ip⟩ := v1
    subst e3 e1
    exact ⟨p, ys, rfl, .inl (SqL.of hp), fun l hl => k _ _ (same_new hl) ⟨l, ys, rfl, upd_same, ImAll.mono (tp (same_new hl)) _ _ ip⟩ fun q e => by cases e; exact hl⟩
  · cases e
def gInt : List Val → Option Val
  | [.im (.int i)] => some (.im (.int i))
  | _ => none
theorem int_D : CallD (fun xs H Q => (∃ i, xs = [.int i] ∧ Q (.int i) H) ∨ ∃ k, xs = [.bl k] ∧ Q (.int (if k then 1 else 0)) H) gInt := fun us xs z H Q h e k => by
  unfold gInt at e
  split at e
  · cases e
    obtain ⟨u, e1, v1⟩ := vs1 h
    subst e1
    cases (Im.intInv v1)
    exact .inl ⟨_, rfl, k _ H (Same.refl H) (.int _) trivial⟩
  · cases e
theorem d_len {a : Expr} {fa : Tas} {p pos : Pos} (hg : Gl X "len") (hm : X.mg "len" = none) (ha : PA X [a] (tA fa)) (he : starEach [a] X.env = (false, eval a X.env) :: starEach [] X.env := by rfl) : PE X (.Call (.Name "len" p) [a] [] pos) (tD (eCall gLen fa)) := d_callB (pe_callB call_len_seq hg hm PySem.boot_len ha (he := he)) (len_D (X := X))
theorem d_tupleOf {a : Expr} {fa : Tas} {p pos : Pos} (hg : Gl X "tuple") (hm : X.mg "tuple" = none) (ha : PA X [a] (tA fa)) (he : starEach [a] X.env = (false, eval a X.env) :: starEach [] X.env := by rfl) : PE X (.Call (.Name "tuple" p) [a] [] pos) (tD (eCall gTuple fa)) := d_callB (pe_callTy call_tuple_of hg hm (by decide +kernel) ha (he := he)) (tuple_D (X := X))
theorem d_listOf {a : Expr} {fa : Tas} {p pos : Pos} (hg : Gl X "list") (hm : X.mg "list" = none) (ha : PA X [a] (tA fa)) (he : starEach [a] X.env = (false, eval a X.env) :: starEach [] X.env := by rfl) : PE X (.Call (.Name "list" p) [a] [] pos) (tD (eCall gList fa)) := d_callB (pe_callTy call_list_of hg hm (by decide +kernel) ha (he := he)) (list_D (X := X))
theorem d_intOf {a : Expr} {fa : Tas} {p pos : Pos} (hg : Gl X "int") (hm : X.mg "int" = none) (ha : PA X [a] (tA fa)) (he : starEach [a] X.env = (false, eval a X.env) :: starEach [] X.env := by rfl) : PE X (.Call (.Name "int" p) [a] [] pos) (tD (eCall gInt fa)) := d_callB (pe_callTy call_int1 hg hm (by decide +kernel) ha (he := he)) int_D
/-! ### isinstance -/
def isiD : String → PyData → Option Bool
  | "int", .int _ => some true
  | "bool", .int _ => some false
  | "tuple", .tuple _ => some true
  | "str", .str _ => some true
  | _, _ => none
def eIsi (T : String) (a : Xp) : Xp := fun ρ => (a ρ).bind fun x => match x with
  | .im d => (isiD T d).map fun b => .im (.bool b)
  | _ => none
theorem d_isi {T : String} {a e : Expr} {fa : Xp} (h : PE X e (tCB (rIsi X.K) (tCons (tD fa) (tCons (tC (.ty T)) tNil)))) : PE X e (tD (eIsi T fa)) := h.wk fun σ H Q ⟨H0, ρ, z, E, e, k⟩ => by
  obtain ⟨x, ex, e⟩ := bindS e
  refine ⟨H0, ρ, x, E, ex, fun u H1 s1 v1 _ => ?_⟩
  split at e
  · rename_i d
    obtain ⟨b, eb, e⟩ := mapS e
    subst e
    refine ⟨u, .ty T, ?_⟩
    unfold isiD at eb
    split at eb
    · cases eb
      cases (Im.intInv v1)
      exact ⟨_, _, _, rfl, .ty _, .base (.int _), kit_ty (by decide +kernel), k _ H1 s1 (.bl _) trivial⟩
    · cases eb
      cases (Im.intInv v1)
      exact ⟨_, _, _, rfl, .ty _, .base (.int _), kit_ty (by decide +kernel), k _ H1 s1 (.bl _) trivial⟩
    · cases eb
      obtain ⟨t, xs, e3, hp, ip⟩ := Im.tupInv v1
      subst e3
      exact ⟨_, _, _, rfl, .ty _, .base (.tup hp), kit_ty (by decide +kernel), k _ H1 s1 (.bl _) trivial⟩
    · cases eb
      cases (Im.strInv v1)
      exact ⟨_, _, _, rfl, .ty _, .base (.str _), kit_ty (by decide +kernel), k _ H1 s1 (.bl _) trivial⟩
    · cases eb
  · cases e
end
end Ai
set_option Elab.async false
set_option linter.all false
set_option maxRecDepth 100000
set_option maxHeartbeats 2000000
/-! Ai, part E: targets, what is walked, comprehensions. -/
namespace Ai
open PySem L2
/-! ### targets -/
def tG (vs : List Nat) (b : En → PyData → Option En) : TG := fun v σ H Q => ∃ H0 ρ d ρ', Same H0 H ∧ EnOk H0 H σ ρ ∧ Im H v d ∧ b ρ d = some ρ' ∧ ∀ σ', EnOk H0 H σ' ρ' → σ'.length = σ.length → (∀ j : Nat, j ∉ vs → σ'[j]? = σ[j]?) → Q σ' H
def bName (i : Nat) : En → PyData → Option En := fun ρ d => some (ρ.set i (some (.im d)))
def bPair (i j : Nat) : En → PyData → Option En := fun ρ d => match d with
  | .tuple [a, b] => some ((ρ.set i (some (.im a))).set j (some (.im b)))
  | _ => none
theorem EnOk.setIm {H0 H : Hp} {σ : L2.St} {ρ : En} {i : Nat} {u : V} {d : PyData} (E : EnOk H0 H σ ρ) (s0 : Same H0 H) (h : Im H u d) : EnOk H0 H (σ.set i (some u)) (ρ.set i (some (.im d))) :=
  E.set s0 (Same.refl H) h trivial fun ds e => by cases e
section
variable {X : Cx}
theorem g_name {e : Expr} {i : Nat} (h : PG X e (gName i)) : PG X e (tG [i] (bName i)) := h.wk fun v σ H Q ⟨H0, ρ, d, ρ', s0, E, hv, e, k⟩ => by
  cases e
  refine k _ (E.setIm s0 hv) (List.length_set ..) fun j hj => ?_
  rw [List.getElem?_set_ne (fun z => hj (by simp [z]))]
theorem g_pair {e : Expr} {i j : Nat} (h : PG X e (gTup X.K 2 (gCons (gName i) (gCons (gName j) gNil)))) : PG X e (tG [i, j] (bPair i j)) := h.wk fun v σ H Q ⟨H0, ρ, d, ρ', s0, E, hv, e, k⟩ => by
  unfold bPair at e
  split at e
  · cases e
    obtain ⟨a, xs, e1, ha, im⟩ := Im.tupInv hv
    subst e1
    cases im with
    | cons h1 t =>
      cases t with
      | cons h2 t =>
        cases t
        refine ⟨a, _, rfl, SqT.of ha, rfl, _, _, rfl, _, _, rfl, rfl, ?_⟩
        refine k _ ((E.setIm s0 h1).setIm s0 h2) (by rw [List.length_set, List.length_set]) fun m hm => ?_
        rw [List.getElem?_set_ne (fun z => hm (by simp [z])), List.getElem?_set_ne (fun z => hm (by simp [z]))]
  · cases e
end
/-! ### what is walked -/
structure ItD (J : It) (A B : Hp) (ds : List PyData) : Prop where
  go : ∀ (i : Nat) (H : Hp), i < ds.length → Same A H → Tp B H → J.go i H ∧ ∀ x H', J.yld i H x H' → Same H H' ∧ ∃ d, ds[i]? = some d ∧ Im H' x d
  stop : ∀ H : Hp, Same A H → Tp B H → J.stop ds.length H
abbrev Src := En → Option (List PyData)
/-- walked by a for: nothing of it is held by a slot -/
def tI (f : Src) : TI := fun σ H R => ∃ H0 ρ ds, EnOk H0 H σ ρ ∧ f ρ = some ds ∧ ∀ J A H1, Same H H1 → ItD J A H1 ds → (∀ a o, A a = some o → H1 a = some o ∧ H a = none) → R J H1
/-- walked in a comprehension -/
def tIc (f : Src) : TI := fun σ H R => ∃ H0 ρ ds, EnOk H0 H σ ρ ∧ f ρ = some ds ∧ ∀ J A H1, Same H H1 → ItD J A H1 ds → (∀ a o, A a = some o → H1 a = some o) → R J H1
/-- slot i's list, walked by a for -/
def tIv (i : Nat) (f : Src) : TI := fun σ H R => ∃ H0 ρ ds, EnOk H0 H σ ρ ∧ f ρ = some ds ∧ ∀ J A H1, Same H H1 → ItD J A H1 ds → (∀ a o, A a = some o → H1 a = some o ∧ σ[i]? = some (some (.ref a)) ∧ ∃ es, ρ[i]? = some (some (.ls false es))) → R J H1
def srcT (f : Xp) : Src := fun ρ => match f ρ with
  | some (.im (.tuple ds)) => some ds
  | _ => none
def srcN (f : Xp) : Src := fun ρ => match f ρ with
  | some (.ls true ds) => some ds
  | _ => none
def srcL (f : Xp) : Src := fun ρ => match f ρ with
  | some (.ls _ ds) => some ds
  | _ => none
def srcV (i : Nat) : Src := fun ρ => match ρ[i]? with
  | some (some (.ls false ds)) => some ds
  | _ => none
def nH : Hp := fun _ => none
theorem same_nH (H : Hp) : Same nH H := fun _ _ e => by cases e
theorem itd_tup {K : PySem.W.Frag} {a : Addr} {xs : List V} {ds : List PyData} {B : Hp} (ha : B a = some (.tup xs)) (im : ImAll B xs ds) : ItD (Itt K a) nH B ds where
  go := fun i H hi _ t => by
    have h1 := t a xs ha
    obtain ⟨d, hd⟩ : ∃ d, ds[i]? = some d := ⟨_, List.getElem?_eq_getElem hi⟩
    obtain ⟨v, hv, iv⟩ := im.get hd
    refine ⟨⟨xs, v, SqT.of h1, hv⟩, fun x H' y => ?_⟩
    obtain ⟨e, y⟩ := y
    subst e
    have hx := y xs (SqT.of h1)
    rw [hv] at hx
    cases hx
    exact ⟨Same.refl _, d, hd, Im.mono t d _ iv⟩
  stop := fun H _ t => ⟨xs, SqT.of (t a xs ha), by rw [im.len]; exact Nat.le_refl _⟩
theorem itd_lst {K : PySem.W.Frag} {a : Addr} {xs : List V} {ds : List PyData} {B : Hp} (im : ImAll B xs ds) : ItD (Itl K a) (upd nH a (.lst xs)) B ds where
  go := fun i H hi s t => by
    have h1 := s a _ upd_same
    obtain ⟨d, hd⟩ : ∃ d, ds[i]? = some d := ⟨_, List.getElem?_eq_getElem hi⟩
    obtain ⟨v, hv, iv⟩ := im.get hd
    refine ⟨⟨xs, v, SqL.of h1, hv⟩, fun x H' y => ?_⟩
    obtain ⟨e, y⟩ := y
    subst e
    have hx := y xs (SqL.of h1)
    rw [hv] at hx
    cases hx
    exact ⟨Same.refl _, d, hd, Im.mono t d _ iv⟩
  stop := fun H s t => ⟨xs, SqL.of (s a _ upd_same), by rw [im.len]; exact Nat.le_refl _⟩
theorem upd_nH {a b : Addr} {o u : HO} (h : upd nH a o b = some u) : b = a ∧ u = o := by
  by_cases e : b = a
  · subst e
    rw [upd_same] at h
    cases h
    exact ⟨rfl, rfl⟩
  · rw [upd_ne e] at h
    cases h
section
variable {X : Cx} {tg : Expr}
theorem i_tup {e : Expr} {f : Xp} (h : PE X e (tD f)) : PI X tg e (tI (srcT f)) := (pi_tup (tg := tg) h).wk fun σ H R ⟨H0, ρ, ds, E, e, k⟩ => by
  unfold srcT at e
  split at e
  · rename_i hf
    cases e
    refine ⟨H0, ρ, _, E, hf, fun u H1 s1 v1 _ => ?_⟩
    obtain ⟨a, xs, e1, ha, im⟩ := Im.tupInv v1
    exact ⟨a, e1, ⟨xs, SqT.of ha⟩, k _ nH H1 s1 (itd_tup ha im) fun _ _ z => by cases z⟩
  · cases e
theorem i_new {e : Expr} {f : Xp} (h : PE X e (tD f)) : PI X tg e (tI (srcN f)) := (pi_list (tg := tg) h).wk fun σ H R ⟨H0, ρ, ds, E, e, k⟩ => by
  unfold srcN at e
  split at e
  · rename_i hf
    cases e
    refine ⟨H0, ρ, _, E, hf, fun u H1 s1 v1 f1 => ?_⟩
    obtain ⟨a, xs, e1, ha, im⟩ := v1
    refine ⟨a, e1, ⟨xs, SqL.of ha⟩, k _ _ H1 s1 (itd_lst im) fun b o z => ?_⟩
    obtain ⟨eb, eo⟩ := upd_nH z
    subst eb eo
    exact ⟨ha, f1 _ e1⟩
  · cases e
theorem i_lstC {e : Expr} {f : Xp} (h : PE X e (tD f)) : PI X tg e (tIc (srcL f)) := (pi_list (tg := tg) h).wk fun σ H R ⟨H0, ρ, ds, E, e, k⟩ => by
  unfold srcL at e
  split at e
  · rename_i hf
    cases e
    refine ⟨H0, ρ, _, E, hf, fun u H1 s1 v1 f1 => ?_⟩
    obtain ⟨a, xs, e1, ha, im⟩ := v1
    refine ⟨a, e1, ⟨xs, SqL.of ha⟩, k _ _ H1 s1 (itd_lst im) fun b o z => ?_⟩
    obtain ⟨eb, eo⟩ := upd_nH z
    subst eb eo
    exact ha
  · cases e
theorem i_var (i : Nat) {x : Str} {pos : Pos} (h : PE X (.Name x pos) (tVar i)) : PI X tg (.Name x pos) (tIv i (srcV i)) := (pi_list (tg := tg) h).wk fun σ H R ⟨H0, ρ, ds, E, e, k⟩ => by
  unfold srcV at e
  split at e
  · rename_i hf
    cases e
    obtain ⟨u, hu, a, xs, e1, ha, im⟩ := E.ok i _ hf
    refine ⟨u, hu, a, e1, ⟨xs, SqL.of ha⟩, k _ _ H (Same.refl H) (itd_lst im) fun b o z => ?_⟩
    obtain ⟨eb, eo⟩ := upd_nH z
    subst eb eo
    exact ⟨ha, by rw [hu, e1], _, hf⟩
  · cases e
theorem i_c {e : Expr} {f : Src} (h : PI X tg e (tI f)) : PI X tg e (tIc f) := h.wk fun σ H R ⟨H0, ρ, ds, E, e, k⟩ => ⟨H0, ρ, ds, E, e, fun J A H1 s1 it a => k J A H1 s1 it fun b o z => (a b o z).1⟩
/-- range(n), range(a, b), range(a, b, -1) -/
def intsD (lo c : Int) (n : Nat) : List PyData := (List.range n).map fun i => .int (lo + (i : Nat) * c)
theorem ints_get (lo c : Int) (n i : Nat) (h : i < n) : (intsD lo c n)[i]? = some (.int (lo + (i : Nat) * c)) := by
  unfold intsD
  rw [List.getElem?_map, List.getElem?_range h]
  rfl
theorem ints_len (lo c : Int) (n : Nat) : (intsD lo c n).length = n := by
  unfold intsD
  rw [List.length_map, List.length_range]
theorem itd_rng {lo : Int} {n : Nat} {B : Hp} : ItD (Itr lo n) nH B (intsD lo 1 n) where
  go := fun i H hi _ t => by
    rw [ints_len] at hi
    refine ⟨hi, fun x H' y => ?_⟩
    obtain ⟨e, y⟩ := y
    subst e y
    refine ⟨Same.refl _, _, ints_get lo 1 n i hi, ?_⟩
    rw [Int.mul_one]
    exact .int _
  stop := fun H _ t => by
    rw [ints_len]
    exact Nat.le_refl _
theorem itd_rngC {lo c : Int} {n : Nat} {B : Hp} : ItD (Itc lo c n) nH B (intsD lo c n) where
  go := fun i H hi _ t => by
    rw [ints_len] at hi
    refine ⟨hi, fun x H' y => ?_⟩
    obtain ⟨e, y⟩ := y
    subst e y
    exact ⟨Same.refl _, _, ints_get lo c n i hi, .int _⟩
  stop := fun H _ t => by
    rw [ints_len]
    exact Nat.le_refl _
def small (i : Int) : Bool := decide (-(2 ^ 62) ≤ i) && decide (i < 2 ^ 62)
theorem small_ok {i : Int} (h : small i = true) : -(2 ^ 62) ≤ i ∧ i < 2 ^ 62 := by
  unfold small at h
  simp only [Bool.and_eq_true, decide_eq_true_eq] at h
  exact h
def srcR (a : Tas) : Src := fun ρ => match a ρ with
  | some [.im (.int j)] => if small j then some (intsD 0 1 j.toNat) else none
  | some [.im (.int i), .im (.int j)] => if small i && small j then some (intsD i 1 (j - i).toNat) else none
  | some [.im (.int i), .im (.int j), .im (.int c)] => if small i && small j && decide (c = -1) then some (intsD i (-1) (i - j).toNat) else none
  | _ => none
theorem i_rng1 {e : Expr} {a : Tas} (h : PI X tg e (iRng1 (tA a))) : PI X tg e (tI (fun ρ => match a ρ with
    | some [.im (.int j)] => if small j then some (intsD 0 1 j.toNat) else none
    | _ => none)) := h.wk fun σ H R ⟨H0, ρ, ds, E, e, k⟩ => by
  dsimp only at e
  split at e
  · rename_i hf
    obtain ⟨h1, e⟩ := ifS e
    subst e
    refine ⟨H0, ρ, _, E, hf, fun us H1 s1 v1 => ?_⟩
    obtain ⟨u, eu, vu⟩ := vs1 v1
    cases (Im.intInv vu)
    exact ⟨_, eu, (small_ok h1).1, (small_ok h1).2, k _ nH H1 s1 itd_rng fun _ _ z => by cases z⟩
  · cases e
theorem i_rng2 {e : Expr} {a : Tas} (h : PI X tg e (iRng2 (tA a))) : PI X tg e (tI (fun ρ => match a ρ with
    | some [.im (.int i), .im (.int j)] => if small i && small j then some (intsD i 1 (j - i).toNat) else none
    | _ => none)) := h.wk fun σ H R ⟨H0, ρ, ds, E, e, k⟩ => by
  dsimp only at e
  split at e
  · rename_i hf
    obtain ⟨h1, e⟩ := ifS e
    subst e
    simp only [Bool.and_eq_true] at h1
    refine ⟨H0, ρ, _, E, hf, fun us H1 s1 v1 => ?_⟩
    obtain ⟨u, w, eu, vu, vw⟩ := vs2 v1
    cases (Im.intInv vu)
    cases (Im.intInv vw)
    exact ⟨_, _, eu, ⟨(small_ok h1.1).1, (small_ok h1.1).2, (small_ok h1.2).1, (small_ok h1.2).2⟩, k _ nH H1 s1 itd_rng fun _ _ z => by cases z⟩
  · cases e
theorem i_rngD {e : Expr} {a : Tas} (h : PI X tg e (iRng3 (tA a))) : PI X tg e (tI (fun ρ => match a ρ with
    | some [.im (.int i), .im (.int j), .im (.int (-1))] => if small i && small j then some (intsD i (-1) (i - j).toNat) else none
    | _ => none)) := h.wk fun σ H R ⟨H0, ρ, ds, E, e, k⟩ => by
  dsimp only at e
  split at e
  · rename_i hf
    obtain ⟨h1, e⟩ := ifS e
    subst e
    simp only [Bool.and_eq_true] at h1
    refine ⟨H0, ρ, _, E, hf, fun us H1 s1 v1 => ?_⟩
    cases v1 with
    | cons a1 t1 =>
      cases t1 with
      | cons a2 t2 =>
        cases t2 with
        | cons a3 t3 =>
          cases t3
          cases (Im.intInv a1)
          cases (Im.intInv a2)
          cases (Im.intInv a3)
          exact ⟨_, _, _, _, rfl, RgC.neg (small_ok h1.1).1 (small_ok h1.1).2 (small_ok h1.2).1 (small_ok h1.2).2, k _ nH H1 s1 itd_rngC fun _ _ z => by cases z⟩
  · cases e
/-- zip of two tuples -/
def pairs : List PyData → List PyData → List PyData
  | x :: xs, y :: ys => .tuple [x, y] :: pairs xs ys
  | _, _ => []
theorem pairs_len : ∀ xs ys : List PyData, (pairs xs ys).length = min xs.length ys.length
  | [], _ => by simp [pairs]
  | _ :: _, [] => by simp [pairs]
  | x :: xs, y :: ys => by
    simp only [pairs, List.length_cons, pairs_len xs ys]
    omega
theorem pairs_get : ∀ (xs ys : List PyData) (i : Nat) (x y : PyData), xs[i]? = some x → ys[i]? = some y → (pairs xs ys)[i]? = some (.tuple [x, y])
  | [], _, _, _, _, h, _ => by simp at h
  | _ :: _, [], _, _, _, _, h => by simp at h
  | a :: xs, b :: ys, 0, x, y, h1, h2 => by
    simp at h1 h2
    subst h1 h2
    rfl
  | a :: xs, b :: ys, i + 1, x, y, h1, h2 => by
    have := pairs_get xs ys i x y (by simpa using h1) (by simpa using h2)
    simpa [pairs] using this
theorem itd_zip {K : PySem.W.Frag} {a b : Addr} {xs ys : List V} {ds es : List PyData} {B : Hp} (ha : B a = some (.tup xs)) (hb : B b = some (.tup ys)) (im : ImAll B xs ds) (im2 : ImAll B ys es) : ItD (RZ.ItzT K a b) nH B (pairs ds es) where
  go := fun i H hi _ t => by
    rw [pairs_len] at hi
    have h1 := t a xs ha
    have h2 := t b ys hb
    obtain ⟨d, hd⟩ : ∃ d, ds[i]? = some d := ⟨_, List.getElem?_eq_getElem (by omega)⟩
    obtain ⟨e, he⟩ : ∃ d, es[i]? = some d := ⟨_, List.getElem?_eq_getElem (by omega)⟩
    obtain ⟨v, hv, iv⟩ := im.get hd
    obtain ⟨w, hw, iw⟩ := im2.get he
    refine ⟨⟨xs, ys, v, w, SqT.of h1, SqT.of h2, hv, hw⟩, fun x H' y => ?_⟩
    obtain ⟨T, x1, x2, e1, hT, e2, y1, y2⟩ := y
    subst e1 e2
    have hx := y1 xs (SqT.of h1)
    have hy := y2 ys (SqT.of h2)
    rw [hv] at hx
    rw [hw] at hy
    cases hx
    cases hy
    have s := same_new (o := .tup [v, w]) hT
    exact ⟨s, _, pairs_get ds es i d e hd he, .tup upd_same (.cons (Im.mono (t.trans (tp s)) _ _ iv) (.cons (Im.mono (t.trans (tp s)) _ _ iw) .nil))⟩
  stop := fun H _ t => by
    refine ⟨xs, ys, SqT.of (t a xs ha), SqT.of (t b ys hb), ?_⟩
    rw [pairs_len, im.len, im2.len]
    omega
def srcZ (a : Tas) : Src := fun ρ => match a ρ with
  | some [.im (.tuple ds), .im (.tuple es)] => some (pairs ds es)
  | _ => none
theorem i_zip {e : Expr} {a : Tas} (h : PI X tg e (RZ.iZipA X.K (tA a))) : PI X tg e (tI (srcZ a)) := h.wk fun σ H R ⟨H0, ρ, ds, E, e, k⟩ => by
  unfold srcZ at e
  split at e
  · rename_i hf
    cases e
    refine ⟨H0, ρ, _, E, hf, fun us H1 s1 v1 => ?_⟩
    obtain ⟨u, w, eu, vu, vw⟩ := vs2 v1
    obtain ⟨p, xs, e1, hp, im⟩ := Im.tupInv vu
    obtain ⟨q, ys, e2, hq, im2⟩ := Im.tupInv vw
    subst e1 e2
    exact ⟨p, q, xs, ys, eu, .inr ⟨SqT.of hp, SqT.of hq, k _ nH H1 s1 (itd_zip hp hq im im2) fun _ _ z => by cases z⟩⟩
  · cases e
end
/-! ### list comprehensions -/
def mapO {α β : Type} (g : α → Option β) : List α → Option (List β)
  | [] => some []
  | a :: l => (g a).bind fun b => (mapO g l).map (b :: ·)
theorem mapO_some {α β : Type} {g : α → Option β} : ∀ {l : List α} {r : List β}, mapO g l = some r → r.length = l.length ∧ ∀ (i : Nat) (a : α), l[i]? = some a → ∃ b, r[i]? = some b ∧ g a = some b
  | [], _, h => by
    cases h
    exact ⟨rfl, fun i a e => by simp at e⟩
  | a :: l, _, h => by
    obtain ⟨b, hb, h⟩ := bindS h
    obtain ⟨r, hr, h⟩ := mapS h
    subst h
    obtain ⟨h1, h2⟩ := mapO_some hr
    refine ⟨by simp [h1], fun i x e => ?_⟩
    cases i with
    | zero =>
      simp at e
      subst e
      exact ⟨b, rfl, hb⟩
    | succ i =>
      obtain ⟨c, h3, h4⟩ := h2 i x (by simpa using e)
      exact ⟨c, by simpa using h3, h4⟩
/-- one turn: the item kept, or nothing -/
def turnC (vs : List Nat) (b : En → PyData → Option En) (t : Te) (el : Xp) (ρ : En) (d : PyData) : Option (Option PyData) :=
  (b (wipeE ρ vs) d).bind fun ρ' => (t ρ').bind fun c => match c with
    | true => (el ρ').bind fun x => match x with
      | .im y => some (some y)
      | _ => none
    | false => some none
def eComp (src : Src) (vs : List Nat) (b : En → PyData → Option En) (t : Te) (el : Xp) : Xp := fun ρ => (src ρ).bind fun ds => (mapO (turnC vs b t el ρ) ds).bind fun os => if lenOk os.length then some (.ls true (os.filterMap id)) else none
def tTrue : Te := fun _ => some true
theorem set_nn {σ : L2.St} {i : Nat} : (σ.set i none).set i none = σ.set i none := List.set_set ..
theorem wipe_at {σ : L2.St} : ∀ (vs : List Nat) (j : Nat), (wipe σ vs)[j]? = if j ∈ vs then (if j < σ.length then some none else none) else σ[j]?
  | [], j => by simp [wipe]
  | v :: vs, j => by
    unfold wipe
    by_cases h : v = j
    · subst h
      by_cases hl : v < σ.length
      · rw [List.getElem?_set_self (by rw [wipe_length]; exact hl), if_pos (by simp), if_pos hl]
      · rw [List.getElem?_eq_none (by rw [List.length_set, wipe_length]; omega), if_pos (by simp), if_neg hl]
    · rw [List.getElem?_set_ne h, wipe_at vs j]
      by_cases hj : j ∈ vs
      · rw [if_pos hj, if_pos (show j ∈ v :: vs from List.mem_cons_of_mem _ hj)]
      · rw [if_neg hj, if_neg (show ¬ j ∈ v :: vs from fun z => by
          rcases List.mem_cons.mp z with z | z
          · exact h z.symm
          · exact hj z)]
theorem wipe_eq {σ σ' : L2.St} {vs : List Nat} (hl : σ'.length = (wipe σ vs).length) (h : ∀ j : Nat, j ∉ vs → σ'[j]? = (wipe σ vs)[j]?) : wipe σ' vs = wipe σ vs := by
  apply List.ext_getElem?
  intro j
  rw [wipe_at vs j, wipe_at vs j]
  rw [wipe_length] at hl
  by_cases hj : j ∈ vs
  · rw [if_pos hj, if_pos hj, hl]
  · rw [if_neg hj, if_neg hj, h j hj, wipe_at vs j, if_neg hj]
theorem fm_snoc {os : List (Option PyData)} {i : Nat} {o : Option PyData} (h : os[i]? = some o) : (os.take (i + 1)).filterMap id = (os.take i).filterMap id ++ o.toList := by
  rw [List.take_add_one, h, List.filterMap_append]
  cases o <;> rfl
theorem comp_D {wi : TI} {g : TG} {tt : TT} {te : TE} {src : Src} {vs : List Nat} {b : En → PyData → Option En} {t : Te} {el : Xp} {σ : L2.St} {H : Hp} {Q : VK}
    (hwi : ∀ σ H R, tIc src σ H R → wi σ H R) (hg : ∀ v σ H Q, tG vs b v σ H Q → g v σ H Q) (ht : ∀ σ H Q, tT t σ H Q → tt σ H Q) (hte : ∀ σ H Q, tD el σ H Q → te σ H Q)
    (h : tD (eComp src vs b t el) σ H Q) : tLc wi g tt te vs σ H Q := by
  obtain ⟨H0, ρ, z, E, e, k⟩ := h
  obtain ⟨ds, eds, e⟩ := bindS e
  obtain ⟨os, eos, e⟩ := bindS e
  obtain ⟨hl, e⟩ := ifS e
  subst e
  obtain ⟨len, at_⟩ := mapO_some eos
  refine hwi _ _ _ ⟨H0, ρ, ds, E, eds, fun J A H1 s1 it a1 D hD => ?_⟩
  have hA : ∀ a o, A a = some o → a ≠ D := fun a o z => ne_of_none (a1 a o z) hD
  refine ⟨fun i m H' => m = ds.length - i ∧ i ≤ ds.length ∧ Same H1 H' ∧ H1 D = none ∧ ∃ vs', H' D = some (.lst vs') ∧ ImAll H' vs' ((os.take i).filterMap id), ⟨ds.length, by simp, Nat.zero_le _, same_new hD, hD, [], upd_same, .nil⟩, ?_⟩
  rintro i m H' ⟨rfl, hi, s2, _, vs', hD', im'⟩
  have sA : Same A H' := fun a o z => s2 a o (a1 a o z)
  by_cases hlt : i < ds.length
  · obtain ⟨hgo, hy⟩ := it.go i H' hlt sA (tp s2)
    refine .inr ⟨hgo, fun H2 => i + 1 ≤ ds.length ∧ Same H1 H2 ∧ H1 D = none ∧ ∃ vs', H2 D = some (.lst vs') ∧ ImAll H2 vs' ((os.take (i + 1)).filterMap id), fun H2 n => ⟨ds.length - (i + 1), by omega, rfl, n⟩, fun x H'' y => ?_⟩
    obtain ⟨s3, d, hd, imx⟩ := hy x H'' y
    obtain ⟨o, ho, et⟩ := at_ i d hd
    obtain ⟨ρ', eb, et⟩ := bindS et
    obtain ⟨c, ec, et⟩ := bindS et
    have s13 : Same H1 H'' := s2.trans s3
    have sH : Same H H'' := s1.trans s13
    refine hg _ _ _ _ ⟨nH, wipeE ρ vs, d, ρ', same_nH _, ((E.mono sH).wipe vs).weak (same_nH _), imx, eb, fun σ' E' hl' hj' => ?_⟩
    refine ⟨wipe_eq hl' hj', ht _ _ _ ⟨nH, ρ', c, E', ec, fun H3 s4 => ?_⟩⟩
    have hD3 : H3 D = some (.lst vs') := s4 _ _ (s3 _ _ hD')
    cases c with
    | true =>
      refine iteT ?_
      dsimp only at et
      obtain ⟨xv, exv, et⟩ := bindS et
      refine hte _ _ _ ⟨nH, ρ', xv, E'.mono s4, exv, fun u H4 s5 v5 _ => ?_⟩
      split at et
      · rename_i y'
        cases et
        have hD4 : H4 D = some (.lst vs') := s5 _ _ hD3
        have tm : Tp H4 (upd H4 D (.lst (vs' ++ [u]))) := tp_mut hD4 fun _ z => by cases z
        refine ⟨vs', hD4, ?_, by omega, same_mut (((s13).trans s4).trans s5) hD, hD, _, upd_same, ?_⟩
        · rw [im'.len]
          have h1 : ((os.take i).filterMap id).length ≤ (os.take i).length := List.length_filterMap_le ..
          have h2 : (os.take i).length ≤ i := by rw [List.length_take]; omega
          have h3 : os.length ≤ 1000000 := of_decide_eq_true hl
          rw [sizeLine_eq]
          omega
        · rw [fm_snoc ho]
          exact ImAll.app (ImAll.mono ((tp ((s3.trans s4).trans s5)).trans tm) _ _ im') (ImAll.one (Im.mono tm _ _ v5))
      · cases et
    | false =>
      refine iteF ?_
      cases et
      refine ⟨by omega, s13.trans s4, hD, vs', hD3, ?_⟩
      rw [fm_snoc ho]
      show ImAll H3 vs' (_ ++ [])
      rw [List.append_nil]
      exact ImAll.mono (tp (s3.trans s4)) _ _ im'
  · have ei : i = ds.length := by omega
    subst ei
    refine .inl ⟨it.stop H' sA (tp s2), k _ H' (s1.trans s2) ⟨D, vs', rfl, hD', ?_⟩ fun l e => ?_⟩
    · rw [← len, List.take_length] at im'
      exact im'
    · cases e
      exact s1.free hD
section
variable {X : Cx}
theorem d_comp {elt tg iter : Expr} {ifs : List Expr} {scope : Scope} {own : List (Str × Nat)} {pos : Pos} {src : Src} {b : En → PyData → Option En} {t : Te} {el : Xp} (hc : X.calm = true) (hN : X.N.Nodup) (hi : PI X tg iter (tIc src)) (ok : BlkOk X.N X.env.scope scope own)
    (hg : ∀ (s : Shared) (H : Hp) (C : Addr) (cl : List (Str × Addr)) (fp : List Addr), PG (X.blk s H scope (compEnvC scope cl C X.env) fp) tg (tG (own.map (·.2)) b)) (ht : ∀ (s : Shared) (H : Hp) (C : Addr) (cl : List (Str × Addr)) (fp : List Addr), PTs (X.blk s H scope (compEnvC scope cl C X.env) fp) ifs (tT t))
    (he : ∀ (s : Shared) (H : Hp) (C : Addr) (cl : List (Str × Addr)) (fp : List Addr), PE (X.blk s H scope (compEnvC scope cl C X.env) fp) elt (tD el)) (hs : ∀ x, foldedSetIterable iter X.env x = pure x := by intro _; rfl) :
    PE X (.ListComp elt [⟨tg, iter, ifs, 0⟩] scope pos) (tD (eComp src (own.map (·.2)) b t el)) :=
  (pe_lc hc hN hi ok hg ht he hs).wk fun σ H Q h => comp_D (fun _ _ _ h => h) (fun _ _ _ _ h => h) (fun _ _ _ h => h) (fun _ _ _ h => h) h
theorem pts_nilD : PTs X [] (tT tTrue) := ⟨fun pins s σ H Q I ⟨H0, ρ, z, E, e, k⟩ => by
  cases e
  exact pts_nil.run pins s σ H Q I (k H (Same.refl H))⟩
theorem pts_oneD {c : Expr} {t : Te} (h : PT X c (tT t)) : PTs X [c] (tT t) := pts_one h
end
end Ai
set_option Elab.async false
set_option linter.all false
set_option maxRecDepth 100000
set_option maxHeartbeats 2000000
/-! Ai, part F: statements, loops, defs. -/
namespace Ai
open PySem L2
theorem OOk.weak {H0 H0' : Hp} {D : Ends} {o : Out} (s : Same H0 H0') (h : OOk H0 D o) : OOk H0' D o := by
  cases o with
  | nx ρ => exact fun σ H s1 E => h σ H (s.trans s1) (E.weak s)
  | bk ρ => exact fun σ H s1 E => h σ H (s.trans s1) (E.weak s)
  | ct ρ => exact fun σ H s1 E => h σ H (s.trans s1) (E.weak s)
  | rt x => exact fun u H s1 v f => h u H (s.trans s1) v (f.back s)
def sSeq (s t : Bk) : Bk := fun ρ => (s ρ).bind fun o => match o with
  | .nx ρ' => t ρ'
  | o => some o
def sNext : Bk := fun ρ => some (.nx ρ)
def sNever : Bk := fun _ => none
def sRet (f : Xp) : Bk := fun ρ => (f ρ).map .rt
def sAsg (i : Nat) (f : Xp) : Bk := fun ρ => (f ρ).bind fun x => match x with
  | .im d => some (.nx (ρ.set i (some (.im d))))
  | .ls true ds => some (.nx (ρ.set i (some (.ls true ds))))
  | _ => none
def sPair (i j : Nat) (f : Xp) : Bk := fun ρ => (f ρ).bind fun x => match x with
  | .im d => (bPair i j ρ d).map .nx
  | _ => none
def sIf (t : Te) (a b : Bk) : Bk := fun ρ => (t ρ).bind fun c => match c with
  | true => a ρ
  | false => b ρ
def sDrop (f : Xp) : Bk := fun ρ => (f ρ).map fun _ => .nx ρ
def sApp (i : Nat) (f : Xp) : Bk := fun ρ => (f ρ).bind fun x => match x, ρ[i]? with
  | .im d, some (some (.ls true ds)) => if lenOk ds.length then some (.nx (ρ.set i (some (.ls true (ds ++ [d]))))) else none
  | _, _ => none
def sExt (i : Nat) (f : Xp) : Bk := fun ρ => (f ρ).bind fun x => match x, ρ[i]? with
  | .ls _ es, some (some (.ls true ds)) => if lenOk (ds.length + es.length) then some (.nx (ρ.set i (some (.ls true (ds ++ es))))) else none
  | _, _ => none
def sPop (i j k : Nat) : Bk := fun ρ => match ρ[i]? with
  | some (some (.ls true ds)) => (ds[ds.length - 1]?).bind fun d => (bPair j k (ρ.set i (some (.ls true ds.dropLast))) d).map .nx
  | _ => none
def forL (b : En → PyData → Option En) (body : Bk) : List PyData → Bk
  | [] => fun ρ => some (.nx ρ)
  | d :: ds => fun ρ => (b ρ d).bind fun ρ1 => (body ρ1).bind fun o => match o with
    | .nx ρ2 => forL b body ds ρ2
    | .ct ρ2 => forL b body ds ρ2
    | .bk ρ2 => some (.nx ρ2)
    | .rt x => some (.rt x)
def sFor (src : Src) (b : En → PyData → Option En) (body : Bk) : Bk := fun ρ => (src ρ).bind fun ds => forL b body ds ρ
def sForV (i : Nat) (b : En → PyData → Option En) (body : Bk) : Bk := fun ρ => (srcV i (frz i ρ)).bind fun ds => forL b body ds (frz i ρ)
def whF (t : Te) (body : Bk) : Nat → Bk
  | 0 => fun _ => none
  | n + 1 => fun ρ => (t ρ).bind fun c => match c with
    | false => some (.nx ρ)
    | true => (body ρ).bind fun o => match o with
      | .nx ρ2 => whF t body n ρ2
      | .ct ρ2 => whF t body n ρ2
      | .bk ρ2 => some (.nx ρ2)
      | .rt x => some (.rt x)
section
variable {X : Cx}
theorem s_nil : PSs X [] (tS sNext) := pss_nil.wk fun D σ H ⟨H0, ρ, o, s0, E, e, k⟩ => by
  cases e
  exact k σ H s0 E
theorem s_cons {st : Stmt} {rest : List Stmt} {s t : Bk} (h : PS X st (tS s)) (r : PSs X rest (tS t)) : PSs X (st :: rest) (tS (sSeq s t)) := (pss_cons h r).wk fun D σ H ⟨H0, ρ, o, s0, E, e, k⟩ => by
  obtain ⟨o1, e1, e⟩ := bindS e
  refine ⟨H0, ρ, o1, s0, E, e1, ?_⟩
  cases o1 with
  | nx ρ1 => exact fun σ1 H1 s1 E1 => ⟨H0, ρ1, o, s1, E1, e, k⟩
  | rt x => cases e; exact k
  | bk ρ1 => cases e; exact k
  | ct ρ1 => cases e; exact k
theorem s_one {st : Stmt} {s : Bk} (h : PS X st (tS s)) : PSs X [st] (tS s) := pss_one h
theorem s_never {st : Stmt} : PS X st (tS sNever) := (ps_never (st := st)).wk fun D σ H ⟨H0, ρ, o, s0, E, e, k⟩ => by cases e
theorem ss_never {sts : List Stmt} : PSs X sts (tS sNever) := (pss_never (sts := sts)).wk fun D σ H ⟨H0, ρ, o, s0, E, e, k⟩ => by cases e
theorem s_pass {pos : Pos} : PS X (.Pass pos) (tS sNext) := ps_pass.wk fun D σ H ⟨H0, ρ, o, s0, E, e, k⟩ => by
  cases e
  exact k σ H s0 E
theorem s_ret {e : Expr} {f : Xp} {pos : Pos} (h : PE X e (tD f)) : PS X (.Return (some e) pos) (tS (sRet f)) := (ps_ret h).wk fun D σ H ⟨H0, ρ, o, s0, E, e, k⟩ => by
  obtain ⟨x, ex, e⟩ := mapS e
  subst e
  exact ⟨H0, ρ, x, E, ex, fun u H1 s1 v1 f1 => k u H1 (s0.trans s1) v1 (f1.back s0)⟩
theorem asg_D {f : Xp} {i : Nat} {D : Ends} {σ : L2.St} {H : Hp} (h : tS (sAsg i f) D σ H) : tAsg (tD f) (gName i) D σ H := by
  obtain ⟨H0, ρ, o, s0, E, e, k⟩ := h
  obtain ⟨x, ex, e⟩ := bindS e
  refine ⟨H0, ρ, x, E, ex, fun u H1 s1 v1 f1 => ?_⟩
  split at e
  · cases e
    exact k _ H1 (s0.trans s1) (E.set s0 s1 v1 f1 fun ds z => by cases z)
  · cases e
    exact k _ H1 (s0.trans s1) (E.set s0 s1 v1 f1 fun ds z => by cases z)
  · cases e
theorem s_asg {st : Stmt} {f : Xp} {i : Nat} (h : PS X st (tAsg (tD f) (gName i))) : PS X st (tS (sAsg i f)) := h.wk fun _ _ _ => asg_D
theorem s_pair {st : Stmt} {f : Xp} {i j : Nat} (h : PS X st (tAsg (tD f) (gTup X.K 2 (gCons (gName i) (gCons (gName j) gNil))))) : PS X st (tS (sPair i j f)) := h.wk fun D σ H ⟨H0, ρ, o, s0, E, e, k⟩ => by
  obtain ⟨x, ex, e⟩ := bindS e
  refine ⟨H0, ρ, x, E, ex, fun u H1 s1 v1 f1 => ?_⟩
  split at e
  · rename_i d
    obtain ⟨ρ1, e1, e⟩ := mapS e
    subst e
    unfold bPair at e1
    split at e1
    · cases e1
      obtain ⟨a, xs, e2, ha, im⟩ := Im.tupInv v1
      subst e2
      cases im with
      | cons h1 t =>
        cases t with
        | cons h2 t =>
          cases t
          refine ⟨a, _, rfl, SqT.of ha, rfl, _, _, rfl, _, _, rfl, rfl, ?_⟩
          have s01 := s0.trans s1
          exact k _ H1 s01 (((E.mono s1).setIm s01 h1).setIm s01 h2)
    · cases e1
  · cases e
theorem s_if {c : Expr} {a b : List Stmt} {t : Te} {sa sb : Bk} {pos : Pos} (hc : PT X c (tT t)) (ha : PSs X a (tS sa)) (hb : PSs X b (tS sb)) : PS X (.If c a b pos) (tS (sIf t sa sb)) := (ps_if hc ha hb).wk fun D σ H ⟨H0, ρ, o, s0, E, e, k⟩ => by
  obtain ⟨x, ex, e⟩ := bindS e
  refine ⟨H0, ρ, x, E, ex, fun H1 s1 => ?_⟩
  cases x with
  | true =>
    refine iteT ?_
    exact ⟨H0, ρ, o, s0.trans s1, E.mono s1, e, k⟩
  | false =>
    refine iteF ?_
    exact ⟨H0, ρ, o, s0.trans s1, E.mono s1, e, k⟩
theorem s_drop {e : Expr} {f : Xp} {pos : Pos} (h : PE X e (tD f)) (hs : swapsWith e none pos.line X.env = pure false := by rfl) : PS X (.Expr e pos) (tS (sDrop f)) := (ps_expr h hs).wk fun D σ H ⟨H0, ρ, o, s0, E, e, k⟩ => by
  obtain ⟨x, ex, e⟩ := mapS e
  subst e
  exact ⟨H0, ρ, x, E, ex, fun u H1 s1 v1 f1 => k σ H1 (s0.trans s1) (E.mono s1)⟩
/-- slot i's own list has changed -/
theorem EnOk.own_set {H0 H : Hp} {σ : L2.St} {ρ : En} {i : Nat} {l : Addr} {vs ws : List V} {ds es : List PyData} (E : EnOk H0 H σ ρ) (hi : ρ[i]? = some (some (.ls true ds))) (hs : σ[i]? = some (some (.ref l))) (hl : H l = some (.lst vs)) (im : ImAll (upd H l (.lst ws)) ws es) :
    EnOk H0 (upd H l (.lst ws)) σ (ρ.set i (some (.ls true es))) := by
  have tm : Tp H (upd H l (.lst ws)) := tp_mut hl fun _ z => by cases z
  have hlen : i < ρ.length := by
    rcases Nat.lt_or_ge i ρ.length with h' | h'
    · exact h'
    · rw [List.getElem?_eq_none h'] at hi; cases hi
  have key : ∀ (j : Nat) (y : Val), (ρ.set i (some (.ls true es)))[j]? = some (some y) → (i = j ∧ y = .ls true es) ∨ (i ≠ j ∧ ρ[j]? = some (some y)) := fun j y e => by
    by_cases hj : i = j
    · subst hj
      rw [List.getElem?_set_self hlen] at e
      exact .inl ⟨rfl, (Option.some.inj (Option.some.inj e)).symm⟩
    · rw [List.getElem?_set_ne hj] at e
      exact .inr ⟨hj, e⟩
  refine ⟨by rw [List.length_set]; exact E.len, fun j y e => ?_, fun j d' a e1 e2 => ?_, fun j k d' b e' a e1 e2 ne e3 => ?_⟩
  · rcases key j y e with ⟨hj, hy⟩ | ⟨hj, hy⟩
    · subst hj hy
      exact ⟨_, hs, l, ws, rfl, upd_same, im⟩
    · obtain ⟨u, h1, h2⟩ := E.ok j y hy
      refine ⟨u, h1, ?_⟩
      cases y with
      | im d => exact Im.mono tm d u h2
      | ls o d' =>
        obtain ⟨a, xs, e1, ha, ia⟩ := h2
        subst e1
        have hne : a ≠ l := fun z => by
          subst z
          exact E.sep i j ds o d' a hi hy hj hs h1
        exact ⟨a, xs, rfl, by rw [upd_ne hne]; exact ha, ImAll.mono tm _ _ ia⟩
      | dc kv =>
        obtain ⟨a, e1, od, kvs, ha, hk⟩ := h2
        exact ⟨a, e1, od, kvs, by rw [upd_ne (fun z => by rw [z, hl] at ha; cases ha)]; exact ha, hk.mono tm⟩
      | pc c kv =>
        obtain ⟨a, b, e1, ht, od, kvs, ha, hk⟩ := h2
        exact ⟨a, b, e1, tm _ _ ht, od, kvs, by rw [upd_ne (fun z => by rw [z, hl] at ha; cases ha)]; exact ha, hk.mono tm⟩
  · rcases key j _ e1 with ⟨hj, hy⟩ | ⟨hj, hy⟩
    · subst hj
      exact E.own i ds a hi e2
    · exact E.own j d' a hy e2
  · rcases key j _ e1 with ⟨hj, hy⟩ | ⟨hj, hy⟩
    · subst hj
      rcases key k _ e2 with ⟨hk, hz⟩ | ⟨hk, hz⟩
      · exact absurd hk ne
      · exact E.sep i k ds b e' a hi hz ne e3
    · rcases key k _ e2 with ⟨hk, hz⟩ | ⟨hk, hz⟩
      · subst hk
        exact E.sep j i d' true ds a hy hi ne e3
      · exact E.sep j k d' b e' a hy hz ne e3
theorem s_app {st : Stmt} {f : Xp} {i : Nat} (h : PS X st (tDrop (tBM X.K "list" rAppend (tVar i) (tCons (tD f) tNil)))) : PS X st (tS (sApp i f)) := h.wk fun D σ H ⟨H0, ρ, o, s0, E, e, k⟩ => by
  obtain ⟨x, ex, e⟩ := bindS e
  split at e
  · rename_i d ds hi
    obtain ⟨hl, e⟩ := ifS e
    subst e
    obtain ⟨u, hu, l, vs, e1, hlv, im⟩ := E.ok i _ hi
    subst e1
    refine ⟨_, hu, .inl ⟨rfl, vs, SqL.of hlv⟩, ?_⟩
    refine ⟨H0, ρ, _, E, ex, fun u' H1 s1 v1 _ => ?_⟩
    have hl1 : H1 l = some (.lst vs) := s1 _ _ hlv
    have tm : Tp H1 (upd H1 l (.lst (vs ++ [u']))) := tp_mut hl1 fun _ z => by cases z
    refine ⟨l, vs, u', rfl, rfl, hl1, ?_, ?_⟩
    · have : vs.length ≤ 1000000 := by rw [im.len]; exact of_decide_eq_true hl
      rw [sizeLine_eq]
      omega
    · exact k _ _ (same_mut (s0.trans s1) (E.own i ds l hi hu)) ((E.mono s1).own_set hi hu hl1 (ImAll.mono tm _ _ ((ImAll.mono (tp s1) _ _ im).app (ImAll.one v1))))
  · cases e
theorem s_ext {st : Stmt} {f : Xp} {i : Nat} (h : PS X st (tDrop (tBM X.K "list" rExtend (tVar i) (tCons (tD f) tNil)))) : PS X st (tS (sExt i f)) := h.wk fun D σ H ⟨H0, ρ, o, s0, E, e, k⟩ => by
  obtain ⟨x, ex, e⟩ := bindS e
  split at e
  · rename_i b es ds hi
    obtain ⟨hl, e⟩ := ifS e
    subst e
    obtain ⟨u, hu, l, vs, e1, hlv, im⟩ := E.ok i _ hi
    subst e1
    refine ⟨_, hu, .inl ⟨rfl, vs, SqL.of hlv⟩, ?_⟩
    refine ⟨H0, ρ, _, E, ex, fun u' H1 s1 v1 _ => ?_⟩
    obtain ⟨l2, ws, e2, hw, im2⟩ := v1
    subst e2
    have hl1 : H1 l = some (.lst vs) := s1 _ _ hlv
    have tm : Tp H1 (upd H1 l (.lst (vs ++ ws))) := tp_mut hl1 fun _ z => by cases z
    refine ⟨l, l2, vs, ws, rfl, rfl, hl1, hw, ?_, ?_⟩
    · rw [im.len, im2.len]
      exact lenLe hl
    · exact k _ _ (same_mut (s0.trans s1) (E.own i ds l hi hu)) ((E.mono s1).own_set hi hu hl1 (ImAll.mono tm _ _ ((ImAll.mono (tp s1) _ _ im).app im2)))
  · cases e
theorem ImAll.dropLast {H : Hp} {vs : List V} {ds : List PyData} (h : ImAll H vs ds) : ImAll H vs.dropLast ds.dropLast := by
  rw [List.dropLast_eq_take, List.dropLast_eq_take, h.len]
  exact h.taken _
theorem s_pop {st : Stmt} {i j k : Nat} (h : PS X st (tAsg (tBM0 X.K "list" rPop (tVar i)) (gTup X.K 2 (gCons (gName j) (gCons (gName k) gNil))))) : PS X st (tS (sPop i j k)) := h.wk fun D σ H ⟨H0, ρ, o, s0, E, e, kk⟩ => by
  unfold sPop at e
  split at e
  · rename_i ds hi
    obtain ⟨d, hd, e⟩ := bindS e
    obtain ⟨ρ1, e1, e⟩ := mapS e
    subst e
    obtain ⟨u, hu, l, vs, e2, hlv, im⟩ := E.ok i _ hi
    subst e2
    obtain ⟨y, hy, iy⟩ := im.get hd
    have tm : Tp H (upd H l (.lst vs.dropLast)) := tp_mut hlv fun _ z => by cases z
    refine ⟨_, hu, .inl ⟨rfl, vs, SqL.of hlv⟩, l, vs, y, rfl, rfl, hlv, by rw [im.len]; exact hy, ?_⟩
    have E1 := E.own_set hi hu hlv (ImAll.mono tm _ _ im.dropLast)
    have s1 : Same H0 (upd H l (.lst vs.dropLast)) := same_mut s0 (E.own i ds l hi hu)
    unfold bPair at e1
    split at e1
    · cases e1
      obtain ⟨a, xs, e3, ha, im3⟩ := Im.tupInv (Im.mono tm _ _ iy)
      subst e3
      cases im3 with
      | cons h1 t =>
        cases t with
        | cons h2 t =>
          cases t
          refine ⟨a, _, rfl, SqT.of ha, rfl, _, _, rfl, _, _, rfl, rfl, ?_⟩
          exact kk _ _ s1 ((E1.setIm s1 h1).setIm s1 h2)
    · cases e1
  · cases e
/-! ### loops -/
def pinH (H0 A H1 : Hp) : Hp := fun a => match H1 a with
  | some (.tup xs) => some (.tup xs)
  | _ => (A a).or (H0 a)
theorem pin_cases {H0 A H1 : Hp} {a : Addr} {o : HO} (h : pinH H0 A H1 a = some o) : (∃ xs, H1 a = some (.tup xs) ∧ o = .tup xs) ∨ A a = some o ∨ H0 a = some o := by
  unfold pinH at h
  split at h
  · rename_i xs hx
    cases h
    exact .inl ⟨xs, hx, rfl⟩
  · cases q : A a with
    | some u =>
      rw [q] at h
      exact .inr (.inl h)
    | none =>
      rw [q] at h
      exact .inr (.inr h)
theorem pin_same {H0 A H1 : Hp} (s0 : Same H0 H1) (sA : Same A H1) : Same (pinH H0 A H1) H1 ∧ Same H0 (pinH H0 A H1) ∧ Same A (pinH H0 A H1) ∧ Tp H1 (pinH H0 A H1) := by
  refine ⟨fun a o h => ?_, fun a o h => ?_, fun a o h => ?_, fun a xs h => ?_⟩
  · rcases pin_cases h with ⟨xs, h1, h2⟩ | h1 | h1
    · rw [h2]; exact h1
    · exact sA a o h1
    · exact s0 a o h1
  · unfold pinH
    have h1 := s0 a o h
    split
    · rename_i xs hx
      rw [h1] at hx
      exact hx.symm
    · cases q : A a with
      | some u =>
        have h2 := sA a u q
        rw [h1] at h2
        exact h2.symm
      | none => exact h
  · unfold pinH
    have h1 := sA a o h
    split
    · rename_i xs hx
      rw [h1] at hx
      exact hx.symm
    · rw [h]
      rfl
  · unfold pinH
    rw [h]
theorem for_run {J : It} {A : Hp} {H0 H1 : Hp} {g : TG} {vs : List Nat} {b : En → PyData → Option En} {tb : TS} {body : Bk} {D : Ends} {σ : L2.St} {ρ : En} {ds : List PyData} {o : Out}
    (hg : ∀ v σ H Q, tG vs b v σ H Q → g v σ H Q) (hb : ∀ D σ H, tS body D σ H → tb D σ H) (s0 : Same H0 H1) (sA : Same A H1) (E : EnOk H0 H1 σ ρ) (it : ItD J A H1 ds) (hown : ∀ (j : Nat) es l, ρ[j]? = some (some (.ls true es)) → σ[j]? = some (some (.ref l)) → A l = none)
    (e : forL b body ds ρ = some o) (k : OOk H0 D o) :
    ∃ W : Nat → Nat → L2.St → Hp → Prop, (∃ m, W 0 m σ H1) ∧ ∀ i m σ H, W i m σ H →
      (J.stop i H ∧ D.nx σ H) ∨ (J.go i H ∧ ∃ N : L2.St → Hp → Prop, (∀ σ' H', N σ' H' → ∃ m', m' < m ∧ W (i + 1) m' σ' H') ∧ ∀ x H', J.yld i H x H' → g x σ H' fun σ2 H2 => tb { D with nx := N, ct := N, bk := D.nx } σ2 H2) := by
  obtain ⟨p1, p2, p3, p4⟩ := pin_same s0 sA
  have E' : EnOk (pinH H0 A H1) H1 σ ρ := ⟨E.len, E.ok, fun j es l e1 e2 => by
    cases q : pinH H0 A H1 l with
    | none => rfl
    | some u =>
      rcases pin_cases q with ⟨xs, h1, h2⟩ | h1 | h1
      · obtain ⟨w, h3, l', vs', h4, h5, _⟩ := E.ok j _ e1
        rw [e2] at h3
        cases h3
        cases h4
        rw [h1] at h5
        cases h5
      · rw [hown j es l e1 e2] at h1
        cases h1
      · rw [E.own j es l e1 e2] at h1
        exact absurd h1 (by simp), E.sep⟩
  have k' : OOk (pinH H0 A H1) D o := k.weak p2
  refine ⟨fun i m σ' H' => m = ds.length - i ∧ i ≤ ds.length ∧ Same (pinH H0 A H1) H' ∧ ∃ ρ', EnOk (pinH H0 A H1) H' σ' ρ' ∧ forL b body (ds.drop i) ρ' = some o, ⟨ds.length, by simp, Nat.zero_le _, p1, ρ, E', e⟩, ?_⟩
  rintro i m σ' H' ⟨rfl, hi, s1, ρ', E1, e1⟩
  have sA' : Same A H' := p3.trans s1
  have tB : Tp H1 H' := p4.trans (tp s1)
  by_cases hlt : i < ds.length
  · obtain ⟨hgo, hy⟩ := it.go i H' hlt sA' tB
    refine .inr ⟨hgo, fun σ2 H2 => i + 1 ≤ ds.length ∧ Same (pinH H0 A H1) H2 ∧ ∃ ρ', EnOk (pinH H0 A H1) H2 σ2 ρ' ∧ forL b body (ds.drop (i + 1)) ρ' = some o, fun σ2 H2 n => ⟨ds.length - (i + 1), by omega, rfl, n⟩, fun x H'' y => ?_⟩
    obtain ⟨s2, d, hd, imx⟩ := hy x H'' y
    have hdr : ds.drop i = d :: ds.drop (i + 1) := by
      obtain ⟨hl, hx⟩ := List.getElem?_eq_some_iff.mp hd
      rw [← hx]
      exact List.drop_eq_getElem_cons hl
    rw [hdr] at e1
    unfold forL at e1
    obtain ⟨ρ1, eb, e1⟩ := bindS e1
    obtain ⟨o1, eo, e1⟩ := bindS e1
    refine hg _ _ _ _ ⟨_, ρ', d, ρ1, s1.trans s2, E1.mono s2, imx, eb, fun σ2 E2 _ _ => ?_⟩
    refine hb _ _ _ ⟨_, ρ1, o1, s1.trans s2, E2, eo, ?_⟩
    cases o1 with
    | nx ρ2 => exact fun σ3 H3 s3 E3 => ⟨by omega, s3, ρ2, E3, e1⟩
    | ct ρ2 => exact fun σ3 H3 s3 E3 => ⟨by omega, s3, ρ2, E3, e1⟩
    | bk ρ2 =>
      cases e1
      exact k'
    | rt x =>
      cases e1
      exact k'
  · have ei : i = ds.length := by omega
    subst ei
    rw [List.drop_length] at e1
    unfold forL at e1
    cases e1
    exact .inl ⟨it.stop H' sA' tB, k' σ' H' s1 E1⟩
theorem s_for {tg iter : Expr} {body : List Stmt} {src : Src} {vs : List Nat} {b : En → PyData → Option En} {sb : Bk} {pos : Pos} (hp : PassesOwn (model X.prog X.w) X.A X.env X.xe) (hc : X.calm = true) (hi : PI X tg iter (tI src)) (hg : PG X tg (tG vs b)) (hb : PSs X body (tS sb))
    (hs : ∀ x, foldedSetIterable iter X.env x = pure x := by intro _; rfl) : PS X (.For tg iter body [] pos) (tS (sFor src b sb)) := (ps_for hp hc hi hg hb hs).wk fun D σ H ⟨H0, ρ, o, s0, E, e, k⟩ => by
  obtain ⟨ds, eds, e⟩ := bindS e
  refine ⟨H0, ρ, ds, E, eds, fun J A H1 s1 it a1 => ?_⟩
  refine for_run (fun _ _ _ _ h => h) (fun _ _ _ h => h) (s0.trans s1) (fun a o z => (a1 a o z).1) (E.mono s1) it (fun j es l e1 e2 => ?_) e k
  cases q : A l with
  | none => rfl
  | some u =>
    obtain ⟨w, h3, l', vs', h4, h5, _⟩ := E.ok j _ e1
    rw [e2] at h3
    cases h3
    cases h4
    rw [(a1 l u q).2] at h5
    cases h5
theorem s_forV {tg iter : Expr} {body : List Stmt} {i : Nat} {vs : List Nat} {b : En → PyData → Option En} {sb : Bk} {pos : Pos} (hp : PassesOwn (model X.prog X.w) X.A X.env X.xe) (hc : X.calm = true) (hi : PI X tg iter (tIv i (srcV i))) (hg : PG X tg (tG vs b)) (hb : PSs X body (tS sb))
    (hs : ∀ x, foldedSetIterable iter X.env x = pure x := by intro _; rfl) : PS X (.For tg iter body [] pos) (tS (sForV i b sb)) := (ps_for hp hc hi hg hb hs).wk fun D σ H ⟨H0, ρ, o, s0, E, e, k⟩ => by
  obtain ⟨ds, eds, e⟩ := bindS e
  have Ef := E.frz i
  refine ⟨H0, frz i ρ, ds, Ef, eds, fun J A H1 s1 it a1 => ?_⟩
  refine for_run (fun _ _ _ _ h => h) (fun _ _ _ h => h) (s0.trans s1) (fun a o z => (a1 a o z).1) (Ef.mono s1) it (fun j es l e1 e2 => ?_) e k
  cases q : A l with
  | none => rfl
  | some u =>
    obtain ⟨_, h2, es', h3⟩ := a1 l u q
    by_cases hj : j = i
    · subst hj
      rw [h3] at e1
      cases e1
    · exact absurd h2 (Ef.sep j i es false es' l e1 h3 hj e2)
theorem s_while {c : Expr} {body : List Stmt} {t : Te} {sb : Bk} {n : Nat} {pos : Pos} (hp : PassesOwn (model X.prog X.w) X.A X.env X.xe) (hc : PT X c (tT t)) (hb : PSs X body (tS sb)) : PS X (.While c body [] pos) (tS (whF t sb n)) := (ps_while hp hc hb).wk fun D σ H ⟨H0, ρ, o, s0, E, e, k⟩ => by
  refine ⟨fun m σ' H' => ∃ ρ', Same H0 H' ∧ EnOk H0 H' σ' ρ' ∧ whF t sb m ρ' = some o, ⟨n, ρ, s0, E, e⟩, ?_⟩
  rintro m σ' H' ⟨ρ', s1, E1, e1⟩
  cases m with
  | zero => cases e1
  | succ m =>
    unfold whF at e1
    obtain ⟨c, ec, e1⟩ := bindS e1
    refine ⟨H0, ρ', c, E1, ec, fun H2 s2 => ?_⟩
    cases c with
    | false =>
      refine iteF ?_
      cases e1
      exact k σ' H2 (s1.trans s2) (E1.mono s2)
    | true =>
      refine iteT ?_
      obtain ⟨o1, eo, e1⟩ := bindS e1
      refine ⟨fun σ3 H3 => ∃ ρ', Same H0 H3 ∧ EnOk H0 H3 σ3 ρ' ∧ whF t sb m ρ' = some o, fun σ3 H3 n => ⟨m, Nat.lt_succ_self m, n⟩, H0, ρ', o1, s1.trans s2, E1.mono s2, eo, ?_⟩
      cases o1 with
      | nx ρ2 => exact fun σ3 H3 s3 E3 => ⟨ρ2, s3, E3, e1⟩
      | ct ρ2 => exact fun σ3 H3 s3 E3 => ⟨ρ2, s3, E3, e1⟩
      | bk ρ2 =>
        cases e1
        exact k
      | rt x =>
        cases e1
        exact k
end
/-! ### a def -/
def run (n m : Nat) (s : Bk) : List Val → Option Val := fun xs => if xs.length = n then (s (xs.map (fun x => some x.ro) ++ List.replicate m none)).bind fun o => match o with
  | .rt x => some x
  | .nx _ => some (.im .none)
  | _ => none
  else none
theorem vs_get {H : Hp} : ∀ {us : List V} {xs : List Val} {i : Nat} {x : Val}, VsOk H us xs → xs[i]? = some x → ∃ u, us[i]? = some u ∧ VOk H u x
  | _, _, _, _, .nil, e => by simp at e
  | _, _, 0, _, .cons a _, e => by simp at e; subst e; exact ⟨_, rfl, a⟩
  | _, _, i + 1, x, .cons _ t, e => by
    obtain ⟨v, h1, h2⟩ := vs_get (i := i) (x := x) t (by simpa using e)
    exact ⟨v, by simpa using h1, h2⟩
theorem start_ok {H : Hp} {N : List Str} {us : List V} {xs : List Val} {m : Nat} (h : VsOk H us xs) (hm : N.length - xs.length = m) : EnOk H H (L2.start N us) (xs.map (fun x => some x.ro) ++ List.replicate m none) := by
  have hl := Paired.length h
  have ro : ∀ (i : Nat) (x : Val), (xs.map (fun x => some x.ro) ++ List.replicate m none)[i]? = some (some x) → ∃ y, xs[i]? = some y ∧ x = y.ro := fun i x e => by
    by_cases hi : i < xs.length
    · rw [List.getElem?_append_left (by simpa using hi), List.getElem?_map] at e
      obtain ⟨y, hy, e⟩ := mapS e
      exact ⟨y, hy, (Option.some.inj e).symm⟩
    · rw [List.getElem?_append_right (by simpa using hi)] at e
      have hmem := List.mem_of_getElem? e
      have z := List.eq_of_mem_replicate hmem
      cases z
  have noOwn : ∀ (i : Nat) (ds : List PyData), (xs.map (fun x => some x.ro) ++ List.replicate m none)[i]? ≠ some (some (.ls true ds)) := fun i ds e => by
    obtain ⟨y, _, hy⟩ := ro i _ e
    cases y <;> cases hy
  refine ⟨?_, fun i x e => ?_, fun i ds l e _ => absurd e (noOwn i ds), fun i j ds b es l e _ _ _ => absurd e (noOwn i ds)⟩
  · unfold L2.start
    simp only [List.length_append, List.length_map, List.length_replicate]
    omega
  · obtain ⟨y, hy, e⟩ := ro i x e
    subst e
    obtain ⟨u, hu, vu⟩ := vs_get h hy
    refine ⟨u, ?_, vu.roV⟩
    unfold L2.start
    have hi : i < us.length := (List.getElem?_eq_some_iff.mp hu).1
    rw [List.getElem?_append_left (by simpa using hi), List.getElem?_map, hu]
    rfl
theorem spG_len {n m : Nat} {s : Bk} {ps : List Str} (h : n = ps.length) : ∀ vs H Q E, spG (run n m s) vs H Q E → vs.length = ps.length := fun vs H Q E ⟨xs, z, hv, e, _⟩ => by
  unfold run at e
  split at e
  · rename_i hl
    rw [Paired.length hv, hl, h]
  · cases e
theorem body_G {N ps : List Str} {n m : Nat} {s : Bk} {vs : List V} {H : Hp} {Q : VK} {E : XK} (hm : N.length - n = m) (h : spG (run n m s) vs H Q E) : tS s { nx := fun _ H' => Q .non H', rt := Q } (L2.start N vs) H := by
  obtain ⟨xs, z, hv, e, k⟩ := h
  unfold run at e
  split at e
  · rename_i hl
    obtain ⟨o, eo, e⟩ := bindS e
    refine ⟨H, _, o, Same.refl H, start_ok hv (by rw [hl]; exact hm), eo, ?_⟩
    cases o with
    | nx ρ =>
      cases e
      exact fun σ H' s1 _ => k _ H' s1 .non trivial
    | rt x =>
      cases e
      exact fun u H' s1 v1 f1 => k u H' s1 v1 f1
    | bk ρ => cases e
    | ct ρ => cases e
  · cases e
section
variable {P : Program} {w : World} {K : PySem.W.Frag} {mg : Str → Option Value} {base : Heap}
/-- THE RULE for a def by its mirror -/
theorem fnG {x qual : Str} {st : Stmt} {f : Addr} {fd : FuncData} {N ps : List Str} {k n m : Nat} {s : Bk} (F : Fun K x qual st f fd) (S : FnScope N ps (defScope st)) (hn : n = ps.length) (hm : N.length - n = m)
    (hbody : ∀ (cdv : Value) (A : Around) (outer : List Env) (s0 : Shared) (H : Hp) (E : XK), Room k (A.deeper (PyProof.Rows.envOfC qual (defScope st) s0.heap.objs.size f cdv)) →
      PSs (cxOf CX0 P w K mg base N qual (defScope st) f cdv A outer s0 H E).nox (defBody st) (tS s)) : FnOk P w K mg base CX0 (k + 1) f fd ps (spG (run n m s)) :=
  F.ok S (spG_len hn) fun cdv A outer s0 H vs Q E hr h => ⟨_, hbody cdv A outer s0 H E hr, body_G (ps := ps) hm h⟩
end
end Ai
set_option Elab.async false
set_option linter.all false
set_option maxRecDepth 100000
set_option maxHeartbeats 4000000
/-! Ai, part G: sorted of places, of needs, from a list, a tuple. -/
namespace Ai
open PySem L2
/-! ### the order of lists over an order -/
section
variable {α : Type} {lt : α → α → Bool}
def lexS (lt : α → α → Bool) : List α → List α → Bool
  | [], [] => false
  | [], _ :: _ => true
  | _ :: _, [] => false
  | x :: xs, y :: ys => if lt x y = true then true else if lt y x = true then false else lexS lt xs ys
theorem lexS_asym (O : SrtO.Swo lt) : ∀ xs ys : List α, lexS lt xs ys = true → lexS lt ys xs = false
  | [], [], h => by simp [lexS] at h
  | [], _ :: _, _ => by simp [lexS]
  | _ :: _, [], h => by simp [lexS] at h
  | x :: xs, y :: ys, h => by
    unfold lexS at h ⊢
    cases h1 : lt x y with
    | true =>
      have := O.asym x y h1
      rw [this]
      simp
    | false =>
      rw [h1] at h
      cases h2 : lt y x with
      | true =>
        rw [h2] at h
        simp at h
      | false =>
        rw [h2] at h
        simp only [Bool.false_eq_true, if_false] at h ⊢
        exact lexS_asym O xs ys h
theorem lexS_tr (O : SrtO.Swo lt) : ∀ xs ys zs : List α, lexS lt ys xs = false → lexS lt zs ys = false → lexS lt zs xs = false
  | [], ys, zs, h1, h2 => by cases zs <;> simp [lexS]
              <;> (cases ys <;> simp [lexS] at h1 h2)
  | x :: xs, [], zs, h1, h2 => by simp [lexS] at h1
  | x :: xs, y :: ys, [], h1, h2 => by simp [lexS] at h2
  | x :: xs, y :: ys, z :: zs, h1, h2 => by
    unfold lexS at h1 h2 ⊢
    have a1 : lt y x = false := by
      cases q : lt y x with
      | false => rfl
      | true => rw [q] at h1; simp at h1
    have a2 : lt z y = false := by
      cases q : lt z y with
      | false => rfl
      | true => rw [q] at h2; simp at h2
    have a3 : lt z x = false := O.tr x y z a1 a2
    rw [a1] at h1
    rw [a2] at h2
    rw [a3]
    simp only [Bool.false_eq_true, if_false] at h1 h2 ⊢
    cases q : lt x z with
    | true => simp
    | false =>
      simp only [Bool.false_eq_true, if_false]
      -- x and z stand alike, so both stand as y does
      have b1 : lt x y = false := by
        cases q1 : lt x y with
        | false => rfl
        | true =>
          -- x < y ≤ z
          have := O.ltle q1 a2
          rw [this] at q
          cases q
      have b2 : lt y z = false := by
        cases q1 : lt y z with
        | false => rfl
        | true =>
          have := O.lelt a1 q1
          rw [this] at q
          cases q
      rw [b1] at h1
      rw [b2] at h2
      simp only [Bool.false_eq_true, if_false] at h1 h2
      exact lexS_tr O xs ys zs h1 h2
theorem lexS_swo (O : SrtO.Swo lt) : SrtO.Swo (lexS lt) := ⟨lexS_asym O, lexS_tr O⟩
/-- a list in order, by insertion -/
def ins (lt : α → α → Bool) (x : α) : List α → List α
  | [] => [x]
  | y :: ys => if lt y x = true then y :: ins lt x ys else x :: y :: ys
def isort (lt : α → α → Bool) : List α → List α
  | [] => []
  | x :: xs => ins lt x (isort lt xs)
theorem ins_perm (x : α) : ∀ l : List α, (ins lt x l).Perm (x :: l)
  | [] => List.Perm.refl _
  | y :: ys => by
    unfold ins
    split
    · exact ((ins_perm x ys).cons y).trans (List.Perm.swap x y ys)
    · exact List.Perm.refl _
theorem isort_perm : ∀ l : List α, (isort lt l).Perm l
  | [] => List.Perm.refl _
  | x :: xs => (ins_perm x _).trans ((isort_perm xs).cons x)
theorem ins_srtd (O : SrtO.Swo lt) (x : α) : ∀ l : List α, SrtO.Srtd lt l → SrtO.Srtd lt (ins lt x l)
  | [], _ => List.pairwise_singleton _ _
  | y :: ys, h => by
    unfold ins
    have h' := List.pairwise_cons.mp h
    split
    · rename_i q
      refine List.pairwise_cons.mpr ⟨fun z hz => ?_, ins_srtd O x ys h'.2⟩
      rcases List.mem_cons.mp ((ins_perm x ys).mem_iff.mp hz) with e | hz
      · rw [e]
        exact O.asym _ _ q
      · exact h'.1 z hz
    · rename_i q
      have q' : lt y x = false := by
        cases e : lt y x with
        | false => rfl
        | true => exact absurd e q
      refine List.pairwise_cons.mpr ⟨fun z hz => ?_, h⟩
      rcases List.mem_cons.mp hz with e | hz
      · rw [e]
        exact q'
      · exact O.tr x y z q' (h'.1 z hz)
theorem isort_srtd (O : SrtO.Swo lt) : ∀ l : List α, SrtO.Srtd lt (isort lt l)
  | [] => List.Pairwise.nil
  | x :: xs => ins_srtd O x _ (isort_srtd O xs)
theorem ins_cls (O : SrtO.Swo lt) (x z : α) : ∀ l : List α, SrtO.Srtd lt l → (ins lt x l).filter (SrtO.eqv lt z) = (x :: l).filter (SrtO.eqv lt z)
  | [], _ => rfl
  | y :: ys, h => by
    unfold ins
    have h' := List.pairwise_cons.mp h
    split
    · rename_i q
      have ih := ins_cls O x z ys h'.2
      -- y stands below x: they are not both like z
      rw [List.filter_cons, ih]
      cases hx : SrtO.eqv lt z x with
      | false =>
        rw [List.filter_cons_of_neg (l := ys) (by rw [hx]; decide), List.filter_cons_of_neg (l := y :: ys) (by rw [hx]; decide), List.filter_cons]
      | true =>
        have hy : SrtO.eqv lt z y = false := by
          cases e : SrtO.eqv lt z y with
          | false => rfl
          | true =>
            obtain ⟨a1, a2⟩ := SrtO.eqv_iff.mp hx
            obtain ⟨b1, b2⟩ := SrtO.eqv_iff.mp e
            -- lt y x, yet x ≤ z ≤ y
            have := O.tr x z y a1 b2
            rw [q] at this
            cases this
        rw [hy]
        simp only [Bool.false_eq_true, if_false]
        rw [List.filter_cons_of_pos hx, List.filter_cons_of_pos hx, List.filter_cons_of_neg (by rw [hy]; decide)]
    · rfl
theorem isort_stb (O : SrtO.Swo lt) : ∀ l : List α, SrtO.Stb lt (isort lt l) l
  | [] => SrtO.Stb.refl _
  | x :: xs => ⟨isort_perm _, fun z => by
    show (ins lt x (isort lt xs)).filter _ = _
    rw [ins_cls O x z _ (isort_srtd O xs)]
    rw [List.filter_cons, List.filter_cons, (isort_stb O xs).cls z]⟩
theorem isort_uniq (O : SrtO.Swo lt) {l m : List α} (h1 : SrtO.Srtd lt m) (h2 : SrtO.Stb lt m l) : m = isort lt l :=
  SrtO.stb_uniq O h1 (isort_srtd O l) ⟨h2.perm.trans (isort_perm l).symm, fun z => (h2.cls z).trans ((isort_stb O l).cls z).symm⟩
end
/-! ### places and needs -/
abbrev Pl := Int × Int
abbrev Nd := List Pl
abbrev ltP : Pl → Pl → Bool := SrtO.lexB
abbrev ltN : Nd → Nd → Bool := lexS ltP
theorem swoP : SrtO.Swo ltP := by
  refine ⟨fun x y h => ?_, fun x y z h1 h2 => ?_⟩
  · have a := SrtO.lexB_iff.mp h
    refine SrtO.lexB_no.mpr ?_
    omega
  · have a := SrtO.lexB_no.mp h1
    have b := SrtO.lexB_no.mp h2
    refine SrtO.lexB_no.mpr ?_
    omega
theorem swoN : SrtO.Swo ltN := lexS_swo swoP
def pD (p : Pl) : PyData := .tuple [.int p.1, .int p.2]
def nD (n : Nd) : PyData := .tuple (n.map pD)
def dP : PyData → Option Pl
  | .tuple [.int x, .int y] => some (x, y)
  | _ => none
def dN : PyData → Option Nd
  | .tuple xs => mapO dP xs
  | _ => none
theorem dP_some {d : PyData} {p : Pl} (h : dP d = some p) : d = pD p := by
  unfold dP at h
  split at h
  · cases h; rfl
  · cases h
theorem mapO_inv {α β : Type} {f : α → Option β} {g : β → α} (hf : ∀ a b, f a = some b → a = g b) : ∀ {l : List α} {r : List β}, mapO f l = some r → l = r.map g
  | [], _, h => by cases h; rfl
  | a :: l, _, h => by
    obtain ⟨b, hb, h⟩ := bindS h
    obtain ⟨r, hr, h⟩ := mapS h
    subst h
    rw [List.map_cons, ← mapO_inv hf hr, ← hf a b hb]
theorem dN_some {d : PyData} {n : Nd} (h : dN d = some n) : d = nD n := by
  unfold dN at h
  split at h
  · rw [mapO_inv (fun _ _ => dP_some) h]
    rfl
  · cases h
theorem mapO_map {α β : Type} {f : α → Option β} {g : β → α} (hf : ∀ b, f (g b) = some b) : ∀ r : List β, mapO f (r.map g) = some r
  | [] => rfl
  | b :: r => by
    show (f (g b)).bind _ = _
    rw [hf b]
    show (mapO f (r.map g)).map _ = _
    rw [mapO_map hf r]
    rfl
theorem dP_pD (p : Pl) : dP (pD p) = some p := rfl
theorem dN_nD (n : Nd) : dN (nD n) = some n := mapO_map dP_pD n
theorem eqv_pD (p q : Pl) : PyData.eqv (pD p) (pD q) = decide (p = q) := by
  obtain ⟨a, b⟩ := p
  obtain ⟨c, d⟩ := q
  have e : PyData.eqv (pD (a, b)) (pD (c, d)) = ((a == c) && ((b == d) && true)) := by simp only [pD, PyData.eqv, PyData.eqvAll]
  rw [e]
  by_cases h1 : a = c
  · by_cases h2 : b = d
    · simp [h1, h2]
    · simp [h1, h2]
  · simp [h1]
theorem eqvAll_pD : ∀ n m : Nd, PyData.eqvAll (n.map pD) (m.map pD) = decide (n = m)
  | [], [] => by simp [PyData.eqvAll]
  | [], _ :: _ => by simp [PyData.eqvAll]
  | _ :: _, [] => by simp [PyData.eqvAll]
  | p :: n, q :: m => by
    simp only [List.map_cons, PyData.eqvAll, eqv_pD, eqvAll_pD n m]
    by_cases h1 : p = q
    · by_cases h2 : n = m
      · simp [h1, h2]
      · simp [h1, h2]
    · simp [h1]
theorem eqv_nD (n m : Nd) : PyData.eqv (nD n) (nD m) = decide (n = m) := by
  show PyData.eqv (.tuple _) (.tuple _) = _
  simp only [PyData.eqv]
  exact eqvAll_pD n m
theorem ord_pD (p q : Pl) : ordD fLt (pD p) (pD q) = ltP p q := by
  obtain ⟨a, b⟩ := p
  obtain ⟨c, d⟩ := q
  have e : ordD fLt (pD (a, b)) (pD (c, d)) = if (a == c) = true then (if (b == d) = true then decide ((0 : Int) < ([] : List PyData).length) else decide (b < d)) else decide (a < c) := by
    simp only [pD, ordD, ordL, PyData.eqv]
    rfl
  rw [e]
  show _ = SrtO.lexB (a, b) (c, d)
  unfold SrtO.lexB
  by_cases h1 : a = c
  · by_cases h2 : b = d
    · simp [h1, h2]
    · simp [h1, h2]
  · simp [h1]
theorem ordL_nD : ∀ n m : Nd, ordL fLt (n.map pD) (m.map pD) = ltN n m
  | [], [] => by simp [ordL, lexS]
  | [], q :: m => by
    simp only [List.map_nil, ordL, lexS, List.length_map]
    exact decide_eq_true (by simp only [List.length_cons, List.length_map]; omega)
  | p :: n, [] => by
    simp only [List.map_cons, List.map_nil, ordL, lexS]
    exact decide_eq_false (by simp only [List.length_map]; omega)
  | p :: n, q :: m => by
    simp only [List.map_cons]
    unfold ordL
    rw [eqv_pD, ord_pD, ordL_nD n m]
    show _ = (if ltP p q = true then true else if ltP q p = true then false else ltN n m)
    by_cases h : p = q
    · subst h
      rw [swoP.refl p]
      simp
    · rw [decide_eq_false h]
      simp only [Bool.false_eq_true, if_false]
      cases h1 : ltP p q with
      | true => simp
      | false =>
        have h2 : ltP q p = true := by
          cases e : ltP q p with
          | true => rfl
          | false =>
            exfalso
            have a := SrtO.lexB_no.mp h1
            have b := SrtO.lexB_no.mp e
            apply h
            apply Prod.ext <;> omega
        simp [h2]
theorem ord_nD (n m : Nd) : ordD fLt (nD n) (nD m) = ltN n m := by
  show ordD fLt (.tuple _) (.tuple _) = _
  unfold ordD
  exact ordL_nD n m
theorem ok_pD (p q : Pl) : okD (pD p) (pD q) = true := by simp [pD, okD, okL]
theorem okL_pD : ∀ n m : Nd, okL (n.map pD) (m.map pD) = true
  | [], _ => by simp [okL]
  | _ :: _, [] => by simp [okL]
  | p :: n, q :: m => by simp [okL, ok_pD, okL_pD n m]
theorem ok_nD (n m : Nd) : okD (nD n) (nD m) = true := by
  show okD (.tuple _) (.tuple _) = true
  unfold okD
  exact okL_pD n m
theorem lay_pD (p : Pl) : (pD p).canLay0 = true := by simp [pD, PyData.canLay0, PyData.canLayAll0]
theorem layAll_pD : ∀ n : Nd, PyData.canLayAll0 (n.map pD) = true
  | [] => by simp [PyData.canLayAll0]
  | p :: n => by simp [PyData.canLayAll0, lay_pD, layAll_pD n]
theorem lay_nD (n : Nd) : (nD n).canLay0 = true := by
  show PyData.canLay0 (.tuple _) = true
  simp only [PyData.canLay0]
  exact layAll_pD n
theorem depth_pD (p : Pl) : (pD p).depth = 1 := by simp [pD, PyData.depth, PyData.depthAll]
theorem depthAll_pD : ∀ n : Nd, PyData.depthAll (n.map pD) ≤ 1
  | [] => by simp [PyData.depthAll]
  | p :: n => by
    have h1 := depthAll_pD n
    have h2 := depth_pD p
    simp only [List.map_cons, PyData.depthAll]
    omega
theorem depth_nD (n : Nd) : (nD n).depth ≤ 2 := by
  have h := depthAll_pD n
  show PyData.depth (.tuple _) ≤ 2
  simp only [PyData.depth]
  omega
/-! ### needs as values of the machine -/
def IsNd (h : Heap) (v : Value) (n : Nd) : Prop := ∃ a o us m, v = .ref a ∧ h.get? a = some o ∧ o.cls = .type "tuple" ∧ o.data = .seq us m ∧ Paired (fun u p => Srt.IsPair h u p.1 p.2) us.toList n

theorem IsNd.keeps {h h' : Heap} {v : Value} {n : Nd} (p : IsNd h v n) (k : ∀ b o, h.get? b = some o → o.cls = .type "tuple" → h'.get? b = some o) : IsNd h' v n := by
  obtain ⟨a, o, us, m, e, ho, hc, hd, q⟩ := p
  exact ⟨a, o, us, m, e, k _ _ ho hc, hc, hd, L2.Paired.mapP q fun u p x => x.keeps k⟩
theorem reads_pair {h : Heap} {v : Value} {p : Pl} (q : Srt.IsPair h v p.1 p.2) : ∃ as, Reads h v (pD p) as := by
  obtain ⟨a, o, t, u, n, e, ho, hc, hd⟩ := q
  subst e
  exact ⟨_, Reads.tuple ho hc hd (ReadsAll.cons (Reads.int _ _) (ReadsAll.cons (Reads.int _ _) ReadsAll.nil))⟩
theorem reads_pairs {h : Heap} : ∀ {us : List Value} {n : Nd}, Paired (fun u p => Srt.IsPair h u p.1 p.2) us n → ∃ as, ReadsAll h us (n.map pD) as
  | _, _, .nil => ⟨_, ReadsAll.nil⟩
  | _, _, .cons a t => by
    obtain ⟨as, h1⟩ := reads_pair a
    obtain ⟨bs, h2⟩ := reads_pairs t
    exact ⟨_, ReadsAll.cons h1 h2⟩
section
open PyProof.Rows
variable {prog : Program} {w : World} {A : Around} {E : Value → Shared → Prop} {s : Shared}
/-- the sort's own test of two tuples of data -/
theorem kat_data {fin : Bool} {Q : Bool → Shared → Prop} : ∀ (xs ys : List PyData) (vs ws : List Value) (as bs : List Addr) (i : Nat), ReadsAll s.heap vs xs as → ReadsAll s.heap ws ys bs → okL xs ys = true → PyData.canLayAll0 xs = true → PyData.canLayAll0 ys = true →
    A.units + min (PyData.depthAll xs) (PyData.depthAll ys) < cLine → fin = fLt xs.length ys.length → Q (ordL fLt xs ys) s → PySem.W.KatLex prog w A false fin Q (vs.zip ws) i s
  | [], ys, _, _, _, _, i, ra, rb, _, _, _, _, hf, q => by
    cases ra
    show Q fin s
    rw [hf]
    unfold ordL at q
    exact q
  | x :: xs, [], _, _, _, _, i, ra, rb, _, _, _, _, hf, q => by
    cases ra
    cases rb
    show Q fin s
    rw [hf]
    unfold ordL at q
    exact q
  | x :: xs, y :: ys, _, _, _, _, i, ra, rb, ok, ha, hb, hu, hf, q => by
    have ha' : x.canLay0 = true ∧ PyData.canLayAll0 xs = true := by simpa [PyData.canLayAll0] using ha
    have hb' : y.canLay0 = true ∧ PyData.canLayAll0 ys = true := by simpa [PyData.canLayAll0] using hb
    have ok' : okD x y = true ∧ okL xs ys = true := by simpa [okL] using ok
    cases ra with
    | cons r rs =>
      cases rb with
      | cons r' rs' =>
        unfold ordL at q
        refine PySem.W.kat_cons (SeqAt.eqAt_reads x y A s _ _ _ _ r r' ha'.1 hb'.1 (SeqAt.room_head hu) prog w _ _ ?_)
        refine PySem.W.kat_go (fun e1 => ?_) (fun e1 => ?_)
        · rw [e1, if_pos rfl] at q
          refine PySem.W.kat_yes (kat_data xs ys _ _ _ _ (i + 1) rs rs' ok'.2 ha'.2 hb'.2 (SeqAt.room_tail hu) ?_ q)
          rw [hf]
          have := opF_lt.sh (xs.length : Nat) (ys.length : Nat)
          rw [List.length_cons, List.length_cons, Int.natCast_add, Int.natCast_add]
          exact this
        · rw [e1, if_neg Bool.false_ne_true] at q
          refine PySem.W.kat_no ?_
          show wpAny (model prog w) A (oneLt' (false && i == 0) _ _) Q (fun _ _ => False) s
          rw [Bool.false_and]
          exact PySem.W.kat_one _ _ (rc_data opF_lt x y A s _ _ _ _ r r' ok'.1 ha'.1 hb'.1 (SeqAt.room_head hu) prog w _ _ q)
theorem nd_cmp {vs : List Value} {k : Value → Nd} (hp : ∀ v ∈ vs, IsNd s.heap v (k v)) (hu : A.units + 70 < cLine) : SrtO.Cmp prog w A s (tuples' false) (fun p => p.1 ∈ vs) (SrtO.lt2 fun v u => ltN (k v) (k u)) := by
  intro p q hm hm'
  obtain ⟨a, o, us, m, e, ho, hc, hd, r⟩ := hp _ hm
  obtain ⟨a', o', us', m', e', ho', hc', hd', r'⟩ := hp _ hm'
  show wpAny (model prog w) A (keyLt' (tuples' false) p.1 q.1) (fun r s' => s' = s ∧ r = ltN (k p.1) (k q.1)) (fun _ _ => False) s
  generalize k p.1 = n at r ⊢
  generalize k q.1 = n' at r' ⊢
  rw [e, e']
  refine PySem.W.kat_lt ho hd ho' hd' ?_
  obtain ⟨as, h1⟩ := reads_pairs r
  obtain ⟨bs, h2⟩ := reads_pairs r'
  have d1 := depthAll_pD n
  refine kat_data _ _ _ _ _ _ 0 h1 h2 (okL_pD n n') (layAll_pD n) (layAll_pD n') ?_ ?_ ⟨rfl, ordL_nD n n'⟩
  · have : min (PyData.depthAll (n.map pD)) (PyData.depthAll (n'.map pD)) ≤ PyData.depthAll (n.map pD) := Nat.min_le_left _ _
    omega
  · have l1 := Paired.length r
    have l2 := Paired.length r'
    rw [Array.length_toList] at l1 l2
    rw [l1, l2, List.length_map, List.length_map]
    show decide (n.length < n'.length) = decide ((n.length : Int) < (n'.length : Int))
    simp
theorem nd_firsts {h : Heap} : ∀ {vs : List Value}, (∀ v ∈ vs, ∃ n, n ≠ [] ∧ IsNd h v n) → ∃ fs : List Value, PySem.W.KatTups h vs fs ∧ fs.length = vs.length ∧ ∀ f ∈ fs, ∃ a o, f = .ref a ∧ h.get? a = some o ∧ o.cls = .type "tuple"
  | [], _ => ⟨[], PySem.W.KatTups.nil, rfl, fun _ hm => by simp at hm⟩
  | v :: vs, hp => by
    obtain ⟨fs, h1, h2, h3⟩ := nd_firsts (vs := vs) fun v' hm => hp v' (List.mem_cons_of_mem _ hm)
    obtain ⟨n, hn, a, o, us, m, e, ho, hc, hd, r⟩ := hp v (List.mem_cons_self ..)
    subst e
    obtain ⟨us⟩ := us
    cases r with
    | nil => exact absurd rfl hn
    | cons b t =>
      obtain ⟨a2, o2, t2, u2, n2, e2, ho2, hc2, hd2⟩ := b
      refine ⟨_ :: fs, PySem.W.KatTups.cons ho hc hd rfl h1, by rw [List.length_cons, List.length_cons, h2], fun f hm => ?_⟩
      rcases List.mem_cons.mp hm with z | hm
      · exact ⟨a2, o2, z.trans e2, ho2, hc2⟩
      · exact h3 f hm
theorem nds_sortable {a : Addr} {vs : List Value} {k : Value → Nd} (h0 : 0 < vs.length) (hp : ∀ v ∈ vs, IsNd s.heap v (k v)) (hn : ∀ v ∈ vs, k v ≠ []) (ha : ∀ o, s.heap.get? a = some o → o.cls ≠ .type "tuple") (hu : A.units + 70 < cLine) : SrtO.SortableO prog w A s a vs fun v u => ltN (k v) (k u) := by
  intro h' keep
  have hp' : ∀ v ∈ vs, IsNd h' v (k v) := fun v hm => (hp v hm).keeps fun b o e c => keep b o (fun z => by subst z; exact ha o e c) e
  obtain ⟨fs, h1, h2, h3⟩ := nd_firsts fun v hm => ⟨_, hn v hm, hp' v hm⟩
  refine ⟨tuples' false, fun Q E hq => ?_, nd_cmp hp' hu⟩
  refine PySem.W.kat_kind (T := .type "tuple") h1 (by omega) (fun f hm => ?_) (by rfl) ?_
  · obtain ⟨a, o, e, ho, hc⟩ := h3 f hm
    subst e
    rw [← hc]
    exact (PySem.W.Looks.ld ho).andThen .now
  · have e : (Value.type "tuple" != Value.type "tuple") = false := by first | decide +kernel | rfl | decide
    rw [e]
    exact hq
/-- behind the collecting: the new list is sorted -/
theorem sort_tail {vs : List Value} {ltv : Value → Value → Bool} {Q : Value → Shared → Prop} (O : SrtO.Swo ltv) (hz : vs.length ≤ sizeLine)
    (hS : 2 ≤ vs.length → ∀ (h₁ : Heap) (a : Addr), h₁.get? a = some (seqObj "list" vs.toArray 0) → (∀ b o, s.heap.get? b = some o → b ≠ a ∧ h₁.get? b = some o) → SrtO.SortableO prog w A.in1 { s with heap := h₁ } a vs ltv)
    (h : ∀ (h' : Heap) (d : Addr) (out : List Value), SrtO.Srtd ltv out → SrtO.Stb ltv out vs → (∀ b o, s.heap.get? b = some o → h'.get? b = some o) → s.heap.objs.size ≤ d → (∃ n, h'.get? d = some (seqObj "list" out.toArray n)) → Q (.ref d) { s with heap := h' }) :
    wpAny (model prog w) A (newList vs >>= fun l => holding [l] (call (.builtin "list.sort") [l]) >>= fun _ => ret l) (fun fin s' => ∃ v, fin = .done (.ret v) ∧ Q v s') E s := by
  refine wpAny_bind (wpAny_newList ?_ hz)
  have hoL : (s.heap.push (seqObj "list" vs.toArray 0)).get? s.heap.objs.size = some (seqObj "list" vs.toArray 0) := Heap.get?_push_size _ rfl
  have keep : ∀ b o, s.heap.get? b = some o → b ≠ s.heap.objs.size ∧ (s.heap.push (seqObj "list" vs.toArray 0)).get? b = some o := fun b o q => ⟨Nat.ne_of_lt (Heap.lt_size q), Heap.get?_push_of_some _ q⟩
  show wpAny _ _ _ _ _ { s with heap := s.heap.push (seqObj "list" vs.toArray 0) }
  refine wpAny_bind (wpAny_holding (PySem.wpAny_call_entry PyProof.Rows.slot_list_sort ⟨_, hoL, rfl⟩ PyProof.Rows.entry_list_sort (SrtO.list_sort_ord O hoL hz (fun h2 => hS h2 _ _ hoL keep) fun out hs hb => ⟨_, rfl, ?_⟩) (PyProof.Rows.args_list_sort _)))
  obtain ⟨c, hc⟩ := PyProof.Rows.sortedHeap_at (vs := vs) (out := out.toArray) hoL
  refine wpAny_pure ⟨_, rfl, h _ _ out hs hb (fun b o q => ?_) (Nat.le_refl _) ⟨c, hc⟩⟩
  have hlt := Heap.lt_size q
  show (PyProof.Rows.sortedHeap (s.heap.push (seqObj "list" vs.toArray 0)) s.heap.objs.size vs out.toArray).get? b = some o
  rw [PyProof.Rows.sortedHeap_old (Nat.ne_of_lt hlt) (by rw [PyProof.Rows.size_push']; exact Nat.lt_succ_of_lt hlt)]
  exact Heap.get?_push_of_some _ q
end
end Ai
set_option Elab.async false
set_option linter.all false
set_option maxRecDepth 100000
set_option maxHeartbeats 4000000
/-! Ai, part H: sorted as a rule of the layer. -/
namespace Ai
open PySem L2
section
variable {X : Cx} {pins : List (Addr × Obj)} {σ : L2.St} {H : Hp} {s : Shared}
theorem im_pair (I : L2.Inv X pins σ H s) {v : V} {u : Value} {p : Pl} (h : Im H v (pD p)) (r : RelV v u) : Srt.IsPair s.heap u p.1 p.2 := by
  obtain ⟨a, xs, e, ha, im⟩ := Im.tupInv h
  subst e
  cases r
  cases im with
  | cons h1 t =>
    cases t with
    | cons h2 t =>
      cases t
      cases (Im.intInv h1)
      cases (Im.intInv h2)
      obtain ⟨_, its, rv, o, ho, hc, n, hd⟩ := I.hok a _ ha
      obtain ⟨u1, u2, e, r1, r2⟩ := vals2 rv
      subst e
      obtain ⟨t1, e1⟩ := r1
      obtain ⟨t2, e2⟩ := r2
      subst e1 e2
      exact ⟨a, o, t1, t2, n, rfl, ho, hc, hd⟩
theorem im_pairs (I : L2.Inv X pins σ H s) : ∀ {xs : List V} {us : List Value} {n : Nd}, ImAll H xs (n.map pD) → Vals xs us → Paired (fun u p => Srt.IsPair s.heap u p.1 p.2) us n
  | _, _, [], h, r => by
    cases h
    cases r
    exact .nil
  | _, _, p :: n, h, r => by
    cases h with
    | cons h1 h2 =>
      cases r with
      | cons r1 r2 => exact .cons (im_pair I h1 r1) (im_pairs I h2 r2)
theorem im_nd (I : L2.Inv X pins σ H s) {v : V} {u : Value} {n : Nd} (h : Im H v (nD n)) (r : RelV v u) : IsNd s.heap u n := by
  obtain ⟨a, xs, e, ha, im⟩ := Im.tupInv h
  subst e
  cases r
  obtain ⟨_, its, rv, o, ho, hc, m, hd⟩ := I.hok a _ ha
  exact ⟨a, o, _, m, rfl, ho, hc, hd, im_pairs I im (by simpa using rv)⟩
noncomputable def pk (h : Heap) (u : Value) : Pl := (dP (SeqAt.readOf h u)).getD (0, 0)
noncomputable def nk (h : Heap) (u : Value) : Nd := (dN (SeqAt.readOf h u)).getD []
theorem pk_eq {h : Heap} {u : Value} {p : Pl} (q : Srt.IsPair h u p.1 p.2) : pk h u = p := by
  obtain ⟨as, r⟩ := reads_pair q
  unfold pk
  rw [SeqAt.readOf_eq (lay_pD p) r, dP_pD]
  rfl
theorem nk_eq {h : Heap} {u : Value} {n : Nd} (q : IsNd h u n) : nk h u = n := by
  obtain ⟨a, o, us, m, e, ho, hc, hd, r⟩ := q
  obtain ⟨as, r⟩ := reads_pairs r
  subst e
  unfold nk
  rw [SeqAt.readOf_eq (lay_nD n) (Reads.tuple ho hc hd r), dN_nD]
  rfl
theorem im_refs {dK : α → PyData} (hd : ∀ x, ∃ ds, dK x = .tuple ds) : ∀ {xs : List V} {ks : List α}, ImAll H xs (ks.map dK) → ∀ x ∈ xs, ∃ a, x = .ref a
  | _, [], h, x, m => by cases h; cases m
  | _, k :: ks, h, x, m => by
    cases h with
    | cons h1 h2 =>
      rcases List.mem_cons.mp m with e | m
      · obtain ⟨ds, e2⟩ := hd k
        rw [e2] at h1
        obtain ⟨a, xs, e3, _⟩ := Im.tupInv h1
        exact ⟨a, e.trans e3⟩
      · exact im_refs hd h2 x m
theorem im_at {dK : α → PyData} : ∀ {xs : List V} {ks : List α}, ImAll H xs (ks.map dK) → ∀ x ∈ xs, ∃ k ∈ ks, Im H x (dK k)
  | _, [], h, x, m => by cases h; cases m
  | _, k :: ks, h, x, m => by
    cases h with
    | cons h1 h2 =>
      rcases List.mem_cons.mp m with e | m
      · exact ⟨k, List.mem_cons_self .., e ▸ h1⟩
      · obtain ⟨k', hk, hi⟩ := im_at h2 x m
        exact ⟨k', List.mem_cons_of_mem _ hk, hi⟩
theorem imAll_of {f : Value → V} {g : Value → PyData} {H : Hp} : ∀ {us : List Value}, (∀ u ∈ us, Im H (f u) (g u)) → ImAll H (us.map f) (us.map g)
  | [], _ => .nil
  | u :: us, h => .cons (h u (List.mem_cons_self ..)) (imAll_of fun v hv => h v (List.mem_cons_of_mem _ hv))
/-- sorted(x), x a list or a tuple -/
theorem sorted_run {κ : Type} {k : Value → κ} {dK : κ → PyData} {lt : κ → κ → Bool} (O : SrtO.Swo lt) (hd : ∀ x, ∃ ds, dK x = .tuple ds) {a : Addr} {T : String} {o : Obj} {its : Array Value} {n : Nat} {xs : List V} {ks : List κ} {Q : VK}
    (hT : T = "list" ∨ T = "tuple") (I : L2.Inv X pins σ H s) (ho : s.heap.get? a = some o) (hc : o.cls = .type T) (hdt : o.data = .seq its n) (rv : Vals xs its.toList) (im : ImAll H xs (ks.map dK)) (hz : xs.length ≤ sizeLine)
    (hk : ∀ (v : V) (u : Value) (x : κ), Im H v (dK x) → RelV v u → k u = x)
    (hS : 2 ≤ its.toList.length → ∀ (s' : Shared) (h₁ : Heap) (a : Addr), (∀ b o, s.heap.get? b = some o → h₁.get? b = some o) → h₁.get? a = some (PyProof.Rows.seqObj "list" its.toList.toArray 0) → SrtO.SortableO X.prog X.w X.A.in1.in1 { s' with heap := h₁ } a its.toList fun v u => lt (k v) (k u))
    (q : ∀ p H', Same H H' → H p = none → VOk H' (.ref p) (.ls true ((isort lt ks).map dK)) → Q (.ref p) H') :
    wpAny (model X.prog X.w) X.A (call (.builtin "sorted") [.ref a]) (EP X pins σ Q) X.xe s := by
  have hl := rv.length
  refine Calls.call_function_entry PyProof.Rows.kind_sorted PyProof.Rows.plain_sorted PyProof.Rows.entry_sorted (PyProof.Rows.args_sorted1 _) ?_
  unfold Builtin.«sorted»
  refine wpAny_bind (m := checkCount "sorted" 1 1 _) (wpAny_pure ?_)
  refine wpAny_bind (wpAny_collect_seq a hT ho hc hdt (fun h1 k1 => ?_) (by rw [← Array.length_toList, ← hl]; exact hz))
  have I1 : L2.Inv X pins σ H { s with heap := h1 } := I.kept (t' := s.toks) k1
  obtain ⟨e1, e2⟩ := refs_back rv (im_refs hd im)
  have at_ : ∀ u ∈ its.toList, Im H (backV u) (dK (k u)) := fun u hu => by
    obtain ⟨t, e⟩ := e2 u hu
    have hm : V.ref t ∈ xs := by
      rw [e1]
      exact List.mem_map.mpr ⟨u, hu, by rw [e]; rfl⟩
    obtain ⟨x, _, ix⟩ := im_at im _ hm
    have hx := hk _ u x ix (by rw [e]; rfl)
    rw [hx, e]
    exact ix
  have hks : its.toList.map k = ks := by
    clear hS at_ q
    rw [e1] at im
    revert im e2
    generalize its.toList = l
    intro im e2
    induction l generalizing ks with
    | nil =>
      have := im.len
      have h0 : ks.length = 0 := by simpa using this.symm
      exact (List.eq_nil_of_length_eq_zero h0).symm
    | cons u l ih =>
      cases ks with
      | nil => have := im.len; simp at this
      | cons x ks =>
        cases im with
        | cons i1 i2 =>
          obtain ⟨t, e⟩ := e2 u (List.mem_cons_self ..)
          rw [List.map_cons, ih i2 (fun v hv => e2 v (List.mem_cons_of_mem _ hv)), hk _ u x i1 (by rw [e]; rfl)]
  refine sort_tail (s := { s with heap := h1 }) (ltv := fun v u => lt (k v) (k u)) ⟨fun x y h => O.asym _ _ h, fun x y z h1 h2 => O.tr _ _ _ h1 h2⟩ (by rw [← hl]; exact hz) (fun h2 h₁ a' ha' kk => hS h2 _ h₁ a' (fun b o e => (kk b o (k1 b o e)).2) ha') fun h' d out hs hb kp hdd hat => ?_
  obtain ⟨m, hat⟩ := hat
  have h3 : ∀ u ∈ out, ∃ a, u = Value.ref a := fun u hu => e2 u (hb.perm.mem_iff.mp hu)
  have hn : H d = none := I1.hok.fresh hdd
  have hlen : (out.map backV).length ≤ sizeLine := by
    rw [List.length_map, hb.len, ← hl]
    exact hz
  refine ⟨.ref d, upd H d (.lst (out.map backV)), I1.laid (t' := s.toks) kp hdd ⟨hlen, out, m, vals_back h3, hat⟩, rfl, q d _ (same_new hn) hn ⟨d, _, rfl, upd_same, ?_⟩⟩
  have e3 : out.map k = isort lt ks := isort_uniq O (SrtO.srtd_map hs) (by rw [← hks]; exact SrtO.Stb.map O k hb)
  rw [← e3, List.map_map]
  refine ImAll.mono (tp (same_new hn)) _ _ (imAll_of fun u hu => ?_)
  exact at_ u (hb.perm.mem_iff.mp hu)
end
def gSort : List PyData → Option (List PyData) := fun ds => match mapO dP ds with
  | some ps => if lenOk ps.length then some ((isort ltP ps).map pD) else none
  | none => match mapO dN ds with
    | some ns => if lenOk ns.length && (decide (ns.length ≤ 1) || ns.all fun n => !n.isEmpty) then some ((isort ltN ns).map nD) else none
    | none => none
def itemsV : Val → Option (List PyData)
  | .im (.tuple ds) => some ds
  | .ls _ ds => some ds
  | _ => none
def gSorted : List Val → Option Val
  | [x] => (itemsV x).bind fun ds => (gSort ds).map fun r => .ls true r
  | _ => none
section
variable {X : Cx}
def rSrt : List V → Hp → VK → Prop := fun vs H Q => ∃ xs z, VsOk H vs xs ∧ gSorted xs = some z ∧ ∀ v H2, Same H H2 → VOk H2 v z → Fr H v z → Q v H2
theorem items_at {pins : List (Addr × Obj)} {σ : L2.St} {H : Hp} {s : Shared} (I : L2.Inv X pins σ H s) {u : V} {x : Val} {ds : List PyData} (h : VOk H u x) (e : itemsV x = some ds) :
    ∃ a T o its n xs, u = .ref a ∧ (T = "list" ∨ T = "tuple") ∧ s.heap.get? a = some o ∧ o.cls = .type T ∧ o.data = .seq its n ∧ Vals xs its.toList ∧ ImAll H xs ds ∧ xs.length ≤ sizeLine := by
  unfold itemsV at e
  split at e
  · cases e
    obtain ⟨a, xs, e, ha, im⟩ := Im.tupInv h
    obtain ⟨hz, its, rv, o, ho, hc, n, hd⟩ := I.hok a _ ha
    exact ⟨a, "tuple", o, _, n, xs, e, .inr rfl, ho, hc, hd, by simpa using rv, im, hz⟩
  · cases e
    obtain ⟨a, xs, e, ha, im⟩ := h
    obtain ⟨hz, its, n, rv, ho⟩ := I.hok a _ ha
    exact ⟨a, "list", _, _, n, xs, e, .inl rfl, ho, rfl, rfl, by simpa using rv, im, hz⟩
  · cases e
theorem ha_list {h : Heap} {a : Addr} {its : List Value} (ha : h.get? a = some (PyProof.Rows.seqObj "list" its.toArray 0)) : ∀ o, h.get? a = some o → o.cls ≠ .type "tuple" := fun o e => by
  have e' := e.symm.trans ha
  cases e'
  intro c
  exact absurd (Value.type.inj c) (by decide)
theorem cr_srt (hu : X.A.units + 100 < cLine) : CallR X (.builtin "sorted") rSrt := by
  intro pins s σ H vs us Q I r h
  obtain ⟨xs, z, hv, e, q⟩ := h
  unfold gSorted at e
  split at e
  · rename_i x
    obtain ⟨u, eu, vu⟩ := vs1 hv
    subst eu
    obtain ⟨ds, ed, e⟩ := bindS e
    obtain ⟨rr, er, e⟩ := mapS e
    subst e
    obtain ⟨w, rfl, rw'⟩ := vals1 r
    obtain ⟨a, T, o, its, n, ys, eu, hT, ho, hc, hd, rv, im, hz⟩ := items_at I vu ed
    subst eu
    obtain rfl : w = Value.ref a := rw'
    have fin : ∀ p H', Same H H' → H p = none → VOk H' (.ref p) (.ls true rr) → Q (.ref p) H' := fun p H' s1 hp v => q _ H' s1 v fun l e => by cases e; exact hp
    unfold gSort at er
    split at er
    · rename_i ps hps
      obtain ⟨hl, er⟩ := ifS er
      subst er
      have e2 := mapO_inv (fun _ _ => dP_some) hps
      subst e2
      refine sorted_run (k := pk s.heap) (dK := pD) swoP (fun x => ⟨_, rfl⟩) hT I ho hc hd rv im hz (fun v u x i r => pk_eq (im_pair I i r)) (fun h2 s' h₁ a' kk ha' => ?_) fin
      refine SrtO.pairs_sortableO (s := { s' with heap := h₁ }) (by omega) (fun v hm => ?_) (ha_list ha')
      obtain ⟨e1, e2⟩ := refs_back rv (im_refs (fun x => ⟨_, rfl⟩) im)
      obtain ⟨t, e⟩ := e2 v hm
      have hm' : V.ref t ∈ ys := by
        rw [e1]
        exact List.mem_map.mpr ⟨v, hm, by rw [e]; rfl⟩
      obtain ⟨x, _, ix⟩ := im_at im _ hm'
      have hp := im_pair I ix (show RelV (V.ref t) v by rw [e]; rfl)
      rw [pk_eq hp]
      exact hp.keeps fun b o e _ => kk b o e
    · split at er
      · rename_i ns hns
        obtain ⟨hl, er⟩ := ifS er
        subst er
        have e2 := mapO_inv (fun _ _ => dN_some) hns
        subst e2
        simp only [Bool.and_eq_true, Bool.or_eq_true, decide_eq_true_eq, List.all_eq_true] at hl
        refine sorted_run (k := nk s.heap) (dK := nD) swoN (fun x => ⟨_, rfl⟩) hT I ho hc hd rv im hz (fun v u x i r => nk_eq (im_nd I i r)) (fun h2 s' h₁ a' kk ha' => ?_) fin
        have at_ : ∀ v ∈ its.toList, ∃ x ∈ ns, IsNd s.heap v x := fun v hm => by
          obtain ⟨e1, e2⟩ := refs_back rv (im_refs (fun x => ⟨_, rfl⟩) im)
          obtain ⟨t, e⟩ := e2 v hm
          have hm' : V.ref t ∈ ys := by
            rw [e1]
            exact List.mem_map.mpr ⟨v, hm, by rw [e]; rfl⟩
          obtain ⟨x, hx, ix⟩ := im_at im _ hm'
          exact ⟨x, hx, im_nd I ix (show RelV (V.ref t) v by rw [e]; rfl)⟩
        refine nds_sortable (s := { s' with heap := h₁ }) (by omega) (fun v hm => ?_) (fun v hm => ?_) (ha_list ha') (by show X.A.units + 1 + 1 + 70 < cLine; omega)
        · obtain ⟨x, _, hx⟩ := at_ v hm
          rw [nk_eq hx]
          exact hx.keeps fun b o e _ => kk b o e
        · obtain ⟨x, hm2, hx⟩ := at_ v hm
          rw [nk_eq hx]
          have hlen : its.toList.length = ns.length := by
            have h1 := rv.length
            have h2 := im.len
            rw [List.length_map] at h2
            omega
          rcases hl.2 with z | z
          · omega
          · have := z x hm2
            intro e
            rw [e] at this
            simp at this
      · cases er
  · cases e
theorem srt_D : CallD rSrt gSorted := fun us xs z H Q h e k => ⟨xs, z, h, e, k⟩
theorem d_sorted {a : Expr} {fa : Tas} {p pos : Pos} (hu : X.A.units + 100 < cLine) (hg : Gl X "sorted") (hm : X.mg "sorted" = none) (ha : PA X [a] (tA fa)) (he : starEach [a] X.env = (false, eval a X.env) :: starEach [] X.env := by rfl) : PE X (.Call (.Name "sorted" p) [a] [] pos) (tD (eCall gSorted fa)) := d_callB (pe_callB (cr_srt hu) hg hm (by decide +kernel) ha (he := he)) srt_D
end
end Ai
set_option Elab.async false
set_option linter.all false
set_option maxRecDepth 100000
set_option maxHeartbeats 4000000
/-! Ai, part I: sorted by key=len. -/
namespace Ai
open PySem L2
mutual
theorem Im.uniq {H : Hp} : ∀ (d : PyData) (v : V) (e : PyData), Im H v d → Im H v e → d = e
  | .none, _, _, h, h' => by cases h; cases h'; rfl
  | .bool _, _, _, h, h' => by cases h; cases h'; rfl
  | .int _, _, _, h, h' => by cases h; cases h'; rfl
  | .str _, _, _, h, h' => by cases h; cases h'; rfl
  | .tuple ds, _, _, h, h' => by
    cases h with
    | tup e q =>
      cases h' with
      | tup e' q' =>
        rw [e] at e'
        cases e'
        rw [ImAll.uniq ds _ _ q q']
  | .list _, _, _, h, _ => by cases h
  | .dict _, _, _, h, _ => by cases h
theorem ImAll.uniq {H : Hp} : ∀ (ds : List PyData) (vs : List V) (es : List PyData), ImAll H vs ds → ImAll H vs es → ds = es
  | [], _, _, h, h' => by cases h; cases h'; rfl
  | d :: ds, _, _, h, h' => by
    cases h with
    | cons a b =>
      cases h' with
      | cons a' b' => rw [Im.uniq d _ _ a a', ImAll.uniq ds _ _ b b']
end
def lenD : PyData → Nat
  | .tuple ds => ds.length
  | _ => 0
def isT : PyData → Bool
  | .tuple _ => true
  | _ => false
theorem isT_some {d : PyData} (h : isT d = true) : ∃ ds, d = .tuple ds := by
  cases d <;> first | exact ⟨_, rfl⟩ | cases h
def ltL : PyData → PyData → Bool := fun a b => decide (lenD a < lenD b)
theorem swoL : SrtO.Swo ltL := ⟨fun x y h => by unfold ltL at *; simp at *; omega, fun x y z h1 h2 => by unfold ltL at *; simp at *; omega⟩
open Classical in
/-- the data that a value is -/
noncomputable def kd (H : Hp) (u : Value) : PyData := if h : ∃ d, Im H (backV u) d then Classical.choose h else .none
theorem kd_eq {H : Hp} {u : Value} {d : PyData} (h : Im H (backV u) d) : kd H u = d := by
  unfold kd
  have hx : ∃ d, Im H (backV u) d := ⟨d, h⟩
  rw [dif_pos hx]
  exact Im.uniq _ _ _ (Classical.choose_spec hx) h
section
variable {X : Cx} {pins : List (Addr × Obj)} {σ : L2.St} {H : Hp} {s : Shared}
theorem laidL {h' : Heap} {d : Addr} {o : HO} {t' : Nat} (I : L2.Inv X pins σ H s) (k : ∀ b u, b ≠ X.env.locals → s.heap.get? b = some u → h'.get? b = some u) (ns : ∀ m, s.heap.Ns X.env.locals m → h'.Ns X.env.locals m) (hd : s.heap.get? d = none) (hn : H d = none)
    (new : ObjOk X.prog X.w (upd H d o) h' d o) : L2.Inv X pins σ (upd H d o) { s with heap := h', toks := t' } := by
  have nd : ∀ b u, s.heap.get? b = some u → b ≠ d := fun b u e z => by rw [z, hd] at e; cases e
  refine I.step (g' := s.gens) (d' := s.drawn) (ch := []) (fun _ z => nomatch z) (fun b o h1 _ _ e _ => k b o h1 e) (fun b o h1 _ _ e _ => ⟨o.slots, k b o h1 e⟩) (fun b o _ e n => by rw [upd_ne (nd b o e)]; exact n) (fun b o _ e => ?_)
    (fun b xs e => by rw [upd_ne (ne_of_none e hn)]; exact e) (fun b o u e => by rw [upd_ne (ne_of_none e hn)]; exact e) (fun b ps e => ⟨#[], by rw [upd_ne (ne_of_none e hn), e]; simp⟩) ns (fun b u e => ?_) I.bare
  · by_cases hb : b = X.env.locals
    · obtain ⟨m, hm, _⟩ := I.loc
      obtain ⟨o', _, _, ho', _⟩ := ns m hm
      exact ⟨o', by rw [hb]; exact ho'⟩
    · exact ⟨o, k b o hb e⟩
  · by_cases hb : b = d
    · subst hb; rw [upd_same] at e; cases e; exact new
    · rw [upd_ne hb] at e
      refine (I.hok b u e).stay (fun c v hc q => k c v (fun z => ?_) q) (fun c q => by rw [upd_ne (ne_of_none q hn)]; exact q) fun c xs q => by rw [upd_ne (ne_of_none q hn)]; exact q
      rcases hc with hc | hc
      · rw [← hc, z, I.free] at e; cases e
      · rw [z, I.free] at hc; cases hc
theorem im_refT {H : Hp} : ∀ {ds : List PyData} {xs : List V}, ImAll H xs ds → (∀ d ∈ ds, ∃ es, d = .tuple es) → ∀ x ∈ xs, ∃ a, x = V.ref a
  | [], _, h, _, x, m => by cases h; cases m
  | d :: ds, _, h, hds, x, m => by
    cases h with
    | cons h1 h2 =>
      rcases List.mem_cons.mp m with e | m
      · obtain ⟨es, e2⟩ := hds d (List.mem_cons_self ..)
        rw [e2] at h1
        obtain ⟨a, xs, e3, _⟩ := Im.tupInv h1
        exact ⟨a, e.trans e3⟩
      · exact im_refT h2 (fun d hd => hds d (List.mem_cons_of_mem _ hd)) x m
theorem kd_map {H : Hp} : ∀ {us : List Value} {ds : List PyData}, ImAll H (us.map backV) ds → us.map (kd H) = ds
  | [], _, h => by cases h; rfl
  | u :: us, _, h => by
    cases h with
    | cons h1 h2 => rw [List.map_cons, kd_eq h1, kd_map h2]
theorem kw_eq : ∀ (us : List Value) (k : Value → Int), (us.map k).zip us = us.map fun u => (k u, u)
  | [], _ => rfl
  | u :: us, k => by simp only [List.map_cons, List.zip_cons_cons, kw_eq us k]
theorem sorted_len {a : Addr} {T : String} {o : Obj} {its : Array Value} {n : Nat} {xs : List V} {ds : List PyData} {Q : VK}
    (hT : T = "list" ∨ T = "tuple") (I : L2.Inv X pins σ H s) (ho : s.heap.get? a = some o) (hc : o.cls = .type T) (hdt : o.data = .seq its n) (rv : Vals xs its.toList) (im : ImAll H xs ds) (ht : ds.all isT = true) (hz : xs.length ≤ sizeLine)
    (q : ∀ p H', Same H H' → H p = none → VOk H' (.ref p) (.ls true (isort ltL ds)) → Q (.ref p) H') :
    wpAny (model X.prog X.w) X.A (call (.builtin "sorted") [.ref a] [(Str.ofString "key", .builtin "len")]) (EP X pins σ Q) X.xe s := by
  have hl := rv.length
  refine PyProof.Rows.call_function_entry_kw PyProof.Rows.kind_sorted PyProof.Rows.plain_sorted PyProof.Rows.entry_sorted (PyProof.Rows.ksk_s1 _ _) ?_
  unfold Builtin.«sorted»
  refine wpAny_bind (m := checkCount "sorted" 1 1 _) (wpAny_pure ?_)
  refine wpAny_bind (wpAny_collect_seq a hT ho hc hdt (fun h1 k1 => ?_) (by rw [← Array.length_toList, ← hl]; exact hz))
  have I1 : L2.Inv X pins σ H { s with heap := h1 } := I.kept (t' := s.toks) k1
  have hds : ∀ d ∈ ds, ∃ es, d = .tuple es := fun d hd => isT_some (List.all_eq_true.mp ht d hd)
  have href := im_refT im hds
  obtain ⟨e1, e2⟩ := refs_back rv href
  have hmap : its.toList.map (kd H) = ds := kd_map (by rw [← e1]; exact im)
  have at_ : ∀ u ∈ its.toList, ∃ es, kd H u = .tuple es ∧ Im H (backV u) (.tuple es) := fun u hu => by
    have hk : kd H u ∈ ds := by rw [← hmap]; exact List.mem_map.mpr ⟨u, hu, rfl⟩
    obtain ⟨es, he⟩ := hds _ hk
    refine ⟨es, he, ?_⟩
    by_cases hx : ∃ d, Im H (backV u) d
    · obtain ⟨d, hd⟩ := hx
      rw [kd_eq hd] at he
      rw [← he]
      exact hd
    · unfold kd at he
      rw [dif_neg hx] at he
      cases he
  -- the tuple that stands at a value
  have tup_ : ∀ u ∈ its.toList, ∃ c ob vs nn, u = Value.ref c ∧ h1.get? c = some ob ∧ ob.cls = .type "tuple" ∧ ob.data = .seq vs nn ∧ vs.size = lenD (kd H u) ∧ H c ≠ none ∧ vs.size ≤ sizeLine := fun u hu => by
    obtain ⟨es, he, hi⟩ := at_ u hu
    obtain ⟨c, e⟩ := e2 u hu
    subst e
    obtain ⟨c', ys, e3, hc', im'⟩ := Im.tupInv hi
    cases e3
    obtain ⟨hz', its', rv', ob, hob, hcl, m, hdd⟩ := I1.hok _ _ hc'
    refine ⟨_, ob, _, m, rfl, hob, hcl, hdd, ?_, by rw [hc']; simp, ?_⟩
    · rw [he]
      show _ = es.length
      rw [← im'.len, rv'.length]
      simp
    · rw [List.size_toArray, ← rv'.length]
      exact hz'
  obtain ⟨m, F⟩ := I1.fr
  have hs2 : its.toList.length ≤ sizeLine := by rw [← hl]; exact hz
  refine wpAny_bind (wpAny_newList ?_ hs2)
  have hoL : (h1.push (PyProof.Rows.seqObj "list" its.toList.toArray 0)).get? h1.objs.size = some (PyProof.Rows.seqObj "list" its.toList.toArray 0) := Heap.get?_push_size _ rfl
  show wpAny _ _ _ _ _ { s with heap := h1.push (PyProof.Rows.seqObj "list" its.toList.toArray 0) }
  refine wpAny_bind (wpAny_holding (PyProof.Rows.wpAny_call_entry_kw PyProof.Rows.slot_list_sort ⟨_, hoL, rfl⟩ PyProof.Rows.entry_list_sort ?_ (PyProof.Rows.ksk_l1 _ _)))
  rw [PyProof.Rows.ksk_t4]
  have hLlt : X.env.locals < h1.objs.size := F.ns.lt
  refine PyProof.Rows.ksk_sortSt (s := { s with heap := h1.push (PyProof.Rows.seqObj "list" its.toList.toArray 0) }) (h₀ := X.base) (L := X.env.locals) (m := m) (news := allNews X.base h1 X.env.locals) (kz := its.toList.map fun u => ((lenD (kd H u) : Nat) : Int)) (F.push _) (fun p hp => ?_) hoL (Nat.ne_of_gt hLlt) ?_ (fun p hp => ?_) (by rw [List.length_map]) hs2 (fun i v k hv hk h tk own F' N' => ?_) fun h' tk out c F' N' ko => ?_
  · exact ⟨Heap.get?_push_of_some _ (news_all p hp).1, (news_all p hp).2⟩
  · exact Heap.get?_none_of_le (Nat.le_trans F.above (Nat.le_of_lt hLlt))
  · exact Nat.ne_of_lt (Heap.lt_size (news_all p hp).1)
  · have hv' : v ∈ its.toList := List.mem_of_getElem? hv
    rw [List.getElem?_map, hv] at hk
    cases hk
    obtain ⟨c, ob, vs, nn, e, hob, hcl, hdd, hsz, hne, hle⟩ := tup_ v hv'
    subst e
    have hcL : c ≠ X.env.locals := fun z => hne (by rw [z]; exact I1.free)
    have hcb : X.base.get? c = none := by
      cases e : X.base.get? c with
      | none => rfl
      | some o' => exact absurd ((I1.bs c o' e).2) hne
    have hin := (N' (c, ob) (List.mem_append_left _ (mem_allNews hcL hcb hob))).1
    have h63 := line63
    refine PyProof.Rows.len_tuple (items := vs) ⟨ob, hin, hcl, nn, hdd⟩ (by omega) ?_
    rw [hsz]
    exact PyProof.Rows.KskEnd.intro F' N' fun p hp => hp
  · refine ⟨_, rfl, wpAny_pure ⟨_, rfl, ?_⟩⟩
    obtain ⟨ps, hp, eo, hsrt, hst⟩ := ko
    rw [kw_eq] at hp hst
    have hps : ∀ p ∈ ps, p.1 = ((lenD (kd H p.2) : Nat) : Int) ∧ p.2 ∈ its.toList := fun p hm => by
      obtain ⟨u, hu, e⟩ := List.mem_map.mp (hp.mem_iff.mp hm)
      rw [← e]
      exact ⟨rfl, hu⟩
    have pm : out.toList.Perm its.toList := by
      rw [eo]
      have := hp.map Prod.snd
      rw [List.map_map] at this
      have e0 : List.map (Prod.snd ∘ fun u => (((lenD (kd H u) : Nat) : Int), u)) its.toList = its.toList := by
        show List.map (fun u => u) its.toList = _
        rw [List.map_id']
      rw [e0] at this
      exact this
    have srt : SrtO.Srtd (fun v u => ltL (kd H v) (kd H u)) out.toList := by
      rw [eo]
      refine List.pairwise_map.mpr (hsrt.imp_of_mem fun {p q} h1 h2 h3 => ?_)
      rw [if_neg (by simp)] at h3
      rw [(hps p h1).1, (hps q h2).1] at h3
      show ltL (kd H q.2) (kd H p.2) = false
      unfold ltL
      simp
      omega
    have stb : SrtO.Stb (fun v u => ltL (kd H v) (kd H u)) out.toList its.toList := ⟨pm, fun x => by
      have hx : ∀ y, SrtO.eqv (fun v u => ltL (kd H v) (kd H u)) x y = (((lenD (kd H y) : Nat) : Int) == ((lenD (kd H x) : Nat) : Int)) := fun y => by
        unfold SrtO.eqv ltL
        by_cases h1 : lenD (kd H x) = lenD (kd H y)
        · simp [h1]
        · have : ¬ ((lenD (kd H y) : Nat) : Int) = ((lenD (kd H x) : Nat) : Int) := by omega
          have e0 : (((lenD (kd H y) : Nat) : Int) == ((lenD (kd H x) : Nat) : Int)) = false := by simpa using this
          rw [e0]
          simp
          omega
      rw [eo, List.filter_map]
      have e3 : (ps.filter ((SrtO.eqv (fun v u => ltL (kd H v) (kd H u)) x) ∘ Prod.snd)) = ps.filter fun p => p.1 == ((lenD (kd H x) : Nat) : Int) := by
        refine List.filter_congr fun p hm => ?_
        show SrtO.eqv _ x p.2 = _
        rw [hx p.2, (hps p hm).1]
      rw [e3, hst, List.filter_map, List.map_map]
      have e4 : its.toList.filter ((fun p : Int × Value => p.1 == ((lenD (kd H x) : Nat) : Int)) ∘ fun u => (((lenD (kd H u) : Nat) : Int), u)) = its.toList.filter (SrtO.eqv (fun v u => ltL (kd H v) (kd H u)) x) := List.filter_congr fun y _ => (hx y).symm
      rw [e4]
      show List.map (fun u => u) _ = _
      rw [List.map_id']⟩
    have e5 : out.toList.map (kd H) = isort ltL ds := isort_uniq swoL (SrtO.srtd_map srt) (by rw [← hmap]; exact SrtO.Stb.map swoL (kd H) stb)
    have hat := (N' (_, _) (List.mem_cons_self ..)).1
    have hn : H h1.objs.size = none := I1.hok.fresh (Nat.le_refl _)
    have h3 : ∀ u ∈ out.toList, ∃ a, u = Value.ref a := fun u hu => e2 u (pm.mem_iff.mp hu)
    have hlen : (out.toList.map backV).length ≤ sizeLine := by
      rw [List.length_map, pm.length_eq]
      exact hs2
    refine ⟨.ref h1.objs.size, upd H h1.objs.size (.lst (out.toList.map backV)), laidL (s := { s with heap := h1 }) (h' := h') (d := h1.objs.size) (t' := tk) I1 (fun b u hb e => ?_) (fun m' hm => ?_) (Heap.get?_none_of_le (Nat.le_refl _)) hn ⟨hlen, out.toList, c, vals_back h3, by rw [Array.toArray_toList]; exact hat⟩, rfl, q _ _ (same_new hn) hn ⟨_, _, rfl, upd_same, ?_⟩⟩
    · cases e' : X.base.get? b with
      | some o' =>
        have := I1.bk b o' e'
        rw [e] at this
        cases this
        exact F'.keep b u e'
      | none => exact (N' (b, u) (List.mem_cons_of_mem _ (mem_allNews hb e' e))).1
    · rw [SlX.ns_only hm F.ns]
      exact F'.ns
    · rw [← e5]
      refine ImAll.mono (tp (same_new hn)) _ _ (imAll_of fun u hu => ?_)
      obtain ⟨es, he, hi⟩ := at_ u (pm.mem_iff.mp hu)
      rw [he]
      exact hi
end
def gSortL : List Val → Option Val
  | [x] => (itemsV x).bind fun ds => if ds.all isT then some (.ls true (isort ltL ds)) else none
  | _ => none
section
variable {X : Cx}
theorem d_sortedL {a : Expr} {fa : Tas} {p p2 kp pos : Pos} (hg : Gl X "sorted") (hm : X.mg "sorted" = none) (hg2 : Gl X "len") (hm2 : X.mg "len" = none) (ha : PA X [a] (tA fa)) (he : backTo pos (starEach [a] X.env) = (false, eval a X.env) :: backTo pos (starEach [] X.env) := by rfl) (hpl : (backTo pos (starEach [a] X.env)).any (·.1) = false := by rfl) :
    PE X (.Call (.Name "sorted" p) [a] [⟨some "key", .Name "len" p2, kp⟩] pos) (tD (eCall gSortL fa)) := by
  refine ⟨fun pins s σ H Q I h => ?_⟩
  obtain ⟨H0, ρ, z, E, e, k⟩ := h
  obtain ⟨xs, exs, e⟩ := bindS e
  refine wpAny_Call_Name_kw (ld_blt I hg hm (u := .builtin "sorted") (by decide +kernel) ?_)
  refine PyProof.Rows.callWith_kw (thn (ha.run pos pins s σ H _ I ⟨H0, ρ, xs, E, exs, fun us H1 s1 v1 => (⟨s1, v1⟩ : Same H H1 ∧ VsOk H1 us xs)⟩) fun us s1 ⟨vs, H1, I1, r1, q1⟩ => ?_) he hpl
  refine wpAny_evalAll_cons (wpAny_bind (ld_blt I1 hg2 hm2 (u := .builtin "len") (by decide +kernel) (wpAny_bind (wpAny_standAt (wpAny_pure (wpAny_evalAll_nil ?_))))))
  obtain ⟨ss, v1⟩ := q1
  unfold gSortL at e
  split at e
  · rename_i x
    obtain ⟨u, eu, vu⟩ := vs1 v1
    subst eu
    obtain ⟨ds, ed, e⟩ := bindS e
    obtain ⟨ht, e⟩ := ifS e
    subst e
    obtain ⟨w, rfl, rw'⟩ := vals1 r1
    obtain ⟨c, T, o, its, n, ys, eu, hT, ho, hc, hd, rv, im, hz⟩ := items_at I1 vu ed
    subst eu
    obtain rfl : w = Value.ref c := rw'
    exact sorted_len hT I1 ho hc hd rv im ht hz fun p H' s2 hp v => k _ H' (ss.trans s2) v fun l e => by cases e; exact ss.free hp
  · cases e
end
end Ai
set_option Elab.async false
set_option linter.all false
set_option maxRecDepth 100000
set_option maxHeartbeats 4000000
/-! Ai, part J: sorted(set(a tuple of places)). -/
namespace Ai
section
open PySem PySem.Spec PyProof.Rows L2
/-- what set() makes first, and the heap behind that -/
abbrev setO (w : World) : Obj := { cls := .type "set", data := .set #[] 0 (.fresh 0 0 (!w.params.followText "set-order")) }
abbrev hS (w : World) (h : Heap) : Heap := h.push (setO w)
theorem at_ids {us : Array Value} {ks : List (Addr × List Int)} (e : us.toList = ks.map fun q => Value.ref q.1) (i : Nat) (v : Value) (hv : us[i]? = some v) : ∃ q, ks[i]? = some q ∧ v = .ref q.1 := by
  rw [← Array.getElem?_toList, e, List.getElem?_map] at hv
  obtain ⟨q, h1, h2⟩ := mapS hv
  exact ⟨q, h1, h2.symm⟩
theorem past_end {h : Heap} {b : Addr} (hb : h.objs.size ≤ b) : h.get? b = none := by
  cases q : h.get? b with
  | none => rfl
  | some o =>
    have := Heap.lt_size q
    exact absurd this (Nat.not_lt.mpr hb)
variable {P : Program} {w : World} {A : Around} {E : Value → Shared → Prop} {s : Shared} {us : Array Value} {a : Addr}
/-- what is known of the set in the end -/
def SetEnd (P : Program) (w : World) (s : Shared) (ks : List (Addr × List Int)) (out : Shared) : Prop :=
  ∃ g k L es ep t, out = { s with heap := g, toks := k } ∧ SetTR P w g s.heap.objs.size L es ep t ∧ Got ks ks.length L ∧ ∀ b o, s.heap.get? b = some o → g.get? b = some o
theorem call_set_tupT (ks : List (Addr × List Int)) {Q : Value → Shared → Prop} (quiet : A.handled = none) (tup : s.heap.IsTuple a us) (ids : us.toList = ks.map fun q => Value.ref q.1)
    (good : ∀ q ∈ ks, IsT P w s.heap q.2 q.1) (few : ks.length < 64) (room : A.units + 3 < cLine) (fin : ∀ out, SetEnd P w s ks out → Q (.ref s.heap.objs.size) out) : wpAny (model P w) A (call (.type "set") [.ref a]) Q E s := by
  have many : us.size = ks.length := by rw [← Array.length_toList, ids, List.length_map]
  have fc := F.called_set
  obtain ⟨_, _, f0⟩ := fc.mro
  have f1 := fc.made; have f2 := fc.sub; have f3 := fc.notType
  have f4 := fc.canCreate; have f5 := F.typeCall_set_1 (.ref a)
  apply wpAny_call
  apply codeAny_of_tree
  change wpAny _ _ (callAny (.type "set") ⟨[.ref a], []⟩) _ _ s
  apply wpAny_pure
  refine ⟨Code.quiet_builtin _ (by decide +kernel), codeAny_builtin F.entry_type_call (?_ : wpAny _ _ _ _ _ _)⟩
  rw [Around.under_plain (weight_type_call_type "set" [.ref a] []) rfl]
  repeat any_goals first | assumption | wp_step
  -- the empty set
  refine codeAny_mono (code_set_led1 (.ref a) (E := E) (Q₁ := fun v z => v = .ref s.heap.objs.size ∧ z = { s with heap := hS w s.heap }) ⟨rfl, rfl⟩) ?_
  rintro (e | fl) z hz
  · exact hz
  cases fl
  case ret v =>
    obtain ⟨rfl, rfl⟩ := hz
    have there : (hS w s.heap).get? s.heap.objs.size = some (setO w) := Heap.get?_push_size _ rfl
    have kind : Shared.TypeIs { s with heap := hS w s.heap } (.ref s.heap.objs.size) "set" := ⟨_, there, rfl⟩
    have g1 := fc.init.lookup; have g2 := fc.init.bind (.ref s.heap.objs.size)
    repeat any_goals first | assumption | wp_step
    -- what is put into it
    refine codeAny_mono (codeAny_call_builtin (R := wants (fun v z => v = .none ∧ SetEnd P w s ks z) E) fc.init.plain F.entry_set_init (check_set_init_1 kind ?_)) ?_
    · have tup1 : (hS w s.heap).IsTuple a us := tup.push _
      obtain ⟨⟨c, dc, dt, sl⟩, ho, hc, n, hd⟩ := tup
      cases (show c = _ from hc)
      cases (show dt = _ from hd)
      have ho1 := Heap.get?_push_of_some (setO w) ho
      have below := Heap.lt_size ho
      have p1 := F.sub_tuple_set; have p2 := F.sub_tuple_frozenset
      have p3 : (Value.type "tuple" == .type "dict") = false := by decide
      unfold Builtin.«set.__init__» noKeywords Builtin.Frozenset.updateFrom
      generalize hgo : pyIter = go
      wp_walk
      subst hgo
      apply wpAny_pyIter_tuple tup1
      apply wpAny_bind
      apply wpAny_runValue
      have len1 : (hS w s.heap).objs.size = s.heap.objs.size + 1 := Heap.size_push ..
      have quiet3 : A.in1.in1.in1.handled = none := by simp [quiet]
      have apart : s.heap.objs.size ∉ [(hS w s.heap).objs.size, a] := by
        rw [len1]
        intro z
        rcases List.mem_cons.mp z with e | e
        · exact absurd e (Nat.ne_of_lt (Nat.lt_succ_self _))
        · exact absurd (List.mem_singleton.mp e) (Nat.ne_of_gt below)
      refine set_update_tups ((Walks.tuple quiet3 _ a (Nat.ne_of_lt (by rw [len1]; exact Nat.lt_succ_of_lt below)) us).toS) s.heap.objs.size apart ks many few (at_ids ids) s.heap good (past_end (Nat.le_refl _)) (fun b hb => past_end ?_) room (us.size - 0) 0 _ (by omega) (Nat.zero_le _)
        ⟨⟨_, Heap.get?_push_size _ rfl, rfl, rfl⟩, tup1.push _⟩ (fun b o q => Heap.get?_push_of_some _ (Heap.get?_push_of_some _ q)) ⟨[], #[], 0, _, setTR_fresh (Heap.get?_push_of_some _ there), Got.zero ks⟩ ?_
      · rw [List.mem_singleton.mp hb, len1]
        omega
      · rintro ⟨g, y, d, k, os⟩ L es ep t mv r1 r2 r3
        cases (show y = _ from mv.gens)
        cases (show d = _ from mv.drawn)
        cases (show os = _ from mv.os)
        change wpAny _ _ (pure _ >>= _) _ _ _
        apply wpAny_bind
        apply wpAny_pure
        apply wpAny_pure
        refine (?_ : wpAny _ _ (ret .none) _ _ _)
        exact wpAny_pure ⟨rfl, g, k, L, es, ep, t, rfl, r1, many ▸ r2, r3⟩
    · rintro (e | fl) z hz
      · exact hz
      cases fl
      case ret v =>
        obtain ⟨rfl, hz⟩ := hz
        have end1 := fin z hz
        repeat any_goals first | assumption | wp_step
      all_goals exact hz.elim
  all_goals exact hz.elim
end
open PySem L2
/-! ### the places, each once -/
def ddp {α : Type} [DecidableEq α] : List α → List α
  | [] => []
  | p :: l => if p ∈ l then ddp l else p :: ddp l
theorem mem_ddp {α : Type} [DecidableEq α] {x : α} : ∀ {l : List α}, x ∈ ddp l ↔ x ∈ l
  | [] => Iff.rfl
  | p :: l => by
    unfold ddp
    split
    · rename_i h
      rw [mem_ddp, List.mem_cons]
      exact ⟨.inr, fun z => z.elim (fun e => e ▸ h) id⟩
    · rw [List.mem_cons, List.mem_cons, mem_ddp]
theorem nodup_ddp {α : Type} [DecidableEq α] : ∀ l : List α, (ddp l).Nodup
  | [] => List.nodup_nil
  | p :: l => by
    unfold ddp
    split
    · exact nodup_ddp l
    · rename_i h
      exact List.nodup_cons.mpr ⟨fun z => h (mem_ddp.mp z), nodup_ddp l⟩
theorem ltP_eqv {x y : Pl} : SrtO.eqv ltP x y = true ↔ y = x := by
  rw [SrtO.eqv_iff, SrtO.lexB_no, SrtO.lexB_no]
  constructor
  · intro h
    refine Prod.ext ?_ ?_ <;> omega
  · intro h
    subst h
    omega
theorem filt_rep {l : List Pl} {x : Pl} : l.filter (SrtO.eqv ltP x) = List.replicate (l.filter (SrtO.eqv ltP x)).length x := by
  rw [List.eq_replicate_iff]
  exact ⟨rfl, fun b hb => ltP_eqv.mp (List.mem_filter.mp hb).2⟩
theorem stb_perm {l m : List Pl} (h : l.Perm m) : SrtO.Stb ltP l m := ⟨h, fun x => by
  rw [filt_rep (l := l), filt_rep (l := m), (h.filter _).length_eq]⟩
theorem isort_of_perm {l m : List Pl} (h1 : SrtO.Srtd ltP m) (h2 : m.Perm l) : m = isort ltP l := isort_uniq swoP h1 (stb_perm h2)
theorem isort_perm_eq {l m : List Pl} (h : l.Perm m) : isort ltP l = isort ltP m := isort_of_perm (isort_srtd swoP l) ((isort_perm l).trans h)
def kP (p : Pl) : List Int := [p.1, p.2]
theorem kP_inj {p q : Pl} (h : kP p = kP q) : p = q := by
  unfold kP at h
  simp only [List.cons.injEq, and_true] at h
  exact Prod.ext h.1 h.2
theorem kP_map (p : Pl) : (kP p).map V.int = [.int p.1, .int p.2] := rfl
theorem im_keys {K : PySem.W.Frag} {H : Hp} : ∀ {ps : List Pl} {xs : List V}, ImAll H xs (ps.map pD) → ∃ ks : List (Addr × Pl), xs = ks.map (fun p => V.ref p.1) ∧ (∀ p ∈ ks, H p.1 = some (.tup ((kP p.2).map V.int))) ∧ ks.map (·.2) = ps
  | [], _, h => by
    cases h
    exact ⟨[], rfl, (fun p hp => absurd hp (List.not_mem_nil)), rfl⟩
  | p :: ps, _, h => by
    cases h with
    | cons h1 h2 =>
      obtain ⟨a, ys, e, ha, im⟩ := Im.tupInv h1
      subst e
      cases im with
      | cons i1 t =>
        cases t with
        | cons i2 t =>
          cases t
          cases (Im.intInv i1)
          cases (Im.intInv i2)
          obtain ⟨ks, e1, e2, e3⟩ := im_keys (K := K) h2
          exact ⟨(a, p) :: ks, by rw [e1]; rfl, fun q hq => by
            rcases List.mem_cons.mp hq with z | z
            · rw [z]; exact ha
            · exact e2 q z, by rw [List.map_cons, e3]⟩
section
variable {X : Cx}
/-- set(t), t a tuple of places -/
def rSetP (P : Program) (w : World) : List V → Hp → VK → Prop := fun xs H Q => ∃ (l : Addr) (ys : List V) (ps : List Pl), xs = [V.ref l] ∧ H l = some (.tup ys) ∧ ImAll H ys (ps.map pD) ∧ ps.length < 64 ∧
  ∀ a (L : List (Addr × List Int)), H a = none → (∀ p ∈ L, ∃ q, q ∈ ps ∧ p.2 = kP q ∧ H p.1 = some (.tup ((kP q).map V.int))) → (∀ q ∈ ps, kP q ∈ L.map (·.2)) → Q (.ref a) (upd H a (SetTO P w a L))
theorem cr_setP (hc : X.calm = true) (hu : X.A.units + 64 < cLine) : CallR X (.type "set") (rSetP X.prog X.w) := by
  intro pins s σ H xs us Q I r h
  obtain ⟨l, ys, ps, rfl, hl, im, hf, q⟩ := h
  rw [Vals.ref1 r]
  obtain ⟨ks, e1, e2, e3⟩ := im_keys (K := X.K) im
  subst e1
  obtain ⟨hz, its, rv, pl⟩ := I.hok l _ hl
  have hn : H s.heap.objs.size = none := I.hok.fresh (Nat.le_refl _)
  have e4 : ks.map (fun p => V.ref p.1) = (ks.map fun p => (p.1, kP p.2)).map fun p => V.ref p.1 := by rw [List.map_map]; rfl
  rw [e4] at rv
  have hk : ∀ p ∈ ks.map (fun p => (p.1, kP p.2)), ∃ q, q ∈ ps ∧ p.2 = kP q ∧ H p.1 = some (.tup ((kP q).map V.int)) := fun p hp => by
    obtain ⟨r, hr, e⟩ := List.mem_map.mp hp
    subst e
    exact ⟨r.2, by rw [← e3]; exact List.mem_map.mpr ⟨r, hr, rfl⟩, rfl, e2 r hr⟩
  refine call_set_tupT (P := X.prog) (w := X.w) (us := its.toArray) (ks.map fun p => (p.1, kP p.2)) (I.ok.hd hc) pl (by simpa using refs_of_vals rv) (fun p hp => ?_) (by rw [List.length_map, ← List.length_map (f := (·.2)) (as := ks), e3]; exact hf) (by omega) fun out ⟨h', tk, L, es, ep, t, eo, R, g, k⟩ => ?_
  · obtain ⟨q, _, e, hh⟩ := hk p hp
    rw [e]
    exact I.isT (SqT.of hh)
  · subst eo
    refine ⟨.ref s.heap.objs.size, upd H s.heap.objs.size (SetTO X.prog X.w s.heap.objs.size L), I.laid (t' := tk) k (Nat.le_refl _) (setTO_new R.t0), rfl, q _ L hn (fun p hp => hk p (List.mem_of_mem_take (g.sub p hp))) fun q hq => ?_⟩
    rw [← e3] at hq
    obtain ⟨r, hr, e⟩ := List.mem_map.mp hq
    rw [← e]
    exact g.all (r.1, kP r.2) (by rw [List.take_length]; exact List.mem_map.mpr ⟨r, hr, rfl⟩)
/-- sorted(s), s a set of places -/
def rSrtSet (P : Program) (w : World) : List V → Hp → VK → Prop := fun xs H Q => ∃ (a : Addr) (L : List (Addr × List Int)) (ps : List Pl), xs = [V.ref a] ∧ H a = some (SetTO P w a L) ∧ (∀ p ∈ L, ∃ q, q ∈ ps ∧ p.2 = kP q ∧ H p.1 = some (.tup ((kP q).map V.int))) ∧ (∀ q ∈ ps, kP q ∈ L.map (·.2)) ∧
  ∀ p H', Same H H' → H p = none → VOk H' (.ref p) (.ls true ((isort ltP (ddp ps)).map pD)) → Q (.ref p) H'
theorem cr_srtSet (hc : X.calm = true) (hu : X.A.units + 100 < cLine) : CallR X (.builtin "sorted") (rSrtSet X.prog X.w) := by
  intro pins s σ H vs us Q I r h
  obtain ⟨a, L, ps, rfl, ha, hk, hall, q⟩ := h
  have R0 : SetT0 X.prog X.w s.heap a L := (I.hok a _ ha).1
  have sq : ∀ p ∈ L, SqT X.K H p.1 (p.2.map V.int) := fun p hp => by
    obtain ⟨r, _, e, hh⟩ := hk p hp
    rw [e]
    exact SqT.of hh
  obtain ⟨es, ep, t, R⟩ := R0.full fun p hp => I.isT (sq p hp)
  rw [Vals.ref1 r]
  obtain ⟨o, ho, hex, hd⟩ := R.ob
  have hsz := R.size
  have hfew := R.few
  refine Calls.call_function_entry PyProof.Rows.kind_sorted PyProof.Rows.plain_sorted PyProof.Rows.entry_sorted (PyProof.Rows.args_sorted1 _) ?_
  unfold Builtin.«sorted»
  refine wpAny_bind (m := checkCount "sorted" 1 1 _) (wpAny_pure ?_)
  refine wpAny_bind (collect_set (A := X.A.in1) (I.ok.hd hc) ⟨o, ho, hex.1, hd⟩ R.fits (by unfold scanBound; omega) R.tab.ris R.led fun s1 vs k1 hz g1 o1 pm => ?_)
  have hes : es.toList.map (·.2) = L.map fun q => Value.ref q.1 := by
    rw [R.rows]
    unfold rowsOf
    rw [List.map_map] <;> rfl
  rw [hes] at pm
  have J0 : L2.Inv X pins σ H { s with heap := s1.heap, gens := s1.gens, drawn := s1.drawn, toks := s1.toks } :=
    I.call (ch := []) (Un.kept k1) (I.hok.kept k1) (by rw [g1]; exact I.bare) (fun _ z => nomatch z)
  have es1 : s1 = { s with heap := s1.heap, gens := s1.gens, drawn := s1.drawn, toks := s1.toks } := by
    cases s1
    cases s
    cases o1
    rfl
  rw [← es1] at J0
  have at_ : ∀ v ∈ vs, ∃ c q, v = Value.ref c ∧ q ∈ ps ∧ H c = some (.tup ((kP q).map V.int)) ∧ (c, kP q) ∈ L := fun v hv => by
    obtain ⟨p, hp, e⟩ := List.mem_map.mp (pm.mem_iff.mp hv)
    obtain ⟨q, hq, e2, hh⟩ := hk p hp
    exact ⟨p.1, q, e.symm, hq, hh, by rw [← e2]; exact hp⟩
  have imP : ∀ {c : Addr} {q : Pl}, H c = some (.tup ((kP q).map V.int)) → Im H (.ref c) (pD q) := fun hh => .tup hh (.cons (.int _) (.cons (.int _) .nil))
  have pkv : ∀ {c : Addr} {q : Pl}, H c = some (.tup ((kP q).map V.int)) → Srt.IsPair s1.heap (.ref c) q.1 q.2 := fun hh => im_pair J0 (imP hh) rfl
  have hvl : vs.length < 64 := by rw [pm.length_eq, List.length_map]; exact hfew
  have hle : vs.length ≤ sizeLine := by rw [sizeLine_eq]; omega
  refine sort_tail (s := s1) (ltv := fun v u => ltP (pk s1.heap v) (pk s1.heap u)) ⟨fun x y h => swoP.asym _ _ h, fun x y z h1 h2 => swoP.tr _ _ _ h1 h2⟩ hle (fun h2 h₁ a' ha' kk => ?_) fun h' d out hs hb kp hdd hat => ?_
  · refine SrtO.pairs_sortableO (s := { s1 with heap := h₁ }) (by omega) (fun v hm => ?_) (ha_list ha')
    obtain ⟨c, q, e, _, hh, _⟩ := at_ v hm
    subst e
    rw [pk_eq (pkv hh)]
    exact (pkv hh).keeps fun b o e _ => (kk b o e).2
  · obtain ⟨m, hat⟩ := hat
    have h3 : ∀ u ∈ out, ∃ a, u = Value.ref a := fun u hu => by
      obtain ⟨c, q, e, _⟩ := at_ u (hb.perm.mem_iff.mp hu)
      exact ⟨c, e⟩
    have hn : H d = none := J0.hok.fresh hdd
    have hlen : (out.map backV).length ≤ sizeLine := by
      rw [List.length_map, hb.len]
      exact hle
    have e3 : out.map (pk s1.heap) = isort ltP (ddp ps) := by
      refine isort_of_perm (SrtO.srtd_map hs) ?_
      refine (hb.perm.map _).trans ?_
      have hp2 := pm.map (pk s1.heap)
      refine hp2.trans ?_
      have hpk : ∀ p ∈ L, kP (pk s1.heap (Value.ref p.1)) = p.2 ∧ pk s1.heap (Value.ref p.1) ∈ ps := fun p hp => by
        obtain ⟨q, hq, e2, hh⟩ := hk p hp
        rw [pk_eq (pkv hh)]
        exact ⟨e2.symm, hq⟩
      refine (List.perm_ext_iff_of_nodup ?_ (nodup_ddp ps)).mpr fun x => ?_
      · rw [List.map_map]
        have nd := R.nd
        rw [List.nodup_iff_pairwise_ne, List.pairwise_map] at nd ⊢
        refine nd.imp_of_mem fun {p q} hp hq hne e => hne ?_
        rw [← (hpk p hp).1, ← (hpk q hq).1]
        exact congrArg kP e
      · rw [List.map_map, mem_ddp]
        constructor
        · intro hx
          obtain ⟨p, hp, e⟩ := List.mem_map.mp hx
          rw [← e]
          exact (hpk p hp).2
        · intro hx
          obtain ⟨p, hp, e⟩ := List.mem_map.mp (hall x hx)
          refine List.mem_map.mpr ⟨p, hp, kP_inj ?_⟩
          rw [← e]
          exact (hpk p hp).1
    refine ⟨.ref d, upd H d (.lst (out.map backV)), (J0.laid (a := d) (o := .lst (out.map backV)) (t' := s1.toks) kp hdd ⟨hlen, out, m, vals_back h3, hat⟩ : L2.Inv X pins σ _ { s1 with heap := h', toks := s1.toks }), rfl, q d _ (same_new hn) hn ⟨d, _, rfl, upd_same, ?_⟩⟩
    rw [← e3, List.map_map]
    refine ImAll.mono (tp (same_new hn)) _ _ (imAll_of fun u hu => ?_)
    obtain ⟨c, q, e, _, hh, _⟩ := at_ u (hb.perm.mem_iff.mp hu)
    subst e
    show Im H (.ref c) (pD (pk s1.heap (.ref c)))
    rw [pk_eq (pkv hh)]
    exact imP hh
def gSortSet : List Val → Option Val
  | [.im (.tuple ds)] => (mapO dP ds).bind fun ps => if decide (ps.length < 64) then some (.ls true ((isort ltP (ddp ps)).map pD)) else none
  | _ => none
theorem d_sortedSet {a : Expr} {fa : Tas} {p p2 p3 pos : Pos} (hc : X.calm = true) (hu : X.A.units + 100 < cLine) (hg : Gl X "sorted") (hm : X.mg "sorted" = none) (hg2 : Gl X "set") (hm2 : X.mg "set" = none) (ha : PA X [a] (tA fa))
    (he : starEach [a] X.env = (false, eval a X.env) :: starEach [] X.env := by rfl) :
    PE X (.Call (.Name "sorted" p) [.Call (.Name "set" p2) [a] [] p3] [] pos) (tD (eCall gSortSet fa)) :=
  (pe_callB (cr_srtSet hc hu) hg hm (by decide +kernel) (pa_cons (pe_callTy (cr_setP hc (by omega)) hg2 hm2 (by decide +kernel) ha (he := he)) pa_nil)).wk fun σ H Q ⟨H0, ρ, z, E, e, k⟩ => by
    obtain ⟨xs, exs, e⟩ := bindS e
    refine ⟨H0, ρ, xs, E, exs, fun us H1 s1 v1 => ?_⟩
    unfold gSortSet at e
    split at e
    · obtain ⟨ps, eps, e⟩ := bindS e
      obtain ⟨hl, e⟩ := ifS e
      subst e
      obtain ⟨u, eu, vu⟩ := vs1 v1
      subst eu
      obtain ⟨t, ys, e1, ht, im⟩ := Im.tupInv vu
      subst e1
      rw [mapO_inv (fun _ _ => dP_some) eps] at im
      refine ⟨t, ys, ps, rfl, ht, im, of_decide_eq_true hl, fun a L ha h1 h2 => ?_⟩
      have s2 : Same H1 (upd H1 a (SetTO X.prog X.w a L)) := same_new ha
      exact ⟨a, L, ps, rfl, upd_same, fun p hp => by
        obtain ⟨q, hq, e, hh⟩ := h1 p hp
        exact ⟨q, hq, e, s2 _ _ hh⟩, h2, fun p H' s3 hp v => k _ H' ((s1.trans s2).trans s3) v fun l e => by cases e; exact (s1.trans s2).free hp⟩
    · cases e
end
end Ai
set_option Elab.async false
set_option linter.all false
set_option maxRecDepth 100000
set_option maxHeartbeats 4000000
/-! Ai, part K: enumerate(a tuple). -/
namespace Ai
open PySem L2
open AutoSeq1 (wpAny_loadPart')
/-- the walker over the tuple at l, the enumerate over the walker, and the heap with both -/
abbrev walkO (l : Addr) : Obj := { cls := .type "tuple_iterator", data := .fields #[.ref l, .int 0 0] }
abbrev enumO (it : Addr) : Obj := { cls := .type "enumerate", data := .fields #[.none, .bool false, .ref it, rawInt 0, .none, .none] }
abbrev hpE (h : Heap) (l : Addr) : Heap := (h.push (walkO l)).push (enumO h.objs.size)
theorem enum_makes (l : Addr) (us : Array Value) (n : Nat) (dc : Option Addr) (sl : Array (Option Value)) :
    Meets (Builtin.«enumerate.__new__» ⟨[.type "enumerate", .ref l], []⟩) (fun _ R s => s.heap.get? l = some ⟨.type "tuple", dc, .seq us n, sl⟩ ∧ R (.ok (.ret (.ref (s.heap.push (walkO l)).objs.size))) { s with heap := hpE s.heap l }) := by
  apply Meets.of_wp
  rintro prog w A R ⟨hp, g, d, tk, os⟩ ⟨found, want⟩
  have sub := sub_enumerate
  have tup : Heap.IsTuple (Shared.heap ⟨hp, g, d, tk, os⟩) l us := ⟨_, found, rfl, n, rfl⟩
  wp_walk using wpAny_loadPart' found
  apply wpAny_stack_any
  intro st
  apply wpAny_pure
  split
  · rename_i c _ _ _ _ _
    cases (c == .type "enumerate") <;> (wp_walk using wpAny_loadPart' found, wpAny_pyIter_tuple tup; exact ⟨_, rfl, want⟩)
  · (wp_walk using wpAny_loadPart' found, wpAny_pyIter_tuple tup; exact ⟨_, rfl, want⟩)
theorem enum_called {prog : Program} {w : World} {A : Around} {E Q : Value → Shared → Prop} {s : Shared} {l : Addr} {us : Array Value} (tup : s.heap.IsTuple l us)
    (fin : ∀ g, IsEnum g (s.heap.objs.size + 1) s.heap.objs.size 0 .none → g.IsTupleIter s.heap.objs.size l 0 → (∀ b o, s.heap.get? b = some o → g.get? b = some o) → Q (.ref (s.heap.objs.size + 1)) { s with heap := g }) : wpAny (model prog w) A (call (.type "enumerate") [.ref l]) Q E s := by
  obtain ⟨⟨c, dc, dt, sl⟩, found, hc, n, hd⟩ := tup
  cases (show c = _ from hc)
  cases (show dt = _ from hd)
  have next : (s.heap.push (walkO l)).objs.size = s.heap.objs.size + 1 := Heap.size_push ..
  have made : IsEnum (hpE s.heap l) (s.heap.objs.size + 1) s.heap.objs.size 0 .none := by
    have top := Heap.get?_push_size (s.heap.push (walkO l)) (o := enumO s.heap.objs.size) rfl
    exact next ▸ top
  apply callType_new F.called_enumerate (by decide) (F.typeCall_enumerate_1 _) (F.newCall_enumerate_1 _) (F.args_object_init_2 · _) F.entry_enumerate_new (enum_makes l us n dc sl)
  refine And.intro found (?_ : And _ _)
  rw [next]
  exact ⟨⟨_, made, rfl⟩, fin _ made ⟨_, Heap.get?_push_of_some _ (Heap.get?_push_size _ rfl), rfl, rfl⟩ fun b o => Heap.get?_push_of_some _ ∘ Heap.get?_push_of_some _⟩
/-- the tuple at a, each item in a new pair -/
def IteT (K : PySem.W.Frag) (a : Addr) : It where
  go i H := ∃ (xs : List V) (x : V), H a = some (.tup xs) ∧ xs[i]? = some x
  yld i H v H' := ∃ T x, v = .ref T ∧ H T = none ∧ H' = upd H T (.tup [.int (i : Nat), x]) ∧ ∀ xs, H a = some (.tup xs) → xs[i]? = some x
  stop i H := ∃ xs : List V, H a = some (.tup xs) ∧ xs.length ≤ i
/-- the enumerate at e over the walker at it, i items on -/
def EnAt (a e it : Addr) (i : Nat) (h : Heap) : Prop := (∃ old, IsEnum h e it ((i : Nat) : Int) old) ∧ h.IsTupleIter it a i ∧ e ≠ it ∧ e ≠ a ∧ a ≠ it
theorem two_of {b e it : Addr} {Q : Addr → Prop} (h : b ∈ [e, it]) (h1 : Q e) (h2 : Q it) : Q b := by
  rcases List.mem_cons.mp h with z | z
  · exact z ▸ h1
  · exact List.mem_singleton.mp z ▸ h2
theorem turn_enumT {P : Program} {w : World} {K : PySem.W.Frag} {elts : List Expr} {kk : Nat} {tpos : Pos} (a e it : Addr) : Turn P w K (.Tuple elts kk tpos) (IteT K a) [e, it] e (EnAt a e it) where
  mem := List.mem_cons_self ..
  obj := by
    rintro i h ⟨⟨old, en⟩, ⟨o, wo, wc, wd⟩, _⟩ b hb
    exact two_of (Q := fun b => ∃ o, h.get? b = some o ∧ ∀ v, o.data ≠ .cell v) hb ⟨_, en, fun v q => nomatch q⟩ ⟨o, wo, fun v q => by rw [wd] at q; cases q⟩
  keep := by
    rintro i h h' ⟨⟨old, en⟩, walk, apart⟩ k
    exact ⟨⟨old, k e (List.mem_cons_self ..) _ en⟩, walk.at fun o q => k it (List.mem_cons_of_mem _ (List.mem_cons_self ..)) o q, apart⟩
  item := by
    rintro X rfl rfl rfl calm i pins s σ H E I free ⟨⟨old, en⟩, walk, d1, d2, d3⟩ ⟨xs, x, stands, isx⟩
    obtain ⟨_, its, rv, tup⟩ := I.hok a _ stands
    obtain ⟨u, isu, ru⟩ := rv.get isx
    have e_old := Heap.lt_size en
    have it_old : it < s.heap.objs.size := walk.elim fun _ q => Heap.lt_size q.1
    have more : i < its.toArray.size := by
      have := List.getElem?_eq_some_iff.mp isu
      exact this.1
    have D := Draws.tuple (prog := X.prog) (w := X.w) (A := X.A.in1) (by simp [I.ok.hd calm]) it a d3 its.toArray
    apply wpAny_pyNext_enum_itemD D en ⟨walk, tup⟩ more d1 (fun z => two_of (Q := fun b => e = b → False) z (fun _ => d1 (by simp_all)) (fun _ => by simp_all) rfl)
    intro v g k isv en2 walk2 pair big same
    have same_v : v = u := Option.some.inj ((by simpa using isv : its[i]? = some v).symm.trans isu)
    subst same_v
    refine ⟨_, rfl, wpAny_letOwnedTupleGo_enum (s := { s with heap := g, toks := k + 1 }) en2 ?_⟩
    intro g2 en3 off
    have pair2 := (off.2 _ (Nat.ne_of_gt e_old)).trans pair
    have fresh : ObjOk X.prog X.w (upd H s.heap.objs.size (.tup [.int (i : Nat), x])) g2 s.heap.objs.size (.tup [.int (i : Nat), x]) := ⟨show 2 ≤ sizeLine by decide, [.int i k, v], .cons ⟨_, rfl⟩ (.cons ru .nil), ⟨_, pair2, rfl, _, rfl⟩⟩
    have J := I.turnedNew (ch := [e, it]) (h' := g2) (t' := k + 1) (fun b o hb q => (off.2 b fun z => hb (by simp [z])).trans (same b o (fun z => hb (by simp [z])) (fun z => hb (by simp [z])) q)) free (Nat.le_refl _) fresh
    refine ⟨.ref s.heap.objs.size, _, J, rfl, ⟨_, x, rfl, I.hok.fresh (Nat.le_refl _), rfl, fun ys hy => ?_⟩, ⟨⟨v, ?_⟩, walk2.1.at fun o q => (off.2 it d1.symm).trans q, d1, d2, d3⟩, fun b hb => ?_⟩
    · cases stands.symm.trans hy
      exact isx
    · rw [Int.natCast_add]
      exact en3
    · rw [upd_ne (two_of (Q := fun b => b ≠ s.heap.objs.size) hb (Nat.ne_of_lt e_old) (Nat.ne_of_lt it_old))]
      exact (free b hb).1
  done := by
    rintro X rfl rfl rfl calm i pins s σ H E I free ⟨⟨old, en⟩, walk, d1, d2, d3⟩ ⟨xs, stands, over⟩
    obtain ⟨_, its, rv, tup⟩ := I.hok a _ stands
    have ⟨f0, f1, f2, f3, f4, f5⟩ := free it (List.mem_cons_of_mem _ (List.mem_cons_self ..))
    have last : its.toArray[i]? = none := by
      have := rv.length
      simp
      omega
    have kind : s.TypeIs (.ref e) "enumerate" := ⟨_, en, rfl⟩
    unfold pyNext
    apply wpAny_bind
    apply wpAny_attempt
    apply wpAny_callSpecial?_slot (name := Str.ofString "__next__") kind F.slot_enumerate_next
    refine wpAny_call_entry F.slot_enumerate_next kind F.entry_enumerate_next (?_ : wpAny _ _ (field (.ref e) 2 >>= _) _ _ _) (F.args_enumerate_next_1 _)
    apply wpAny_bind
    apply wpAny_field en rfl (x := .ref it) rfl
    apply wpAny_bind
    refine wpAny_nextOf_tuple_end (A := X.A.in1) (I.ok.hd calm) walk tup last ?_
    rintro g y en2 ⟨o, ho, hcl⟩
    refine wpAny_bind (wpAny_isInstance (T := "StopIteration") (b := true) ⟨o, ho, hcl⟩ isSubtype_stop (wpAny_pure ?_))
    exact ⟨rfl, I.turned (t' := s.toks) (fun b o hb q => en2 b o hb q) f0 f1 f3 f4 f5⟩
  self := by
    rintro A i s Q E ⟨⟨_, en⟩, _⟩ want
    exact wpAny_pyIter_enum en want
def iEnumT (K : PySem.W.Frag) (ta : TA) : TI := fun σ H R => ta σ H fun vs H1 => ∃ a xs, vs = [.ref a] ∧ H1 a = some (.tup xs) ∧ R (IteT K a) H1
section
variable {X : Cx}
theorem pi_enumT {e : Expr} {ta : TA} {p pos tpos : Pos} {elts : List Expr} {kk : Nat} (gl : Gl X "enumerate") (mine : X.mg "enumerate" = none) (ha : PA X [e] ta) (st : starEach [e] X.env = [(false, eval e X.env)] := by rfl) : PI X (.Tuple elts kk tpos) (.Call (.Name "enumerate" p) [e] [] pos) (iEnumT X.K ta) := by
  constructor
  intro pins s σ H R I ask
  refine PyProof.Rows.Call_ (ld_blt I gl mine (u := .type "enumerate") (by decide +kernel) (PyProof.Rows.callWith_type1 (thn (ha.run pos pins s σ H _ I ask) ?_) st rfl))
  rintro us s1 ⟨vs, H1, J, vals, a, xs, rfl, stands, rest⟩
  cases vals with
  | cons r rr =>
    cases rr
    cases r
    obtain ⟨_, its, _, tup⟩ := J.hok a _ stands
    have below := J.hok.lt stands
    apply enum_called tup
    intro g en walk same
    refine wpAny_pyIter_enum en ⟨s1.heap.objs.size + 1, [s1.heap.objs.size + 1, s1.heap.objs.size], _, _, H1, rfl, J.kept (t' := s1.toks) same, turn_enumT a (s1.heap.objs.size + 1) s1.heap.objs.size, ⟨⟨.none, en⟩, walk, Nat.succ_ne_self _, Nat.ne_of_gt (Nat.lt_succ_of_lt below), Nat.ne_of_lt below⟩, fun b hb => ?_, rest⟩
    have new : s1.heap.objs.size ≤ b := two_of (Q := fun b => s1.heap.objs.size ≤ b) hb (Nat.le_succ _) (Nat.le_refl _)
    exact J.fpOk new (J.hok.fresh new)
def enumD (lo : Int) : List PyData → List PyData
  | [] => []
  | d :: ds => .tuple [.int lo, d] :: enumD (lo + 1) ds
theorem enumD_len : ∀ (ds : List PyData) (lo : Int), (enumD lo ds).length = ds.length
  | [], _ => rfl
  | _ :: ds, lo => by simp only [enumD, List.length_cons, enumD_len ds]
theorem enumD_get : ∀ (ds : List PyData) (lo : Int) (i : Nat) (d : PyData), ds[i]? = some d → (enumD lo ds)[i]? = some (.tuple [.int (lo + (i : Nat)), d])
  | [], _, _, _, h => by simp at h
  | x :: ds, lo, 0, d, h => by
    simp at h
    subst h
    simp [enumD]
  | x :: ds, lo, i + 1, d, h => by
    have := enumD_get ds (lo + 1) i d (by simpa using h)
    simp only [enumD, List.getElem?_cons_succ]
    rw [this]
    congr 4
    omega
theorem itd_enum {K : PySem.W.Frag} {a : Addr} {xs : List V} {ds : List PyData} {B : Hp} (ha : B a = some (.tup xs)) (im : ImAll B xs ds) : ItD (IteT K a) nH B (enumD 0 ds) where
  go := fun i H hi _ t => by
    rw [enumD_len] at hi
    have h1 := t a xs ha
    obtain ⟨d, hd⟩ : ∃ d, ds[i]? = some d := ⟨_, List.getElem?_eq_getElem hi⟩
    obtain ⟨v, hv, iv⟩ := im.get hd
    refine ⟨⟨xs, v, h1, hv⟩, fun x H' y => ?_⟩
    obtain ⟨T, x1, e1, hT, e2, y1⟩ := y
    subst e1 e2
    have hx := y1 xs h1
    rw [hv] at hx
    cases hx
    have s := same_new (o := .tup [.int (i : Nat), v]) hT
    refine ⟨s, _, enumD_get ds 0 i d hd, ?_⟩
    rw [Int.zero_add]
    exact .tup upd_same (.cons (.int _) (.cons (Im.mono (t.trans (tp s)) _ _ iv) .nil))
  stop := fun H _ t => by
    refine ⟨xs, t a xs ha, ?_⟩
    rw [enumD_len, im.len]
    exact Nat.le_refl _
def srcE (a : Tas) : Src := fun ρ => match a ρ with
  | some [.im (.tuple ds)] => some (enumD 0 ds)
  | _ => none
theorem i_enum {tg e : Expr} {a : Tas} (h : PI X tg e (iEnumT X.K (tA a))) : PI X tg e (tI (srcE a)) := h.wk fun σ H R ⟨H0, ρ, ds, E, e, k⟩ => by
  unfold srcE at e
  split at e
  · rename_i hf
    cases e
    refine ⟨H0, ρ, _, E, hf, fun us H1 s1 v1 => ?_⟩
    obtain ⟨u, eu, vu⟩ := vs1 v1
    obtain ⟨p, xs, e1, hp, im⟩ := Im.tupInv vu
    subst e1
    exact ⟨p, xs, eu, hp, k _ nH H1 s1 (itd_enum hp im) fun _ _ z => by cases z⟩
  · cases e
/-! ### a tuple or a list, walked in a comprehension -/
def srcTL (f : Xp) : Src := fun ρ => match f ρ with
  | some (.im (.tuple ds)) => some ds
  | some (.ls _ ds) => some ds
  | _ => none
theorem _root_.L2.PI.either {tg e : Expr} {t1 t2 : TI} (h1 : PI X tg e t1) (h2 : PI X tg e t2) : PI X tg e (fun σ H R => t1 σ H R ∨ t2 σ H R) := ⟨fun pins s σ H R I q => q.elim (h1.run pins s σ H R I) (h2.run pins s σ H R I)⟩
theorem i_tl {tg e : Expr} {f : Xp} (h : PE X e (tD f)) : PI X tg e (tIc (srcTL f)) := (PI.either (pi_tup (tg := tg) h) (pi_list (tg := tg) h)).wk fun σ H R ⟨H0, ρ, ds, E, e, k⟩ => by
  unfold srcTL at e
  split at e
  · rename_i hf
    cases e
    refine .inl ⟨H0, ρ, _, E, hf, fun u H1 s1 v1 _ => ?_⟩
    obtain ⟨a, xs, e1, ha, im⟩ := Im.tupInv v1
    exact ⟨a, e1, ⟨xs, SqT.of ha⟩, k _ nH H1 s1 (itd_tup ha im) fun _ _ z => by cases z⟩
  · rename_i hf
    cases e
    refine .inr ⟨H0, ρ, _, E, hf, fun u H1 s1 v1 f1 => ?_⟩
    obtain ⟨a, xs, e1, ha, im⟩ := v1
    refine ⟨a, e1, ⟨xs, SqL.of ha⟩, k _ _ H1 s1 (itd_lst im) fun b o z => ?_⟩
    obtain ⟨eb, eo⟩ := upd_nH z
    subst eb eo
    exact ha
  · cases e
end
end Ai
set_option Elab.async false
set_option linter.all false
set_option maxRecDepth 100000
set_option maxHeartbeats 4000000
/-! Ai, part L: dicts with pairs of ints as keys. -/
namespace Ai
open PySem L2
def kK (p : Pl) : List Key := [.inl p.1, .inl p.2]
theorem kK_inj {p q : Pl} : kK p = kK q ↔ p = q := by
  constructor
  · intro h
    unfold kK at h
    simp only [List.cons.injEq, Sum.inl.injEq, and_true] at h
    exact Prod.ext h.1 h.2
  · intro h
    rw [h]
theorem kK_map (p : Pl) : (kK p).map kV = [.int p.1, .int p.2] := rfl
def getP (kv : KV) (p : Pl) : Option PyData := (kv.find? fun q => decide (q.1 = p)).map (·.2)
def putP (kv : KV) (p : Pl) (d : PyData) : KV := if (kv.any fun q => decide (q.1 = p)) = true then kv.map (fun q => if q.1 = p then (q.1, d) else q) else kv ++ [(p, d)]
theorem dkv_get {H : Hp} {p : Pl} : ∀ {kvs : List (List Key × V)} {kv : KV}, DKV H kvs kv → (∀ d, getP kv p = some d → ∃ v, valV kvs (kK p) = some v ∧ Im H v d) ∧ (getP kv p = none → valV kvs (kK p) = none)
  | _, _, .nil => ⟨fun d e => by simp [getP] at e, fun _ => rfl⟩
  | (k, v) :: r, (q, d) :: kv', .cons a t => by
    obtain ⟨e, i⟩ := a
    have e : k = kK q := e
    obtain ⟨h1, h2⟩ := dkv_get (p := p) t
    by_cases hq : q = p
    · subst hq
      have e1 : valV ((k, v) :: r) (kK q) = some v := valV_pos (p := (k, v)) e
      refine ⟨fun d' ed => ?_, fun en => ?_⟩
      · simp [getP, List.find?_cons] at ed
        subst ed
        exact ⟨v, e1, i⟩
      · simp [getP, List.find?_cons] at en
    · have ne : ¬ (k, v).1 = kK p := fun z => hq (kK_inj.mp (e.symm.trans z))
      have e1 := valV_neg (p := (k, v)) (r := r) ne
      have e2 : getP ((q, d) :: kv') p = getP kv' p := by simp [getP, List.find?_cons, hq]
      rw [e1]
      exact ⟨fun d' ed => h1 d' (by rw [← e2]; exact ed), fun en => h2 (by rw [← e2]; exact en)⟩
theorem dkv_len {H : Hp} {kvs : List (List Key × V)} {kv : KV} (h : DKV H kvs kv) : kvs.length = kv.length := Paired.length h
theorem dkv_any {H : Hp} {p : Pl} : ∀ {kvs : List (List Key × V)} {kv : KV}, DKV H kvs kv → (kvs.any fun kv => decide (kv.1 = kK p)) = (kv.any fun q => decide (q.1 = p))
  | _, _, .nil => rfl
  | (k, v) :: _, (q, d) :: _, .cons a t => by
    obtain ⟨e, i⟩ := a
    have e : k = kK q := e
    rw [List.any_cons, List.any_cons, dkv_any t]
    congr 1
    subst e
    simp only [kK_inj]
theorem dkv_map {H : Hp} {p : Pl} {w : V} {d : PyData} (hi : Im H w d) : ∀ {kvs : List (List Key × V)} {kv : KV}, DKV H kvs kv → DKV H (kvs.map fun kv => if kv.1 = kK p then (kv.1, w) else kv) (kv.map fun q => if q.1 = p then (q.1, d) else q)
  | _, _, .nil => .nil
  | (k, v) :: _, (q, d') :: _, .cons a t => by
    obtain ⟨e, i⟩ := a
    have e : k = kK q := e
    subst e
    refine .cons ?_ (dkv_map hi t)
    by_cases hq : q = p
    · subst hq
      dsimp only
      rw [if_pos rfl, if_pos rfl]
      exact ⟨rfl, hi⟩
    · dsimp only
      rw [if_neg (fun z => hq (kK_inj.mp z)), if_neg hq]
      exact ⟨rfl, i⟩
theorem dkv_app {H : Hp} : ∀ {a b : List (List Key × V)} {c d : KV}, DKV H a c → DKV H b d → DKV H (a ++ b) (c ++ d)
  | _, _, _, _, .nil, h => h
  | _, _, _, _, .cons x t, h => .cons x (dkv_app t h)
theorem dkv_put {H : Hp} {p : Pl} {w : V} {d : PyData} (hi : Im H w d) {kvs : List (List Key × V)} {kv : KV} (h : DKV H kvs kv) : DKV H (putK kvs (kK p) w) (putP kv p d) := by
  unfold putK putP
  rw [dkv_any h]
  split
  · exact dkv_map hi h
  · exact dkv_app h (.cons ⟨rfl, hi⟩ .nil)
/-- the keys -/
theorem dkv_keys {H : Hp} : ∀ {kvs : List (List Key × V)} {kv : KV} {bs : List Addr}, DKV H kvs kv → IsKeys H kvs bs → ImAll H (bs.map V.ref) (kv.map fun q => pD q.1)
  | _, _, _, .nil, .nil => .nil
  | (k, v) :: _, (q, d) :: _, b :: _, .cons a t, .cons e r => by
    have ek : k = kK q := a.1
    subst ek
    exact .cons (.tup e (.cons (.int _) (.cons (.int _) .nil))) (dkv_keys t r)
theorem im_pl {H : Hp} {v : V} {p : Pl} (h : Im H v (pD p)) : ∃ b, v = .ref b ∧ H b = some (.tup ((kK p).map kV)) := by
  obtain ⟨a, xs, e, ha, im⟩ := Im.tupInv h
  subst e
  cases im with
  | cons i1 t =>
    cases t with
    | cons i2 t =>
      cases t
      cases (Im.intInv i1)
      cases (Im.intInv i2)
      exact ⟨a, rfl, ha⟩
section
variable {X : Cx}
/-! ### reading -/
def eDix (a b : Xp) : Xp := fun ρ => (a ρ).bind fun x => (b ρ).bind fun y => match x, y with
  | .dc kv, .im d => (dP d).bind fun p => (getP kv p).map .im
  | _, _ => none
theorem d_dix {o i : Expr} {fa fb : Xp} {pos : Pos} (hu : X.A.units + 100 < cLine) (ha : PE X o (tD fa)) (hb : PE X i (tD fb)) (hs : NoSl i := by exact fun _ _ => rfl) : PE X (.Subscript o i pos) (tD (eDix fa fb)) := (pe_dget (by omega) ha hb hs).wk fun σ H Q ⟨H0, ρ, z, E, e, k⟩ => by
  obtain ⟨x, ex, e⟩ := bindS e
  obtain ⟨y, ey, e⟩ := bindS e
  refine ⟨H0, ρ, x, E, ex, fun u H1 s1 v1 _ => ?_⟩
  refine ⟨H0, ρ, y, E.mono s1, ey, fun w H2 s2 v2 _ => ?_⟩
  split at e
  · rename_i kv d
    obtain ⟨p, ep, e⟩ := bindS e
    obtain ⟨r, er, e⟩ := mapS e
    subst e
    have := dP_some ep
    subst this
    obtain ⟨l, el, od, kvs, hl, hk⟩ := v1.mono s2
    obtain ⟨b, eb, hbt⟩ := im_pl v2
    subst el eb
    obtain ⟨v, hv, iv⟩ := (dkv_get hk).1 r er
    exact ⟨l, v, rfl, .inr ⟨kvs, kK p, b, .inr ⟨od, hl⟩, rfl, hbt, hv.symm⟩, k v H2 (s1.trans s2) iv trivial⟩
  · cases e
def gPx : Val → Val → Option Val
  | .pc b _, .im (.int 0) => some (.im (.bool b))
  | .pc _ kv, .im (.int 1) => some (.dc kv)
  | _, _ => none
theorem px_D {K : PySem.W.Frag} : OpD (rIxT K) gPx := fun u w x y z H Q hx hy e k => by
  unfold gPx at e
  split at e
  · cases e
    obtain ⟨a, l, e1, ha, hd⟩ := hx
    subst e1
    exact ⟨a, _, 0, .bl _, rfl, Im.intInv hy, SqT.of ha, rfl, k _ H (Same.refl H) (.bl _) trivial⟩
  · cases e
    obtain ⟨a, l, e1, ha, hd⟩ := hx
    subst e1
    exact ⟨a, _, 1, .ref l, rfl, Im.intInv hy, SqT.of ha, rfl, k _ H (Same.refl H) ⟨l, rfl, hd⟩ trivial⟩
  · cases e
theorem d_pix {a b : Expr} {fa fb : Xp} {pos : Pos} (ha : PE X a (tD fa)) (hb : PE X b (tD fb)) (hs : PlainIx b := by exact fun _ _ => rfl) : PE X (.Subscript a b pos) (tD (eBin gPx fa fb)) := (pe_ix ix_tup ha hb hs).wk (tOp_D px_D fa fb)
def ePic (a : Tas) : Xp := fun ρ => match a ρ with
  | some [.im (.bool b), .dc kv] => some (.pc b kv)
  | _ => none
theorem d_pic {es : List Expr} {a : Tas} {k : Nat} {pos : Pos} (h : PA X es (tA a)) : PE X (.Tuple es k pos) (tD (ePic a)) := (pe_tup h).wk fun σ H Q ⟨H0, ρ, z, E, e, k⟩ => by
  unfold ePic at e
  split at e
  · rename_i b kv hf
    cases e
    refine ⟨H0, ρ, _, E, hf, fun us H1 s1 v1 => ?_⟩
    obtain ⟨u, w, eu, vu, vw⟩ := vs2 v1
    cases (Im.boolInv vu)
    obtain ⟨l, el, hd⟩ := vw
    subst eu el
    refine ⟨by show 2 ≤ sizeLine; decide, fun p hp => k _ _ (s1.trans (same_new hp)) ⟨p, l, rfl, upd_same, ?_⟩ trivial⟩
    obtain ⟨od, kvs, h1, h2⟩ := hd
    exact ⟨od, kvs, same_new hp _ _ h1, h2.mono (tp (same_new hp))⟩
  · cases e
def gLenD : List Val → Option Val
  | [.dc kv] => some (.im (.int kv.length))
  | _ => none
theorem call_len_dc : CallR X (.builtin "len") (fun xs H Q => ∃ (p : Addr) (kvs : List (List Key × V)), xs = [.ref p] ∧ Rd H p (.dT kvs) ∧ Q (.int ((kvs.length : Nat) : Int)) H) := by
  rintro pins s σ H xs us Q I vals ⟨p, kvs, rfl, stands, want⟩
  obtain ⟨_, rfl, e⟩ := vals1 vals
  cases (show _ = Value.ref p from e)
  obtain ⟨few, hd, ys, rel, dd⟩ := dt_rd I.hok stands
  have many := Paired.length rel
  rw [sizeLine_eq, many] at few
  refine PySem.call_len_dictH hd dd (by omega) ?_
  rw [← many]
  exact ⟨.int (kvs.length : Nat), H, I.tok _, ⟨_, rfl⟩, want⟩
theorem d_lenD {a : Expr} {fa : Tas} {p pos : Pos} (hg : Gl X "len") (hm : X.mg "len" = none) (ha : PA X [a] (tA fa)) (he : starEach [a] X.env = (false, eval a X.env) :: starEach [] X.env := by rfl) : PE X (.Call (.Name "len" p) [a] [] pos) (tD (eCall gLenD fa)) :=
  d_callB (pe_callB call_len_dc hg hm PySem.boot_len ha (he := he)) fun us xs z H Q h e k => by
    unfold gLenD at e
    split at e
    · cases e
      obtain ⟨u, e1, l, el, od, kvs, h1, h2⟩ := vs1 h
      subst e1 el
      refine ⟨l, kvs, rfl, .inr ⟨od, h1⟩, ?_⟩
      rw [dkv_len h2]
      exact k _ H (Same.refl H) (.int _) trivial
    · cases e
/-- list(d) -/
def gListD : List Val → Option Val
  | [.dc kv] => some (.ls true (kv.map fun q => pD q.1))
  | _ => none
theorem d_listD {a : Expr} {fa : Tas} {p pos : Pos} (hc : X.calm = true) (hg : Gl X "list") (hm : X.mg "list" = none) (ha : PA X [a] (tA fa)) (he : starEach [a] X.env = (false, eval a X.env) :: starEach [] X.env := by rfl) : PE X (.Call (.Name "list" p) [a] [] pos) (tD (eCall gListD fa)) :=
  d_callB (pe_callTy (call_list_dT hc) hg hm (by decide +kernel) ha (he := he)) fun us xs z H Q h e k => by
    unfold gListD at e
    split at e
    · cases e
      obtain ⟨u, e1, l, el, od, kvs, h1, h2⟩ := vs1 h
      subst e1 el
      refine ⟨l, kvs, rfl, .inr ⟨od, h1⟩, fun p bs hp hb => ?_⟩
      exact k _ _ (same_new hp) ⟨p, _, rfl, upd_same, ImAll.mono (tp (same_new hp)) _ _ (dkv_keys h2 hb)⟩ fun q e => by cases e; exact hp
    · cases e
/-- sorted(d) -/
def rSrtD : List V → Hp → VK → Prop := fun xs H Q => ∃ (l : Addr) (kvs : List (List Key × V)) (kv : KV), xs = [.ref l] ∧ Rd H l (.dT kvs) ∧ DKV H kvs kv ∧ ∀ p H', Same H H' → H p = none → VOk H' (.ref p) (.ls true ((isort ltP (kv.map (·.1))).map pD)) → Q (.ref p) H'
theorem paired_at {α β : Type} {R : α → β → Prop} : ∀ {as : List α} {bs : List β}, Paired R as bs → ∀ {i : Nat} {a : α} {b : β}, as[i]? = some a → bs[i]? = some b → R a b
  | _, _, .nil, _, _, _, e, _ => by simp at e
  | _, _, .cons h t, 0, _, _, e1, e2 => by simp at e1 e2; subst e1 e2; exact h
  | _, _, .cons h t, i + 1, _, _, e1, e2 => paired_at t (i := i) (by simpa using e1) (by simpa using e2)
theorem paired_of {α β : Type} {R : α → β → Prop} : ∀ {as : List α} {bs : List β}, as.length = bs.length → (∀ (i : Nat) (a : α) (b : β), as[i]? = some a → bs[i]? = some b → R a b) → Paired R as bs
  | [], [], _, _ => .nil
  | a :: as, b :: bs, h, k => .cons (k 0 a b rfl rfl) (paired_of (by simpa using h) fun i a' b' e1 e2 => k (i + 1) a' b' (by simpa using e1) (by simpa using e2))
theorem sortP_tail {pins : List (Addr × Obj)} {σ : L2.St} {H : Hp} {s : Shared} {vs : List Value} {ps : List Pl} {Q : VK} {A : Around} {E : Value → Shared → Prop} (hu : A.units + 100 < cLine) (I : L2.Inv X pins σ H s) (rv : Paired (fun v p => ∃ c, v = Value.ref c ∧ Im H (.ref c) (pD p)) vs ps) (hle : vs.length ≤ sizeLine)
    (q : ∀ p H', Same H H' → H p = none → VOk H' (.ref p) (.ls true ((isort ltP ps).map pD)) → Q (.ref p) H') :
    wpAny (model X.prog X.w) A (newList vs >>= fun l => holding [l] (call (.builtin "list.sort") [l]) >>= fun _ => ret l) (fun fin s' => ∃ v, fin = .done (.ret v) ∧ EP X pins σ Q v s') E s := by
  have at_ : ∀ v ∈ vs, ∃ c p, v = Value.ref c ∧ Im H (.ref c) (pD p) := fun v hv => by
    clear q hle
    induction rv with
    | nil => cases hv
    | cons h t ih =>
      rcases List.mem_cons.mp hv with z | z
      · obtain ⟨c, e, i⟩ := h
        exact ⟨c, _, z.trans e, i⟩
      · exact ih z
  have pkv : ∀ {c : Addr} {p : Pl}, Im H (.ref c) (pD p) → Srt.IsPair s.heap (.ref c) p.1 p.2 := fun hh => im_pair I hh rfl
  have hps : vs.map (pk s.heap) = ps := by
    clear q hle at_
    induction rv with
    | nil => rfl
    | cons h t ih =>
      obtain ⟨c, e, i⟩ := h
      rw [List.map_cons, ih, e, pk_eq (pkv i)]
  refine sort_tail (s := s) (ltv := fun v u => ltP (pk s.heap v) (pk s.heap u)) ⟨fun x y h => swoP.asym _ _ h, fun x y z h1 h2 => swoP.tr _ _ _ h1 h2⟩ hle (fun h2 h₁ a' ha' kk => ?_) fun h' d out hs hb kp hdd hat => ?_
  · refine SrtO.pairs_sortableO (s := { s with heap := h₁ }) (by omega) (fun v hm => ?_) (ha_list ha')
    obtain ⟨c, p, e, i⟩ := at_ v hm
    subst e
    rw [pk_eq (pkv i)]
    exact (pkv i).keeps fun b o e _ => (kk b o e).2
  · obtain ⟨m, hat⟩ := hat
    have h3 : ∀ u ∈ out, ∃ a, u = Value.ref a := fun u hu => by
      obtain ⟨c, p, e, _⟩ := at_ u (hb.perm.mem_iff.mp hu)
      exact ⟨c, e⟩
    have hn : H d = none := I.hok.fresh hdd
    have hlen : (out.map backV).length ≤ sizeLine := by
      rw [List.length_map, hb.len]
      exact hle
    have e3 : out.map (pk s.heap) = isort ltP ps := isort_of_perm (SrtO.srtd_map hs) (by rw [← hps]; exact hb.perm.map _)
    refine ⟨.ref d, upd H d (.lst (out.map backV)), I.laid (a := d) (o := .lst (out.map backV)) (t' := s.toks) kp hdd ⟨hlen, out, m, vals_back h3, hat⟩, rfl, q d _ (same_new hn) hn ⟨d, _, rfl, upd_same, ?_⟩⟩
    rw [← e3, List.map_map]
    refine ImAll.mono (tp (same_new hn)) _ _ (imAll_of fun u hu => ?_)
    obtain ⟨c, p, e, i⟩ := at_ u (hb.perm.mem_iff.mp hu)
    subst e
    show Im H (.ref c) (pD (pk s.heap (.ref c)))
    rw [pk_eq (pkv i)]
    exact i
theorem cr_srtD (hc : X.calm = true) (hu : X.A.units + 120 < cLine) : CallR X (.builtin "sorted") rSrtD := by
  intro pins s σ H vs us Q I r h
  obtain ⟨l, kvs, kv, rfl, hl, hk, q⟩ := h
  rw [Vals.ref1 r]
  obtain ⟨z, hs, ks, pr, o, es, ep, ho, hx, hdt, he, hn⟩ := (show ObjOk X.prog X.w H s.heap l (.dT kvs) from hl.ok I.hok)
  have l1 : es.size = ks.length := size_of_entries he
  have l2 : kvs.length = ks.length := Paired.length pr
  have l3 : kvs.length = kv.length := dkv_len hk
  refine Calls.call_function_entry PyProof.Rows.kind_sorted PyProof.Rows.plain_sorted PyProof.Rows.entry_sorted (PyProof.Rows.args_sorted1 _) ?_
  unfold Builtin.«sorted»
  refine wpAny_bind (m := checkCount "sorted" 1 1 _) (wpAny_pure ?_)
  refine wpAny_bind (PySem.W.kdu_collect (A := X.A.in1) (kdl_raw hs hx hdt) (I.ok.hd hc) ho (by omega) fun h' tk acc kp it => ?_)
  have I1 : L2.Inv X pins σ H { s with heap := h', toks := tk } := I.kept kp
  have hal : acc.toList.length = kv.length := by rw [Array.length_toList, it.1]; omega
  refine sortP_tail (A := X.A.in1) (by show X.A.units + 1 + 100 < cLine; omega) I1 (ps := kv.map (·.1)) (paired_of (by rw [hal, List.length_map]) fun i v p e1 e2 => ?_) (by rw [hal]; omega) q
  obtain ⟨en, e3, e4⟩ := it.2 i v (by rw [← Array.getElem?_toList]; exact e1)
  rw [← Array.getElem?_toList, he, List.getElem?_map] at e3
  obtain ⟨x, hx', e5⟩ := mapS e3
  rw [List.getElem?_map] at e2
  obtain ⟨kq, hkq, e6⟩ := mapS e2
  obtain ⟨kx, hkx⟩ : ∃ kx, kvs[i]? = some kx := by
    have : i < kvs.length := by
      have := (List.getElem?_eq_some_iff.mp hx').1
      omega
    exact ⟨_, List.getElem?_eq_getElem this⟩
  have r1 := paired_at pr hkx hx'
  have r2 := paired_at hk hkx hkq
  have e7 : v = .ref x.2.1 := by
    rw [e4, ← e5]
    rfl
  refine ⟨x.2.1, e7, ?_⟩
  subst e6
  refine .tup (xs := (kK kq.1).map kV) ?_ (.cons (.int _) (.cons (.int _) .nil))
  rw [r1.2.1, r2.1]
  rfl
def gSortD : List Val → Option Val
  | [.dc kv] => some (.ls true ((isort ltP (kv.map (·.1))).map pD))
  | _ => none
theorem d_sortedD {a : Expr} {fa : Tas} {p pos : Pos} (hc : X.calm = true) (hu : X.A.units + 120 < cLine) (hg : Gl X "sorted") (hm : X.mg "sorted" = none) (ha : PA X [a] (tA fa)) (he : starEach [a] X.env = (false, eval a X.env) :: starEach [] X.env := by rfl) : PE X (.Call (.Name "sorted" p) [a] [] pos) (tD (eCall gSortD fa)) :=
  d_callB (pe_callB (cr_srtD hc hu) hg hm (by decide +kernel) ha (he := he)) fun us xs z H Q h e k => by
    unfold gSortD at e
    split at e
    · cases e
      obtain ⟨u, e1, l, el, od, kvs, h1, h2⟩ := vs1 h
      subst e1 el
      exact ⟨l, kvs, _, rfl, .inr ⟨od, h1⟩, h2, fun p H' s2 hp v => k _ H' s2 v fun q e => by cases e; exact hp⟩
    · cases e
/-! ### walked by keys -/
theorem itd_keys {d : Addr} {o : Obj} {kvs : List (List Key × V)} {kv : KV} {B : Hp} (hk : DKV B kvs kv) : ItD (Itkt d o kvs) (upd nH d (.frz o (.dT kvs))) B (kv.map fun q => pD q.1) where
  go := fun i H hi s t => by
    rw [List.length_map, ← dkv_len hk] at hi
    refine ⟨⟨s d _ upd_same, hi⟩, fun x H' y => ?_⟩
    obtain ⟨e, k, v, q, h1, h2, h3⟩ := y
    subst e h2
    obtain ⟨kq, hkq⟩ : ∃ kx, kv[i]? = some kx := ⟨_, List.getElem?_eq_getElem (by rw [← dkv_len hk]; exact hi)⟩
    have r := paired_at hk h1 hkq
    refine ⟨Same.refl _, pD kq.1, by rw [List.getElem?_map, hkq]; rfl, ?_⟩
    have e2 : k = kK kq.1 := r.1
    subst e2
    exact .tup h3 (.cons (.int _) (.cons (.int _) .nil))
  stop := fun H s t => ⟨s d _ upd_same, by rw [List.length_map, dkv_len hk]; exact Nat.le_refl _⟩
/-- walked by a for, what stands of it is never written -/
def tIx (f : Src) : TI := fun σ H R => ∃ H0 ρ ds, EnOk H0 H σ ρ ∧ f ρ = some ds ∧ ∀ J A H1, Same H H1 → ItD J A H1 ds → (∀ a o, A a = some o → H1 a = some o ∧ (H a = none ∨ ∃ od u, o = .frz od u)) → R J H1
def srcK (f : Xp) : Src := fun ρ => match f ρ with
  | some (.dc kv) => some (kv.map fun q => pD q.1)
  | _ => none
variable {tg : Expr}
theorem i_x {e : Expr} {f : Src} (h : PI X tg e (tI f)) : PI X tg e (tIx f) := h.wk fun σ H R ⟨H0, ρ, ds, E, e, k⟩ => ⟨H0, ρ, ds, E, e, fun J A H1 s1 it a => k J A H1 s1 it fun b o z => ⟨(a b o z).1, .inl (a b o z).2⟩⟩
theorem i_xc {e : Expr} {f : Src} (h : PI X tg e (tIx f)) : PI X tg e (tIc f) := h.wk fun σ H R ⟨H0, ρ, ds, E, e, k⟩ => ⟨H0, ρ, ds, E, e, fun J A H1 s1 it a => k J A H1 s1 it fun b o z => (a b o z).1⟩
theorem i_keys {e : Expr} {f : Xp} (h : PE X e (tD f)) : PI X tg e (tIx (srcK f)) := (pi_keys (tg := tg) h).wk fun σ H R ⟨H0, ρ, ds, E, e, k⟩ => by
  unfold srcK at e
  split at e
  · rename_i hf
    cases e
    refine ⟨H0, ρ, _, E, hf, fun u H1 s1 v1 _ => ?_⟩
    obtain ⟨l, el, od, kvs, h1, h2⟩ := v1
    subst el
    refine ⟨l, od, rfl, .inr ⟨kvs, h1, k _ _ H1 s1 (itd_keys h2) fun b o z => ?_⟩⟩
    obtain ⟨eb, eo⟩ := upd_nH z
    subst eb eo
    exact ⟨h1, .inr ⟨_, _, rfl⟩⟩
  · cases e
end
end Ai
set_option Elab.async false
set_option linter.all false
set_option maxRecDepth 100000
set_option maxHeartbeats 4000000
/-! Ai, part M: a dict that is being filled by the def itself. -/
namespace Ai
open PySem L2
theorem VOk.chg {H : Hp} {l : Addr} {kvs : List (List Key × V)} {o : HO} (hl : H l = some (.dT kvs)) {u : V} {x : Val} (h : VOk H u x) : VOk (upd H l o) u x := by
  have tm : Tp H (upd H l o) := tp_mut hl fun _ z => by cases z
  cases x with
  | im d => exact Im.mono tm d u h
  | ls b ds =>
    obtain ⟨a, vs, e, ha, im⟩ := h
    exact ⟨a, vs, e, by rw [upd_ne (fun z => by rw [z, hl] at ha; cases ha)]; exact ha, ImAll.mono tm _ _ im⟩
  | dc kv =>
    obtain ⟨a, e, od, kvs', ha, hk⟩ := h
    exact ⟨a, e, od, kvs', by rw [upd_ne (fun z => by rw [z, hl] at ha; cases ha)]; exact ha, hk.mono tm⟩
  | pc b kv =>
    obtain ⟨t, a, e, ht, od, kvs', ha, hk⟩ := h
    exact ⟨t, a, e, tm _ _ ht, od, kvs', by rw [upd_ne (fun z => by rw [z, hl] at ha; cases ha)]; exact ha, hk.mono tm⟩
theorem EnOk.chg {H0 H : Hp} {σ : L2.St} {ρ : En} {l : Addr} {kvs : List (List Key × V)} {o : HO} (hl : H l = some (.dT kvs)) (E : EnOk H0 H σ ρ) : EnOk H0 (upd H l o) σ ρ :=
  ⟨E.len, fun i x e => by obtain ⟨u, h1, h2⟩ := E.ok i x e; exact ⟨u, h1, h2.chg hl⟩, E.own, E.sep⟩
abbrev Bd := En → KV → Option (En × KV)
structure EdOk (c : Nat) (H0 H : Hp) (σ : L2.St) (ρ : En) (kv : KV) : Prop where
  en : EnOk H0 H σ ρ
  no : ρ[c]? = some none
  at_ : ∃ l kvs, σ[c]? = some (some (.ref l)) ∧ H0 l = none ∧ H l = some (.dT kvs) ∧ DKV H kvs kv
theorem EdOk.mono {c : Nat} {H0 H H' : Hp} {σ : L2.St} {ρ : En} {kv : KV} (s : Same H H') (E : EdOk c H0 H σ ρ kv) : EdOk c H0 H' σ ρ kv :=
  ⟨E.en.mono s, E.no, let ⟨l, kvs, h1, h2, h3, h4⟩ := E.at_; ⟨l, kvs, h1, h2, s _ _ h3, h4.mono (tp s)⟩⟩
/-- read alone from now on -/
theorem EdOk.frozen {c : Nat} {H0 H : Hp} {σ : L2.St} {ρ : En} {kv : KV} {l : Addr} {kvs : List (List Key × V)} {od : Obj} (E : EdOk c H0 H σ ρ kv) (h1 : σ[c]? = some (some (.ref l))) (h3 : H l = some (.dT kvs)) (h4 : DKV H kvs kv) :
    EnOk H0 (upd H l (.frz od (.dT kvs))) σ (ρ.set c (some (.dc kv))) := by
  have E2 := E.en.chg (o := .frz od (.dT kvs)) h3
  have tm : Tp H (upd H l (.frz od (.dT kvs))) := tp_mut h3 fun _ z => by cases z
  have hl : c < ρ.length := (List.getElem?_eq_some_iff.mp E.no).1
  have key : ∀ (j : Nat) (y : Val), (ρ.set c (some (.dc kv)))[j]? = some (some y) → (c = j ∧ y = .dc kv) ∨ (c ≠ j ∧ ρ[j]? = some (some y)) := fun j y e => by
    by_cases hj : c = j
    · subst hj
      rw [List.getElem?_set_self hl] at e
      exact .inl ⟨rfl, (Option.some.inj (Option.some.inj e)).symm⟩
    · rw [List.getElem?_set_ne hj] at e
      exact .inr ⟨hj, e⟩
  refine ⟨by rw [List.length_set]; exact E2.len, fun j y e => ?_, fun j ds a e1 e2 => ?_, fun j k ds b es a e1 e2 ne e3 => ?_⟩
  · rcases key j y e with ⟨hj, hy⟩ | ⟨hj, hy⟩
    · subst hj hy
      exact ⟨_, h1, l, rfl, od, kvs, upd_same, h4.mono tm⟩
    · exact E2.ok j y hy
  · rcases key j _ e1 with ⟨hj, hy⟩ | ⟨hj, hy⟩
    · cases hy
    · exact E2.own j ds a hy e2
  · rcases key j _ e1 with ⟨hj, hy⟩ | ⟨hj, hy⟩
    · cases hy
    · rcases key k _ e2 with ⟨hk, hz⟩ | ⟨hk, hz⟩
      · cases hz
      · exact E2.sep j k ds b es a hy hz ne e3
def tSd (c : Nat) (s : Bd) : TS := fun D σ H => ∃ H0 ρ kv r, Same H0 H ∧ EdOk c H0 H σ ρ kv ∧ s ρ kv = some r ∧ ∀ σ' H', Same H0 H' → EdOk c H0 H' σ' r.1 r.2 → D.nx σ' H'
def bAsg (i : Nat) (f : Xp) : Bd := fun ρ kv => (f ρ).bind fun x => match x with
  | .im d => some (ρ.set i (some (.im d)), kv)
  | _ => none
def bPut (fk fv : Xp) : Bd := fun ρ kv => (fv ρ).bind fun x => (fk ρ).bind fun y => match x, y with
  | .im d, .im pd => (dP pd).bind fun p => if lenOk kv.length then some (ρ, putP kv p d) else none
  | _, _ => none
def cntN (kv : KV) (q : Pl) : Option Int := match (getP kv q).getD (.int 0) with
  | .int n => some n
  | _ => none
theorem cntN_some {kv : KV} {q : Pl} {n : Int} (h : cntN kv q = some n) : (getP kv q).getD (.int 0) = .int n := by
  unfold cntN at h
  split at h
  · rename_i m hm
    cases h
    exact hm
  · cases h
def bCnt (fk fg : Xp) : Bd := fun ρ kv => (fg ρ).bind fun x => (fk ρ).bind fun y => match x, y with
  | .im gd, .im pd => (dP gd).bind fun q => (dP pd).bind fun p => (cntN kv q).bind fun n => if lenOk kv.length then some (ρ, putP kv p (.int (n + 1))) else none
  | _, _ => none
def bSeq (s t : Bd) : Bd := fun ρ kv => (s ρ kv).bind fun r => t r.1 r.2
def forD (b : En → PyData → Option En) (s : Bd) : List PyData → Bd
  | [] => fun ρ kv => some (ρ, kv)
  | d :: ds => fun ρ kv => (b ρ d).bind fun ρ1 => (s ρ1 kv).bind fun r => forD b s ds r.1 r.2
def bFor (src : Src) (b : En → PyData → Option En) (s : Bd) : Bd := fun ρ kv => (src ρ).bind fun ds => forD b s ds ρ kv
def sBuild (c : Nat) (s : Bd) (t : Bk) : Bk := fun ρ => if c < ρ.length then (s (ρ.set c none) []).bind fun r => t (r.1.set c (some (.dc r.2))) else none
section
variable {X : Cx} {c : Nat}
theorem sd_cons {st : Stmt} {rest : List Stmt} {s t : Bd} (h : PS X st (tSd c s)) (r : PSs X rest (tSd c t)) : PSs X (st :: rest) (tSd c (bSeq s t)) := (pss_cons h r).wk fun D σ H ⟨H0, ρ, kv, o, s0, E, e, k⟩ => by
  obtain ⟨r1, e1, e⟩ := bindS e
  exact ⟨H0, ρ, kv, r1, s0, E, e1, fun σ1 H1 s1 E1 => ⟨H0, _, _, o, s1, E1, e, k⟩⟩
theorem sd_one {st : Stmt} {s : Bd} (h : PS X st (tSd c s)) : PSs X [st] (tSd c s) := pss_one h
theorem sd_asg {st : Stmt} {f : Xp} {i : Nat} (h : PS X st (tAsg (tD f) (gName i))) (hi : i ≠ c) : PS X st (tSd c (bAsg i f)) := h.wk fun D σ H ⟨H0, ρ, kv, o, s0, E, e, k⟩ => by
  obtain ⟨x, ex, e⟩ := bindS e
  refine ⟨H0, ρ, x, E.en, ex, fun u H1 s1 v1 f1 => ?_⟩
  split at e
  · cases e
    refine k _ H1 (s0.trans s1) ⟨(E.en.mono s1).setIm (s0.trans s1) v1, ?_, ?_⟩
    · dsimp only
      rw [List.getElem?_set_ne hi]
      exact E.no
    · obtain ⟨l, kvs, h1, h2, h3, h4⟩ := (E.mono s1).at_
      exact ⟨l, kvs, by rw [List.getElem?_set_ne hi]; exact h1, h2, h3, h4⟩
  · cases e
theorem put_ok {H0 H : Hp} {σ : L2.St} {ρ : En} {kv : KV} {l b : Addr} {kvs : List (List Key × V)} {p : Pl} {v : V} {d : PyData} (s0 : Same H0 H) (E : EdOk c H0 H σ ρ kv) (h1 : σ[c]? = some (some (.ref l))) (h2 : H0 l = none) (h3 : H l = some (.dT kvs)) (h4 : DKV H kvs kv) (hv : Im H v d) :
    Same H0 (upd H l (.dT (putK kvs (kK p) v))) ∧ EdOk c H0 (upd H l (.dT (putK kvs (kK p) v))) σ ρ (putP kv p d) := by
  have tm : Tp H (upd H l (.dT (putK kvs (kK p) v))) := tp_mut h3 fun _ z => by cases z
  exact ⟨same_mut s0 h2, E.en.chg h3, E.no, l, _, h1, h2, upd_same, (dkv_put hv h4).mono tm⟩
theorem sd_put {st : Stmt} {fk fv : Xp} (h : PS X st (sDPut (tVar c) (tD fk) (tD fv))) : PS X st (tSd c (bPut fk fv)) := h.wk fun D σ H ⟨H0, ρ, kv, o, s0, E, e, k⟩ => by
  obtain ⟨x, ex, e⟩ := bindS e
  obtain ⟨y, ey, e⟩ := bindS e
  split at e
  · rename_i d pd
    obtain ⟨p, ep, e⟩ := bindS e
    obtain ⟨hz, e⟩ := ifS e
    subst e
    have := dP_some ep
    subst this
    refine ⟨H0, ρ, _, E.en, ex, fun u H1 s1 v1 _ => ?_⟩
    have E1 := E.mono s1
    obtain ⟨l, kvs, h1, h2, h3, h4⟩ := E1.at_
    refine ⟨.ref l, h1, ?_⟩
    refine ⟨H0, ρ, _, E1.en, ey, fun w H2 s2 v2 _ => ?_⟩
    obtain ⟨b, eb, hb⟩ := im_pl v2
    subst eb
    have E2 := E1.mono s2
    obtain ⟨r1, r2⟩ := put_ok (b := b) (p := p) ((s0.trans s1).trans s2) E2 h1 h2 (s2 _ _ h3) (h4.mono (tp s2)) (Im.mono (tp s2) _ _ v1)
    refine ⟨l, _, rfl, .inr ⟨kvs, kK p, b, s2 _ _ h3, rfl, hb, ?_, rfl⟩, k σ _ r1 r2⟩
    have : kv.length ≤ 1000000 := of_decide_eq_true hz
    rw [dkv_len h4, sizeLine_eq]
    omega
  · cases e
theorem sd_cnt {st : Stmt} {fk fg : Xp} (h : PS X st (sDPut (tVar c) (tD fk) (tOp (rI0 fun i j => .int (i + j)) (tDGet2 (tVar c) (tD fg) (tC (.int 0))) (tC (.int 1))))) : PS X st (tSd c (bCnt fk fg)) := h.wk fun D σ H ⟨H0, ρ, kv, o, s0, E, e, k⟩ => by
  obtain ⟨x, ex, e⟩ := bindS e
  obtain ⟨y, ey, e⟩ := bindS e
  split at e
  · rename_i gd pd
    obtain ⟨q, eq, e⟩ := bindS e
    obtain ⟨p, ep, e⟩ := bindS e
    rw [dP_some eq] at ex
    rw [dP_some ep] at ey
    obtain ⟨n, hn, e⟩ := bindS e
    · have hn := cntN_some hn
      obtain ⟨hz, e⟩ := ifS e
      subst e
      obtain ⟨l, kvs, h1, h2, h3, h4⟩ := E.at_
      refine ⟨.ref l, h1, l, rfl, .inr ⟨kvs, .inl h3⟩, ?_⟩
      refine ⟨H0, ρ, _, E.en, ex, fun u H1 s1 v1 _ => ?_⟩
      have E1 := E.mono s1
      obtain ⟨b1, eb1, hb1⟩ := im_pl v1
      subst eb1
      have h3' := s1 _ _ h3
      have h4' := h4.mono (tp s1)
      have hg : ∃ ov, ov = valV kvs (kK q) ∧ ov.getD (.int 0) = .int n := by
        refine ⟨_, rfl, ?_⟩
        obtain ⟨g1, g2⟩ := dkv_get (p := q) h4'
        cases hq : getP kv q with
        | none =>
          rw [hq] at hn
          have hn : PyData.int 0 = PyData.int n := hn
          cases hn
          rw [g2 hq]
          rfl
        | some d =>
          rw [hq] at hn
          have hn : d = PyData.int n := hn
          subst hn
          obtain ⟨v, hv, iv⟩ := g1 _ hq
          rw [hv]
          exact Im.intInv iv
      obtain ⟨ov, e1, e2⟩ := hg
      refine ⟨ov, .inr ⟨kvs, kK q, b1, .inl h3', rfl, hb1, e1⟩, n, 1, e2, rfl, ?_⟩
      refine ⟨.ref l, h1, ?_⟩
      refine ⟨H0, ρ, _, E1.en, ey, fun w H2 s2 v2 _ => ?_⟩
      obtain ⟨b, eb, hb⟩ := im_pl v2
      subst eb
      have E2 := E1.mono s2
      obtain ⟨r1, r2⟩ := put_ok (b := b) (p := p) (v := .int (n + 1)) ((s0.trans s1).trans s2) E2 h1 h2 (s2 _ _ h3') (h4'.mono (tp s2)) (.int _)
      refine ⟨l, _, rfl, .inr ⟨kvs, kK p, b, s2 _ _ h3', rfl, hb, ?_, rfl⟩, k σ _ r1 r2⟩
      have : kv.length ≤ 1000000 := of_decide_eq_true hz
      rw [dkv_len h4, sizeLine_eq]
      omega
  · cases e
theorem for_runD {J : It} {A : Hp} {H0 H1 : Hp} {g : TG} {vs : List Nat} {b : En → PyData → Option En} {tb : TS} {s : Bd} {D : Ends} {σ : L2.St} {ρ : En} {kv : KV} {ds : List PyData} {o : En × KV}
    (hg : ∀ v σ H Q, tG vs b v σ H Q → g v σ H Q) (hb : ∀ D σ H, tSd c s D σ H → tb D σ H) (hc : c ∉ vs) (hbn : ∀ ρ d ρ', b ρ d = some ρ' → ρ[c]? = some none → ρ'[c]? = some none) (s0 : Same H0 H1) (sA : Same A H1) (E : EdOk c H0 H1 σ ρ kv) (it : ItD J A H1 ds)
    (hown : ∀ (j : Nat) es l, ρ[j]? = some (some (.ls true es)) → σ[j]? = some (some (.ref l)) → A l = none) (hd : ∀ l, σ[c]? = some (some (.ref l)) → A l = none)
    (e : forD b s ds ρ kv = some o) (k : ∀ σ' H', Same H0 H' → EdOk c H0 H' σ' o.1 o.2 → D.nx σ' H') :
    ∃ W : Nat → Nat → L2.St → Hp → Prop, (∃ m, W 0 m σ H1) ∧ ∀ i m σ H, W i m σ H →
      (J.stop i H ∧ D.nx σ H) ∨ (J.go i H ∧ ∃ N : L2.St → Hp → Prop, (∀ σ' H', N σ' H' → ∃ m', m' < m ∧ W (i + 1) m' σ' H') ∧ ∀ x H', J.yld i H x H' → g x σ H' fun σ2 H2 => tb { D with nx := N, ct := N, bk := D.nx } σ2 H2) := by
  obtain ⟨p1, p2, p3, p4⟩ := pin_same s0 sA
  have nothing : ∀ {l : Addr} {w : V}, H0 l = none → A l = none → (∀ xs, H1 l ≠ some (.tup xs)) → pinH H0 A H1 l = none := fun {l w} h1 h2 h3 => by
    cases q : pinH H0 A H1 l with
    | none => rfl
    | some u =>
      rcases pin_cases q with ⟨xs, h4, _⟩ | h4 | h4
      · exact absurd h4 (h3 xs)
      · rw [h2] at h4; cases h4
      · rw [h1] at h4; cases h4
  have E' : EdOk c (pinH H0 A H1) H1 σ ρ kv := by
    refine ⟨⟨E.en.len, E.en.ok, fun j es l e1 e2 => ?_, E.en.sep⟩, E.no, ?_⟩
    · refine nothing (w := .non) (E.en.own j es l e1 e2) (hown j es l e1 e2) fun xs h => ?_
      obtain ⟨w, h3, l', vs', h4, h5, _⟩ := E.en.ok j _ e1
      rw [e2] at h3
      cases h3
      cases h4
      rw [h] at h5
      cases h5
    · obtain ⟨l, kvs, h1, h2, h3, h4⟩ := E.at_
      exact ⟨l, kvs, h1, nothing (w := .non) h2 (hd l h1) (fun xs h => by rw [h3] at h; cases h), h3, h4⟩
  have back : ∀ {σ' H' ρ' kv'}, EdOk c (pinH H0 A H1) H' σ' ρ' kv' → EdOk c H0 H' σ' ρ' kv' := fun {σ' H' ρ' kv'} E => ⟨E.en.weak p2, E.no, let ⟨l, kvs, h1, h2, h3, h4⟩ := E.at_; ⟨l, kvs, h1, p2.free h2, h3, h4⟩⟩
  refine ⟨fun i m σ' H' => m = ds.length - i ∧ i ≤ ds.length ∧ Same (pinH H0 A H1) H' ∧ ∃ ρ' kv', EdOk c (pinH H0 A H1) H' σ' ρ' kv' ∧ forD b s (ds.drop i) ρ' kv' = some o, ⟨ds.length, by simp, Nat.zero_le _, p1, ρ, kv, E', e⟩, ?_⟩
  rintro i m σ' H' ⟨rfl, hi, s1, ρ', kv', E1, e1⟩
  have sA' : Same A H' := p3.trans s1
  have tB : Tp H1 H' := p4.trans (tp s1)
  by_cases hlt : i < ds.length
  · obtain ⟨hgo, hy⟩ := it.go i H' hlt sA' tB
    refine .inr ⟨hgo, fun σ2 H2 => i + 1 ≤ ds.length ∧ Same (pinH H0 A H1) H2 ∧ ∃ ρ' kv', EdOk c (pinH H0 A H1) H2 σ2 ρ' kv' ∧ forD b s (ds.drop (i + 1)) ρ' kv' = some o, fun σ2 H2 n => ⟨ds.length - (i + 1), by omega, rfl, n⟩, fun x H'' y => ?_⟩
    obtain ⟨s2, d, hdd, imx⟩ := hy x H'' y
    have hdr : ds.drop i = d :: ds.drop (i + 1) := by
      obtain ⟨hl, hx⟩ := List.getElem?_eq_some_iff.mp hdd
      rw [← hx]
      exact List.drop_eq_getElem_cons hl
    rw [hdr] at e1
    unfold forD at e1
    obtain ⟨ρ1, eb, e1⟩ := bindS e1
    obtain ⟨o1, eo, e1⟩ := bindS e1
    have E2 := E1.mono s2
    refine hg _ _ _ _ ⟨_, ρ', d, ρ1, s1.trans s2, E2.en, imx, eb, fun σ2 E3 _ hs => ?_⟩
    obtain ⟨l, kvs, h1, h2, h3, h4⟩ := E2.at_
    refine hb _ _ _ ⟨_, ρ1, kv', o1, s1.trans s2, ⟨E3, hbn _ _ _ eb E2.no, l, kvs, by rw [hs c hc]; exact h1, h2, h3, h4⟩, eo, fun σ3 H3 s3 E3 => ⟨by omega, s3, _, _, E3, e1⟩⟩
  · have ei : i = ds.length := by omega
    subst ei
    rw [List.drop_length] at e1
    unfold forD at e1
    cases e1
    exact .inl ⟨it.stop H' sA' tB, k σ' H' (p2.trans s1) (back E1)⟩
theorem sd_for {tg iter : Expr} {body : List Stmt} {src : Src} {vs : List Nat} {b : En → PyData → Option En} {sb : Bd} {pos : Pos} (hp : PassesOwn (model X.prog X.w) X.A X.env X.xe) (hc : X.calm = true) (hi : PI X tg iter (tIx src)) (hg : PG X tg (tG vs b)) (hb : PSs X body (tSd c sb))
    (hv : c ∉ vs) (hbn : ∀ ρ d ρ', b ρ d = some ρ' → ρ[c]? = some none → ρ'[c]? = some none) (hs : ∀ x, foldedSetIterable iter X.env x = pure x := by intro _; rfl) : PS X (.For tg iter body [] pos) (tSd c (bFor src b sb)) := (ps_for hp hc hi hg hb hs).wk fun D σ H ⟨H0, ρ, kv, o, s0, E, e, k⟩ => by
  obtain ⟨ds, eds, e⟩ := bindS e
  refine ⟨H0, ρ, ds, E.en, eds, fun J A H1 s1 it a1 => ?_⟩
  have no : ∀ {l : Addr} {o : HO}, H l = some o → (∀ od u, o ≠ .frz od u) → A l = none := fun {l o} h1 h2 => by
    cases q : A l with
    | none => rfl
    | some u =>
      obtain ⟨h3, h4⟩ := a1 l u q
      rcases h4 with h4 | ⟨od, w, h4⟩
      · rw [h4] at h1; cases h1
      · have := s1 _ _ h1
        rw [this] at h3
        cases h3
        exact absurd h4 (h2 od w)
  refine for_runD (fun _ _ _ _ h => h) (fun _ _ _ h => h) hv hbn (s0.trans s1) (fun a o z => (a1 a o z).1) (E.mono s1) it (fun j es l e1 e2 => ?_) (fun l e2 => ?_) e k
  · obtain ⟨w, h3, l', vs', h4, h5, _⟩ := E.en.ok j _ e1
    rw [e2] at h3
    cases h3
    cases h4
    exact no h5 fun _ _ z => by cases z
  · obtain ⟨l', kvs, h1, h2, h3, h4⟩ := E.at_
    rw [e2] at h1
    cases h1
    exact no h3 fun _ _ z => by cases z
theorem bn_name {i : Nat} (h : i ≠ c) : ∀ (ρ : En) (d : PyData) (ρ' : En), bName i ρ d = some ρ' → ρ[c]? = some none → ρ'[c]? = some none := fun ρ d ρ' e n => by
  cases e
  rw [List.getElem?_set_ne h]
  exact n
theorem bn_pair {i j : Nat} (h : i ≠ c) (h' : j ≠ c) : ∀ (ρ : En) (d : PyData) (ρ' : En), bPair i j ρ d = some ρ' → ρ[c]? = some none → ρ'[c]? = some none := fun ρ d ρ' e n => by
  unfold bPair at e
  split at e
  · cases e
    rw [List.getElem?_set_ne h', List.getElem?_set_ne h]
    exact n
  · cases e
def tFrz (t : TS) : TS := fun D σ H => ∃ d u, H d = some u ∧ Mut (some u) ∧ ∀ od, t D σ (upd H d (.frz od u))
theorem pss_frz {sts : List Stmt} {t : TS} (h : PSs X sts t) : PSs X sts (tFrz t) := ⟨fun pins s σ H D I hw => by
  obtain ⟨d, u, hd, mu, hw⟩ := hw
  obtain ⟨od, I1⟩ := I.lock hd mu
  exact h.run pins s σ _ _ I1 (hw od)⟩
theorem s_build {st f : Stmt} {rest : List Stmt} {s : Bd} {t : Bk} (h1 : PS X st (tAsg tDNewT (gName c))) (h2 : PS X f (tSd c s)) (h3 : PSs X rest (tS t)) : PSs X (st :: f :: rest) (tS (sBuild c s t)) := (pss_cons h1 (pss_cons h2 (pss_frz h3))).wk fun D σ H ⟨H0, ρ, o, s0, E, e, k⟩ => by
  unfold sBuild at e
  split at e
  · rename_i hc
    obtain ⟨r, er, e⟩ := bindS e
    intro l hl
    have hc' : c < σ.length := by rw [E.len]; exact hc
    have E1 : EnOk H0 (upd H l (.dT [])) (σ.set c (some (.ref l))) (ρ.set c none) := (E.mono (same_new hl)).drop _
    refine ⟨H0, _, [], r, s0.trans (same_new hl), ⟨E1, by rw [List.getElem?_set_self hc], l, [], List.getElem?_set_self hc', s0.free hl, upd_same, .nil⟩, er, fun σ' H' s1 E2 => ?_⟩
    obtain ⟨l', kvs, g1, g2, g3, g4⟩ := E2.at_
    exact ⟨l', _, g3, trivial, fun od => ⟨H0, _, o, same_mut s1 g2, E2.frozen g1 g3 g4, e, k⟩⟩
  · cases e
end
end Ai
set_option Elab.async false
set_option linter.all false
set_option maxRecDepth 100000
set_option maxHeartbeats 4000000
/-! Ai, part N: defs that ask for the texts of data (nothing is being shown around them). -/
namespace Ai
section
open PySem PySem.Spec PyProof.Rows L2
/-- FnOk where no text is being made around the call -/
structure FnG (P : Program) (w : World) (K : PySem.W.Frag) (mg : Str → Option Value) (base : Heap) (CX : CXT) (k : Nat) (f : Addr) (fd : FuncData) (ps : List Str) (sp : Sp) : Prop where
  many : ∀ vs H Q E, sp vs H Q E → vs.length = ps.length
  told : ∀ A : Around, A.guards = some [] → ∀ outer s H args us vs Q E, Room k A → Env0 P w K mg base A outer s H → BindsTo s fd args (ps.zip us) → Vals vs us → sp vs H Q E → codeAny (model P w) A (.call (.ref f) args) (CR CX outer P w H s Q E) s
section
variable {P : Program} {w : World} {K : PySem.W.Frag} {mg : Str → Option Value} {base : Heap} {CX : CXT} {j k : Nat} {f : Addr} {fd : FuncData} {N ps : List Str} {sp : Sp}
theorem _root_.L2.FnOk.g (F : FnOk P w K mg base CX k f fd ps sp) : FnG P w K mg base CX k f fd ps sp := { many := F.len, told := fun A _ => F.run A }
theorem FnG.mono (F : FnG P w K mg base CX j f fd ps sp) (h : j ≤ k) : FnG P w K mg base CX k f fd ps sp :=
  { many := F.many, told := fun A q outer s H args us vs Q E room => F.told A q outer s H args us vs Q E (room.mono h) }
/-- a def by its body -/
theorem fng_of {x qual : Str} {st : Stmt} (F : Fun K x qual st f fd) (S : FnScope N ps (defScope st)) (many : ∀ vs H Q E, sp vs H Q E → vs.length = ps.length)
    (body : ∀ cdv, fd.code = cdv → ∀ A outer s H vs Q E, A.guards = some [] → Room k (A.deeper (envOfC qual (defScope st) s.heap.objs.size f cdv)) → sp vs H Q E →
      ∃ t, PSs (cxOf CX P w K mg base N qual (defScope st) f cdv A outer s H E) (defBody st) t ∧ t { nx := fun _ H' => Q .non H', rt := Q } (L2.start N vs) H) :
    FnG P w K mg base CX (k + 1) f fd ps sp where
  many := many
  told := by
    obtain ⟨_, _, _, _, _, _, cdv, _, _, hfd, found, coded⟩ := F.ex
    subst hfd
    intro A quiet outer s H args us vs Q E room env0 binds vals ask
    have stays := fun b o e => (env0.bs b o e).1
    have mine := env0.mod.kin.keeps stays
    have free := env0.mod.nolimit.keeps stays
    apply codeAny_call_function room.depth (mine _ _ found) rfl S.co S.gen rfl (PySem.W.codeRec_of mine coded) (binds _ _ _ _ ?_)
    apply wpAny_newFunctionEnv_cells S.kind
    · rintro ⟨n, v⟩ hn
      exact (S.par n (List.of_mem_zip hn).1).imp id fun c => ⟨c, PySem.W.cellsFrom_some _ _ _ (Or.inl c)⟩
    rintro env rfl s1 began
    obtain ⟨t, runs, starts⟩ := body cdv rfl A outer s H vs Q E quiet (room.deeper _) ask
    constructor
    · exact free.keeps began.toInCall.keep
    apply codeAny_func
    refine wpAny_mono (runs.run [] s1 (L2.start N vs) H _ (inv_start S room.hd env0 (many _ _ _ _ ask) vals began) starts) ?_ fun _ _ z => z
    rintro (_ | _ | _ | u) s' z
    case ret =>
      obtain ⟨v, _, _, z⟩ := z
      exact ⟨v, _, z.1.os, z.1.bare, z.1.base, z.1.hok, z.2.1, z.2.2⟩
    case next =>
      obtain ⟨_, _, z⟩ := z
      exact ⟨V.non, _, z.1.os, z.1.bare, z.1.base, z.1.hok, rfl, z.2⟩
    all_goals
      obtain ⟨_, _, z⟩ := z
      exact False.elim z.2
end
section
variable {X : Cx} {CX : CXT} {k : Nat} {f : Addr} {fd : FuncData} {ps : List Str} {sp : Sp} {dvs : List V} {ds : List Value} {E : XK}
/-- it is called -/
theorem FnG.called (F : FnG X.prog X.w X.K X.mg X.base CX k f fd ps sp) (quiet : X.A.guards = some []) (room : Room k X.A) (binds : Binds X.K fd ps ds) (dvals : Vals dvs ds) (out : Passes CX X E)
    {pins : List (Addr × Obj)} {σ : L2.St} {H : Hp} {s : Shared} {Q : VK} {us : List Value} {vs : List V} (I : L2.Inv X pins σ H s) (vals : Vals vs us) (ask : sp (vs ++ dvs) H Q E) : wpAny (model X.prog X.w) X.A (call (.ref f) us) (EP X pins σ Q) X.xe s := by
  have both := vals.append dvals
  have size := both.length.symm.trans (F.many _ _ _ _ ask)
  apply wpAny_call
  refine codeAny_mono (F.told X.A quiet X.stack s H ⟨us, []⟩ (us ++ ds) (vs ++ dvs) Q E room I.env0 (binds s us I.kIn size) both ask) ?_
  rintro (e | (_ | _ | _ | u)) s' z
  · exact out pins σ H s e s' I z
  iterate 3 exact False.elim z
  exact I.after z
variable {x : Str} {p pos : Pos} {e : Expr} {es : List Expr} {t : TA} (F : FnG X.prog X.w X.K X.mg X.base CX k f fd ps sp) (quiet : X.A.guards = some []) (room : Room k X.A) (gl : Gl X x) (mine : X.mg x = some (.ref f)) (kept : PySem.W.keepIn X.K (.ref f) = true) (binds : Binds X.K fd ps ds) (dvals : Vals dvs ds) (out : Passes CX X E)
include F quiet room gl mine kept binds dvals out
theorem pe_callG (ha : PA X (e :: es) t) (nodb : (x == ("__debug__" : Str)) = false := by decide) (st : starEach (e :: es) X.env = (false, eval e X.env) :: starEach es X.env := by rfl) (pl : (backTo pos (starEach es X.env)).any (·.1) = false := by rfl) : PE X (.Call (.Name x p) (e :: es) [] pos) (tCall sp dvs E t) :=
  ⟨fun pins s σ H Q I h => wpAny_Call_Name_kw (ld_glob I gl mine (PySem.W.callWith_K (h₀ := X.base) I.ok.mod.kin kept (thn (ha.run pos pins s σ H _ I h) fun us s1 ⟨vs, H1, J, vals, ask⟩ => ⟨J.kIn, F.called quiet room binds dvals out J vals ask⟩) st pl) nodb)⟩
theorem pe_callG0 (nodb : (x == ("__debug__" : Str)) = false := by decide) : PE X (.Call (.Name x p) [] [] pos) (tCall sp dvs E tNil) :=
  ⟨fun pins s σ H Q I h => wpAny_Call_Name_kw (ld_glob I gl mine (PySem.W.callWith_K0 I.kIn kept (F.called (us := []) quiet room binds dvals out I .nil h)) nodb)⟩
end
end
open PySem L2
/-! ### repr of a list of data -/
mutual
/-- small: every int in it is -99 .. 99, no text, no dict -/
def smD : PyData → Bool
  | .int i => decide (-99 ≤ i) && decide (i ≤ 99)
  | .bool _ => true
  | .none => true
  | .tuple ds => smL ds
  | .list ds => smL ds
  | .str x => decide (x = Str.ofString "told") || decide (x = Str.ofString "too great")
  | .dict _ => false
def smL : List PyData → Bool
  | [] => true
  | d :: ds => smD d && smL ds
end
def okShow (ds : List PyData) : Bool := (PyData.list ds).showable && decide ((PyData.list ds).shown.length ≤ 1000000) && !(PyData.list ds).hasDict && decide ((PyData.list ds).depth ≤ 64)
def gRepr : List Val → Option Val
  | [.ls _ ds] => if okShow ds then some (.im (.str (PyData.list ds).shown)) else none
  | _ => none
section
variable {X : Cx}
def rRepr : List V → Hp → VK → Prop := fun vs H Q => ∃ b ds u, vs = [u] ∧ VOk H u (.ls b ds) ∧ okShow ds = true ∧ Q (.str (PyData.list ds).shown) H
theorem cr_repr (hA : X.A.guards = some []) (hu : X.A.units + 100 < cLine) : CallR X (.builtin "repr") rRepr := by
  intro pins s σ H vs us Q I r h
  obtain ⟨b, ds, u, rfl, hv, ok, q⟩ := h
  obtain ⟨w, rfl, rw'⟩ := vals1 r
  have hd := hv.dp (K := X.K) rfl
  obtain ⟨l, xs, e, hl, im⟩ := hv
  subst e
  obtain rfl : w = Value.ref l := rw'
  obtain ⟨as, r1⟩ := Dp.reads I _ _ _ hd rfl
  unfold okShow at ok
  simp only [Bool.and_eq_true, decide_eq_true_eq, Bool.not_eq_true'] at ok
  obtain ⟨⟨⟨o1, o2⟩, o3⟩, o4⟩ := ok
  refine repr_of_reads' (d := .list ds) r1 o1 (fun z => ?_) hA (by omega) (fun _ _ e => e) (fun h' t tk k => ⟨.str _, H, I.kept k, ⟨t, rfl⟩, q⟩) (by rw [sizeLine_eq]; omega)
  rw [show (PyData.list ds).hasDict = false from o3] at z
  cases z
def eLike (a b : Tas) : Xp := fun ρ => match a ρ, b ρ with
  | some [.ls _ ds], some [.ls _ es] => if okShow ds && okShow es then some (.im (.bool (decide ((PyData.list ds).shown = (PyData.list es).shown)))) else none
  | _, _ => none
theorem d_like {a b : Expr} {fa fb : Tas} {p p' q q' pos : Pos} (hA : X.A.guards = some []) (hu : X.A.units + 100 < cLine) (hg : Gl X "repr") (hm : X.mg "repr" = none) (ha : PA X [a] (tA fa)) (hb : PA X [b] (tA fb))
    (he : starEach [a] X.env = (false, eval a X.env) :: starEach [] X.env := by rfl) (he2 : starEach [b] X.env = (false, eval b X.env) :: starEach [] X.env := by rfl) :
    PE X (.Compare (.Call (.Name "repr" p) [a] [] p') [.Eq] [.Call (.Name "repr" q) [b] [] q'] pos) (tD (eLike fa fb)) :=
  (pe_cmpR op_eq (pe_callB (cr_repr hA hu) hg hm (by decide +kernel) ha (he := he)) (pe_callB (cr_repr hA hu) hg hm (by decide +kernel) hb (he := he2)) rfl).wk fun σ H Q ⟨H0, ρ, z, E, e, k⟩ => by
    unfold eLike at e
    split at e
    · rename_i b1 ds b2 es h1 h2
      obtain ⟨ok, e⟩ := ifS e
      subst e
      simp only [Bool.and_eq_true] at ok
      refine ⟨H0, ρ, _, E, h1, fun us H1 s1 v1 => ?_⟩
      obtain ⟨u, eu, vu⟩ := vs1 v1
      refine ⟨b1, ds, u, eu, vu, ok.1, ?_⟩
      refine ⟨H0, ρ, _, E.mono s1, h2, fun ws H2 s2 v2 => ?_⟩
      obtain ⟨w, ew, vw⟩ := vs1 v2
      refine ⟨b2, es, w, ew, vw, ok.2, rfl, ?_⟩
      rw [show decide (V.str (PyData.list ds).shown = V.str (PyData.list es).shown) = decide ((PyData.list ds).shown = (PyData.list es).shown) by simp]
      exact k _ H2 (s1.trans s2) (.bl _) trivial
    · cases e
end
/-- a def by its mirror, where texts are made -/
theorem fnGG {P : Program} {w : World} {K : PySem.W.Frag} {mg : Str → Option Value} {base : Heap} {x qual : Str} {st : Stmt} {f : Addr} {fd : FuncData} {N ps : List Str} {k n m : Nat} {s : Bk} (F : Fun K x qual st f fd) (S : FnScope N ps (defScope st)) (hn : n = ps.length) (hm : N.length - n = m)
    (hbody : ∀ (cdv : Value) (A : Around) (outer : List Env) (s0 : Shared) (H : Hp) (E : XK), A.guards = some [] → Room k (A.deeper (PyProof.Rows.envOfC qual (defScope st) s0.heap.objs.size f cdv)) →
      PSs (cxOf CX0 P w K mg base N qual (defScope st) f cdv A outer s0 H E).nox (defBody st) (tS s)) : FnG P w K mg base CX0 (k + 1) f fd ps (spG (run n m s)) :=
  fng_of F S (spG_len hn) fun cdv _ A outer s0 H vs Q E hA hr h => ⟨_, (hbody cdv A outer s0 H E hA hr).nox, body_G (ps := ps) hm h⟩
end Ai
set_option Elab.async false
set_option linter.all false
set_option maxRecDepth 100000
set_option maxHeartbeats 4000000
/-! Ai, part R: a for over a slot that holds a tuple, or a list not its own, while a dict is being made. -/
namespace Ai
open PySem L2
section
variable {X : Cx} {tg : Expr}
def tIw (i : Nat) (f : Src) : TI := fun σ H R => ∃ H0 ρ ds, EnOk H0 H σ ρ ∧ f ρ = some ds ∧ ∀ J A H1, Same H H1 → ItD J A H1 ds → (∀ a o, A a = some o → H1 a = some o ∧ (H a = none ∨ (∃ xs, o = .lst xs) ∧ σ[i]? = some (some (.ref a)) ∧ ∃ es, ρ[i]? = some (some (.ls false es)))) → R J H1
def srcVT (i : Nat) : Src := fun ρ => match ρ[i]? with
  | some (some (.im (.tuple ds))) => some ds
  | some (some (.ls false ds)) => some ds
  | _ => none
theorem i_vt (i : Nat) {x : Str} {pos : Pos} (h : PE X (.Name x pos) (tVar i)) : PI X tg (.Name x pos) (tIw i (srcVT i)) := (PI.either (pi_tup (tg := tg) h) (pi_list (tg := tg) h)).wk fun σ H R ⟨H0, ρ, ds, E, e, k⟩ => by
  unfold srcVT at e
  split at e
  · rename_i hf
    cases e
    obtain ⟨u, hu, v1⟩ := E.ok i _ hf
    obtain ⟨a, xs, e1, ha, im⟩ := Im.tupInv v1
    exact .inl ⟨u, hu, a, e1, ⟨xs, SqT.of ha⟩, k _ nH H (Same.refl H) (itd_tup ha im) fun _ _ z => by cases z⟩
  · rename_i hf
    cases e
    obtain ⟨u, hu, a, xs, e1, ha, im⟩ := E.ok i _ hf
    refine .inr ⟨u, hu, a, e1, ⟨xs, SqL.of ha⟩, k _ _ H (Same.refl H) (itd_lst im) fun b o z => ?_⟩
    obtain ⟨eb, eo⟩ := upd_nH z
    subst eb eo
    exact ⟨ha, .inr ⟨⟨_, rfl⟩, by rw [hu, e1], _, hf⟩⟩
  · cases e
variable {c : Nat}
theorem sd_forW {iter : Expr} {body : List Stmt} {src : Src} {vs : List Nat} {b : En → PyData → Option En} {sb : Bd} {pos : Pos} {i : Nat} (hp : PassesOwn (model X.prog X.w) X.A X.env X.xe) (hc : X.calm = true) (hi : PI X tg iter (tIw i src)) (hg : PG X tg (tG vs b)) (hb : PSs X body (tSd c sb))
    (hv : c ∉ vs) (hbn : ∀ ρ d ρ', b ρ d = some ρ' → ρ[c]? = some none → ρ'[c]? = some none) (hs : ∀ x, foldedSetIterable iter X.env x = pure x := by intro _; rfl) : PS X (.For tg iter body [] pos) (tSd c (bFor src b sb)) := (ps_for hp hc hi hg hb hs).wk fun D σ H ⟨H0, ρ, kv, o, s0, E, e, k⟩ => by
  obtain ⟨ds, eds, e⟩ := bindS e
  refine ⟨H0, ρ, ds, E.en, eds, fun J A H1 s1 it a1 => ?_⟩
  refine for_runD (fun _ _ _ _ h => h) (fun _ _ _ h => h) hv hbn (s0.trans s1) (fun a o z => (a1 a o z).1) (E.mono s1) it (fun j es l e1 e2 => ?_) (fun l e2 => ?_) e k
  · obtain ⟨w, h3, l', vs', h4, h5, _⟩ := E.en.ok j _ e1
    rw [e2] at h3
    cases h3
    cases h4
    cases q : A l with
    | none => rfl
    | some u =>
      obtain ⟨_, h7⟩ := a1 l u q
      rcases h7 with h7 | ⟨_, h8, es', h9⟩
      · rw [h7] at h5; cases h5
      · refine absurd h8 (E.en.sep j i es false es' l e1 h9 (fun z => ?_) e2)
        rw [z, h9] at e1
        cases e1
  · obtain ⟨l', kvs, h1, h2, h3, h4⟩ := E.at_
    rw [e2] at h1
    cases h1
    cases q : A l with
    | none => rfl
    | some u =>
      obtain ⟨h6, h7⟩ := a1 l u q
      rcases h7 with h7 | ⟨⟨xs, h8⟩, _⟩
      · rw [h7] at h3; cases h3
      · rw [s1 _ _ h3, h8] at h6
        cases h6
end
end Ai
set_option Elab.async false
set_option linter.all false
set_option maxRecDepth 100000
set_option maxHeartbeats 4000000
/-! Al, part A: what the defs share. -/
namespace Al
open PySem L2 Ai
def top (i : Nat) : Stmt := PySem.Challenge.pw_allislands_k16_whole_ranks.main.body.getD i (.Pass ⟨0, 0, 0, 0⟩)
theorem hu100 {k : Nat} {A : Around} (r : Room k A) : A.units + 100 < cLine := by have := r.un; omega
/-- the built-in names stand free -/
structure Bi (mg : Str → Option Value) : Prop where
  isinstance : mg "isinstance" = none
  int : mg "int" = none
  bool : mg "bool" = none
  str : mg "str" = none
  tuple : mg "tuple" = none
  list : mg "list" = none
  set : mg "set" = none
  len : mg "len" = none
  sorted : mg "sorted" = none
  zip : mg "zip" = none
  range : mg "range" = none
  enumerate : mg "enumerate" = none
  repr : mg "repr" = none
/-- a global int -/
def GI (mg : Str → Option Value) (x : Str) (i : Int) : Prop := ∃ t, mg x = some (.int i t)
structure Gc (mg : Str → Option Value) : Prop where
  MOST_PLACE : GI mg "MOST_PLACE" 1000000000
  MOST_MARKS : GI mg "MOST_MARKS" 400
  MOST_NEEDS_rules : GI mg "MOST_NEEDS_rules" 60
  MOST_PLACES : GI mg "MOST_PLACES" 12
  MOST_SIZE : GI mg "MOST_SIZE" 20
  MOST_DEEP : GI mg "MOST_DEEP" 6
  MOST_PARTS : GI mg "MOST_PARTS" 20
  MOST_TERMS : GI mg "MOST_TERMS" 60
  MOST_TIMES : GI mg "MOST_TIMES" 1000000000000000000000000000000
  MOST_SPREAD : GI mg "MOST_SPREAD" 12
  MOST_NEAR : GI mg "MOST_NEAR" 20
  MOST_NEEDS_termwork : GI mg "MOST_NEEDS_termwork" 60
  MOST_STEPS : GI mg "MOST_STEPS" 60
/-- a def that may be called, by its mirror -/
structure DG (P : Program) (w : World) (K : PySem.W.Frag) (mg : Str → Option Value) (base : Heap) (k : Nat) (x : Str) (g : List Val → Option Val) : Prop where
  ex : ∃ f fd ps, FnOk P w K mg base CX0 k f fd ps (spG g) ∧ mg x = some (.ref f) ∧ PySem.W.keepIn K (.ref f) = true ∧ Binds K fd ps []
section
variable {X : Cx} {k j : Nat} {x : Str} {g : List Val → Option Val} {e : Expr} {es : List Expr} {fa : Tas} {p pos : Pos}
theorem d_fn (D : DG X.prog X.w X.K X.mg X.base k x g) (hr : Room j X.A) (hk : k ≤ j) (hg : Gl X x) (ha : PA X (e :: es) (tA fa)) (hdb : (x == ("__debug__" : Str)) = false := by decide) (he : starEach (e :: es) X.env = (false, eval e X.env) :: starEach es X.env := by rfl)
    (hpl : (backTo pos (starEach es X.env)).any (·.1) = false := by rfl) : PE X (.Call (.Name x p) (e :: es) [] pos) (tD (eCall g fa)) := by
  obtain ⟨f, fd, ps, F, hm, kp, b⟩ := D.ex
  exact d_call (pe_call (E := E0) F (hr.mono hk) hg hm kp b .nil pass0 ha hdb he hpl)
theorem d_isin {T : String} {fa : Xp} {p2 : Pos} {y : Str} (hg : Gl X "isinstance") (hm : X.mg "isinstance" = none) (hg2 : Gl X y) (hm2 : X.mg y = none) (ha : PE X e (tD fa)) (hb : bootBuiltins y = some (.type T) := by decide +kernel) (hn : y ≠ "__name__" := by decide)
    (hdb : (y == ("__debug__" : Str)) = false := by decide)
    (hs : starEach [e, .Name y p2] X.env = (false, eval e X.env) :: starEach [.Name y p2] X.env := by rfl) (hpl : (backTo pos (starEach [.Name y p2] X.env)).any (·.1) = false := by rfl) :
    PE X (.Call (.Name "isinstance" p) [e, .Name y p2] [] pos) (tD (eIsi T fa)) :=
  d_isi (a := e) (pe_callB call_isi hg hm (by decide +kernel) (pa_cons ha (pa_cons (pe_bltn (v := .ty T) hg2 hm2 hb rfl hn hdb) pa_nil) hs) (he := hs) (hpl := hpl))
end
/-- the sum of ints, of tuples, of lists -/
def gAdd : Val → Val → Option Val := fun x y => (gI (fun _ _ => true) (· + ·) x y).or ((gCatT x y).or (gCatL x y))
def gSub : Val → Val → Option Val := gI (fun _ _ => true) (· - ·)
def gMul : Val → Val → Option Val := gI cMul (· * ·)
def gDiv : Val → Val → Option Val := gI cDiv (· / ·)
def gMod : Val → Val → Option Val := gI cMod (· % ·)
end Al
set_option Elab.async false
set_option linter.all false
set_option maxRecDepth 100000
set_option maxHeartbeats 4000000
namespace Al
open PySem L2 Ai
section
variable {P : Program} {w : World} {K : PySem.W.Frag} {mg : Str → Option Value} {base : Heap}
def src1 (a : Tas) : Src := fun ρ => match a ρ with
    | some [.im (.int j)] => if small j then some (intsD 0 1 j.toNat) else none
    | _ => none
def src2 (a : Tas) : Src := fun ρ => match a ρ with
    | some [.im (.int i), .im (.int j)] => if small i && small j then some (intsD i 1 (j - i).toNat) else none
    | _ => none
def src3 (a : Tas) : Src := fun ρ => match a ρ with
    | some [.im (.int i), .im (.int j), .im (.int (-1))] => if small i && small j then some (intsD i (-1) (i - j).toNat) else none
    | _ => none
abbrev s_is_from : Stmt := top 9
theorem sc_is_from : FnScope ["value", "low", "high"] ["value", "low", "high"] (defScope s_is_from) := ⟨rfl, rfl, rfl, by decide +kernel, rfl, by decide +kernel, by decide +kernel⟩
def m_is_from : Bk := (sRet (eAnd (eIsi "int" (eVar 0)) (eAnd (eNot (eIsi "bool" (eVar 0))) (eChain (gRel fLe) (gRel fLe) (eVar 1) (eVar 0) (eVar 2)))))
def g_is_from : List Val → Option Val := run 3 0 m_is_from
theorem ok_is_from (B : Bi mg) {f : Addr} {fd : FuncData} (F : Fun K "is_from" "is_from" s_is_from f fd) : FnOk P w K mg base CX0 2 f fd ["value", "low", "high"] (spG g_is_from) :=
  have S := sc_is_from
  fnG (n := 3) (m := 0) (s := m_is_from) F S rfl rfl fun cdv A outer s0 H E hr =>
    (s_one (s_ret (d_and (d_isin rfl B.isinstance rfl B.int (d_var 0 (pv 0))) (d_and (d_not (d_isin rfl B.isinstance rfl B.bool (d_var 0 (pv 0)))) (d_one (d_lele (hu100 hr) (d_var 1 (pv 1)) (d_var 0 (pv 0)) (d_var 2 (pv 2))))))))
abbrev s_is_pair_from : Stmt := top 10
theorem sc_is_pair_from : FnScope ["value", "most"] ["value", "most"] (defScope s_is_pair_from) := ⟨rfl, rfl, rfl, by decide +kernel, rfl, by decide +kernel, by decide +kernel⟩
def m_is_pair_from : Bk := (sSeq (sIf (tOrE (tNotE (eB (eIsi "tuple" (eVar 0)))) (eB (eBin gNe (eCall gLen (aCons (eVar 0) aNil)) (eC (.int 2))))) (sRet (eC (.bool false))) sNext) (sRet (eAnd (eCall g_is_from (aCons (eBin gIx (eVar 0) (eC (.int 0))) (aCons (eNeg (eVar 1)) (aCons (eVar 1) aNil)))) (eCall g_is_from (aCons (eBin gIx (eVar 0) (eC (.int 1))) (aCons (eNeg (eVar 1)) (aCons (eVar 1) aNil)))))))
def g_is_pair_from : List Val → Option Val := run 2 0 m_is_pair_from
theorem ok_is_pair_from (B : Bi mg) (D_is_from : DG P w K mg base 2 "is_from" g_is_from) {f : Addr} {fd : FuncData} (F : Fun K "is_pair_from" "is_pair_from" s_is_pair_from f fd) : FnOk P w K mg base CX0 3 f fd ["value", "most"] (spG g_is_pair_from) :=
  have S := sc_is_pair_from
  fnG (n := 2) (m := 0) (s := m_is_pair_from) F S rfl rfl fun cdv A outer s0 H E hr =>
    (s_cons (s_if (t_w (w_or (t_not (t_val (d_isin rfl B.isinstance rfl B.tuple (d_var 0 (pv 0))))) (w_or1 (t_ne (hu100 hr) (d_len rfl B.len (a_cons (d_var 0 (pv 0)) a_nil)) d_int)))) (s_one (s_ret d_bool)) s_nil) (s_one (s_ret (d_and (d_fn D_is_from hr (by omega) rfl (a_cons (d_ix (d_var 0 (pv 0)) d_int) (a_cons (d_neg (d_var 1 (pv 1))) (a_cons (d_var 1 (pv 1)) a_nil)))) (d_one (d_fn D_is_from hr (by omega) rfl (a_cons (d_ix (d_var 0 (pv 0)) d_int) (a_cons (d_neg (d_var 1 (pv 1))) (a_cons (d_var 1 (pv 1)) a_nil)))))))))
abbrev s_is_place : Stmt := top 11
theorem sc_is_place : FnScope ["value"] ["value"] (defScope s_is_place) := ⟨rfl, rfl, rfl, by decide +kernel, rfl, by decide +kernel, by decide +kernel⟩
def m_is_place : Bk := (sRet (eCall g_is_pair_from (aCons (eVar 0) (aCons (eC (.int 1000000000)) aNil))))
def g_is_place : List Val → Option Val := run 1 0 m_is_place
theorem ok_is_place (Gc0 : Gc mg) (D_is_pair_from : DG P w K mg base 3 "is_pair_from" g_is_pair_from) {f : Addr} {fd : FuncData} (F : Fun K "is_place" "is_place" s_is_place f fd) : FnOk P w K mg base CX0 4 f fd ["value"] (spG g_is_place) :=
  have S := sc_is_place
  fnG (n := 1) (m := 0) (s := m_is_place) F S rfl rfl fun cdv A outer s0 H E hr =>
    (s_one (s_ret (d_fn D_is_pair_from hr (by omega) rfl (a_cons (d_var 0 (pv 0)) (a_cons (d_glob rfl Gc0.MOST_PLACE) a_nil)))))
abbrev s_taken_off : Stmt := top 13
theorem sc_taken_off : FnScope ["one", "other"] ["one", "other"] (defScope s_taken_off) := ⟨rfl, rfl, rfl, by decide +kernel, rfl, by decide +kernel, by decide +kernel⟩
def m_taken_off : Bk := (sRet (eTup (aCons (eBin gSub (eBin gIx (eVar 0) (eC (.int 0))) (eBin gIx (eVar 1) (eC (.int 0)))) (aCons (eBin gSub (eBin gIx (eVar 0) (eC (.int 1))) (eBin gIx (eVar 1) (eC (.int 1)))) aNil))))
def g_taken_off : List Val → Option Val := run 2 0 m_taken_off
theorem ok_taken_off {f : Addr} {fd : FuncData} (F : Fun K "taken_off" "taken_off" s_taken_off f fd) : FnOk P w K mg base CX0 2 f fd ["one", "other"] (spG g_taken_off) :=
  have S := sc_taken_off
  fnG (n := 2) (m := 0) (s := m_taken_off) F S rfl rfl fun cdv A outer s0 H E hr =>
    (s_one (s_ret (d_tup (a_cons (d_sub (d_ix (d_var 0 (pv 0)) d_int) (d_ix (d_var 1 (pv 1)) d_int)) (a_cons (d_sub (d_ix (d_var 0 (pv 0)) d_int) (d_ix (d_var 1 (pv 1)) d_int)) a_nil)))))
abbrev s_is_island : Stmt := top 16
theorem sc_is_island : FnScope ["value", "place", "near", "far"] ["value"] (defScope s_is_island) := ⟨rfl, rfl, rfl, by decide +kernel, rfl, by decide +kernel, by decide +kernel⟩
def m_is_island : Bk := (sSeq (sIf (tOrE (tNotE (eB (eIsi "tuple" (eVar 0)))) (eB (eBin (gRel fGt) (eCall gLen (aCons (eVar 0) aNil)) (eC (.int 400))))) (sRet (eC (.bool false))) sNext) (sSeq (sFor (srcT (eVar 0)) (bName 1) (sIf (tNotE (eB (eCall g_is_place (aCons (eVar 1) aNil)))) (sRet (eC (.bool false))) sNext)) (sSeq (sFor (srcZ (aCons (eVar 0) (aCons (eTail (eVar 0)) aNil))) (bPair 2 3) (sIf (eB (eBin (gRel fGe) (eVar 2) (eVar 3))) (sRet (eC (.bool false))) sNext)) (sRet (eC (.bool true))))))
def g_is_island : List Val → Option Val := run 1 3 m_is_island
theorem ok_is_island (B : Bi mg) (Gc0 : Gc mg) (D_is_place : DG P w K mg base 4 "is_place" g_is_place) {f : Addr} {fd : FuncData} (F : Fun K "is_island" "is_island" s_is_island f fd) : FnOk P w K mg base CX0 5 f fd ["value"] (spG g_is_island) :=
  have S := sc_is_island
  fnG (n := 1) (m := 3) (s := m_is_island) F S rfl rfl fun cdv A outer s0 H E hr =>
    (s_cons (s_if (t_w (w_or (t_not (t_val (d_isin rfl B.isinstance rfl B.tuple (d_var 0 (pv 0))))) (w_or1 (t_gt (hu100 hr) (d_len rfl B.len (a_cons (d_var 0 (pv 0)) a_nil)) (d_glob rfl Gc0.MOST_MARKS))))) (s_one (s_ret d_bool)) s_nil) (s_cons (s_for PassesOwn.never rfl (i_tup (d_var 0 (pv 0))) (g_name (pg_name (i := 1) S.nd rfl (by first | exact Or.inl rfl | exact Or.inr rfl))) (s_one (s_if (t_not (t_val (d_fn D_is_place hr (by omega) rfl (a_cons (d_var 1 (pv 1)) a_nil)))) (s_one (s_ret d_bool)) s_nil))) (s_cons (s_for PassesOwn.never rfl (i_zip (RZ.pi_zipA rfl B.zip (a_cons (d_var 0 (pv 0)) (a_cons (d_tail (d_var 0 (pv 0))) a_nil)))) (g_pair (pg_tup rfl (pgs_cons (pg_name (i := 2) S.nd rfl (by first | exact Or.inl rfl | exact Or.inr rfl)) (pgs_cons (pg_name (i := 3) S.nd rfl (by first | exact Or.inl rfl | exact Or.inr rfl)) pgs_nil)))) (s_one (s_if (t_ge (hu100 hr) (d_var 2 (pv 2)) (d_var 3 (pv 3))) (s_one (s_ret d_bool)) s_nil))) (s_one (s_ret d_bool)))))
abbrev s_need_island : Stmt := top 17
theorem sc_need_island : FnScope ["value"] ["value"] (defScope s_need_island) := ⟨rfl, rfl, rfl, by decide +kernel, rfl, by decide +kernel, by decide +kernel⟩
def m_need_island : Bk := (sSeq (sIf (tNotE (eB (eCall g_is_island (aCons (eVar 0) aNil)))) sNever sNext) (sRet (eVar 0)))
def g_need_island : List Val → Option Val := run 1 0 m_need_island
theorem ok_need_island (D_is_island : DG P w K mg base 5 "is_island" g_is_island) {f : Addr} {fd : FuncData} (F : Fun K "need_island" "need_island" s_need_island f fd) : FnOk P w K mg base CX0 6 f fd ["value"] (spG g_need_island) :=
  have S := sc_need_island
  fnG (n := 1) (m := 0) (s := m_need_island) F S rfl rfl fun cdv A outer s0 H E hr =>
    (s_cons (s_if (t_not (t_val (d_fn D_is_island hr (by omega) rfl (a_cons (d_var 0 (pv 0)) a_nil)))) ss_never s_nil) (s_one (s_ret (d_var 0 (pv 0)))))
abbrev s_is_need : Stmt := top 23
theorem sc_is_need : FnScope ["value", "place", "near", "far"] ["value"] (defScope s_is_need) := ⟨rfl, rfl, rfl, by decide +kernel, rfl, by decide +kernel, by decide +kernel⟩
def m_is_need : Bk := (sSeq (sIf (tOrE (tNotE (eB (eIsi "tuple" (eVar 0)))) (tNotE (eB (eChain (gRel fLe) (gRel fLe) (eC (.int 1)) (eCall gLen (aCons (eVar 0) aNil)) (eC (.int 12)))))) (sRet (eC (.bool false))) sNext) (sSeq (sIf (eB (eBin gNe (eComp (srcT (eVar 0)) [1] (bName 1) (tNotE (eB (eCall g_is_pair_from (aCons (eVar 1) (aCons (eC (.int 20)) aNil))))) (eC (.int 1))) (eLst aNil))) (sRet (eC (.bool false))) sNext) (sRet (eBin gEq (eComp (srcZ (aCons (eVar 0) (aCons (eTail (eVar 0)) aNil))) [2, 3] (bPair 2 3) (eB (eBin (gRel fGe) (eVar 2) (eVar 3))) (eC (.int 1))) (eLst aNil)))))
def g_is_need : List Val → Option Val := run 1 3 m_is_need
theorem ok_is_need (B : Bi mg) (Gc0 : Gc mg) (D_is_pair_from : DG P w K mg base 3 "is_pair_from" g_is_pair_from) {f : Addr} {fd : FuncData} (F : Fun K "is_need" "is_need" s_is_need f fd) : FnOk P w K mg base CX0 4 f fd ["value"] (spG g_is_need) :=
  have S := sc_is_need
  fnG (n := 1) (m := 3) (s := m_is_need) F S rfl rfl fun cdv A outer s0 H E hr =>
    (s_cons (s_if (t_w (w_or (t_not (t_val (d_isin rfl B.isinstance rfl B.tuple (d_var 0 (pv 0))))) (w_or1 (t_not (t_lele (hu100 hr) d_int (d_len rfl B.len (a_cons (d_var 0 (pv 0)) a_nil)) (d_glob rfl Gc0.MOST_PLACES)))))) (s_one (s_ret d_bool)) s_nil) (s_cons (s_if (t_ne (hu100 hr) (d_comp (own := [("place", 1)]) rfl S.nd (i_c (i_tup (d_var 0 (pv 0)))) (blkOk_by (N := ["value", "place", "near", "far"]) (sc := defScope s_is_need) (by decide +kernel)) (fun _ _ _ _ _ => (g_name (pg_name (i := 1) S.nd rfl (by first | exact Or.inl rfl | exact Or.inr rfl)))) (fun _ _ _ _ _ => (pts_oneD (t_not (t_val (d_fn D_is_pair_from hr (by omega) rfl (a_cons (d_var 1 (pv 1)) (a_cons (d_glob rfl Gc0.MOST_SIZE) a_nil))))))) (fun _ _ _ _ _ => d_int)) (d_lst a_nil)) (s_one (s_ret d_bool)) s_nil) (s_one (s_ret (d_eq (hu100 hr) (d_comp (own := [("near", 2), ("far", 3)]) rfl S.nd (i_c (i_zip (RZ.pi_zipA rfl B.zip (a_cons (d_var 0 (pv 0)) (a_cons (d_tail (d_var 0 (pv 0))) a_nil))))) (blkOk_by (N := ["value", "place", "near", "far"]) (sc := defScope s_is_need) (by decide +kernel)) (fun _ _ _ _ _ => (g_pair (pg_tup rfl (pgs_cons (pg_name (i := 2) S.nd rfl (by first | exact Or.inl rfl | exact Or.inr rfl)) (pgs_cons (pg_name (i := 3) S.nd rfl (by first | exact Or.inl rfl | exact Or.inr rfl)) pgs_nil))))) (fun _ _ _ _ _ => (pts_oneD (t_ge (hu100 hr) (d_var 2 (pv 2)) (d_var 3 (pv 3))))) (fun _ _ _ _ _ => d_int)) (d_lst a_nil))))))
abbrev s_odd_set : Stmt := top 24
theorem sc_odd_set : FnScope ["value", "index", "need"] ["value"] (defScope s_odd_set) := ⟨rfl, rfl, rfl, by decide +kernel, rfl, by decide +kernel, by decide +kernel⟩
def m_odd_set : Bk := (sSeq (sIf (tOrE (tNotE (eB (eIsi "tuple" (eVar 0)))) (tNotE (eB (eChain (gRel fLe) (gRel fLe) (eC (.int 1)) (eCall gLen (aCons (eVar 0) aNil)) (eC (.int 60)))))) (sRet (eTup aNil)) sNext) (sSeq (sFor (srcE (aCons (eVar 0) aNil)) (bPair 1 2) (sIf (tNotE (eB (eCall g_is_need (aCons (eVar 2) aNil)))) (sRet (eTup (aCons (eVar 1) aNil))) sNext)) (sRet (eC .none))))
def g_odd_set : List Val → Option Val := run 1 2 m_odd_set
theorem ok_odd_set (B : Bi mg) (Gc0 : Gc mg) (D_is_need : DG P w K mg base 4 "is_need" g_is_need) {f : Addr} {fd : FuncData} (F : Fun K "odd_set" "odd_set" s_odd_set f fd) : FnOk P w K mg base CX0 5 f fd ["value"] (spG g_odd_set) :=
  have S := sc_odd_set
  fnG (n := 1) (m := 2) (s := m_odd_set) F S rfl rfl fun cdv A outer s0 H E hr =>
    (s_cons (s_if (t_w (w_or (t_not (t_val (d_isin rfl B.isinstance rfl B.tuple (d_var 0 (pv 0))))) (w_or1 (t_not (t_lele (hu100 hr) d_int (d_len rfl B.len (a_cons (d_var 0 (pv 0)) a_nil)) (d_glob rfl Gc0.MOST_NEEDS_rules)))))) (s_one (s_ret (d_tup a_nil))) s_nil) (s_cons (s_for PassesOwn.never rfl (i_enum (pi_enumT rfl B.enumerate (a_cons (d_var 0 (pv 0)) a_nil))) (g_pair (pg_tup rfl (pgs_cons (pg_name (i := 1) S.nd rfl (by first | exact Or.inl rfl | exact Or.inr rfl)) (pgs_cons (pg_name (i := 2) S.nd rfl (by first | exact Or.inl rfl | exact Or.inr rfl)) pgs_nil)))) (s_one (s_if (t_not (t_val (d_fn D_is_need hr (by omega) rfl (a_cons (d_var 2 (pv 2)) a_nil)))) (s_one (s_ret (d_tup (a_cons (d_var 1 (pv 1)) a_nil)))) s_nil))) (s_one (s_ret d_none))))
abbrev s_has_all : Stmt := top 25
theorem sc_has_all : FnScope ["need", "other", "place"] ["need", "other"] (defScope s_has_all) := ⟨rfl, rfl, rfl, by decide +kernel, rfl, by decide +kernel, by decide +kernel⟩
def m_has_all : Bk := (sRet (eBin gEq (eComp (srcT (eVar 1)) [2] (bName 2) (eB (eBin (gIn true) (eVar 2) (eVar 0))) (eC (.int 1))) (eLst aNil)))
def g_has_all : List Val → Option Val := run 2 1 m_has_all
theorem ok_has_all {f : Addr} {fd : FuncData} (F : Fun K "has_all" "has_all" s_has_all f fd) : FnOk P w K mg base CX0 2 f fd ["need", "other"] (spG g_has_all) :=
  have S := sc_has_all
  fnG (n := 2) (m := 1) (s := m_has_all) F S rfl rfl fun cdv A outer s0 H E hr =>
    (s_one (s_ret (d_eq (hu100 hr) (d_comp (own := [("place", 2)]) rfl S.nd (i_c (i_tup (d_var 1 (pv 1)))) (blkOk_by (N := ["need", "other", "place"]) (sc := defScope s_has_all) (by decide +kernel)) (fun _ _ _ _ _ => (g_name (pg_name (i := 2) S.nd rfl (by first | exact Or.inl rfl | exact Or.inr rfl)))) (fun _ _ _ _ _ => (pts_oneD (t_notin (hu100 hr) (d_var 2 (pv 2)) (d_var 0 (pv 0)) rfl))) (fun _ _ _ _ _ => d_int)) (d_lst a_nil))))
abbrev s_need_rule : Stmt := top 26
theorem sc_need_rule : FnScope ["rule", "place", "index", "need", "other"] ["rule"] (defScope s_need_rule) := ⟨rfl, rfl, rfl, by decide +kernel, rfl, by decide +kernel, by decide +kernel⟩
def m_need_rule : Bk := (sSeq (sAsg 1 (eCall g_odd_set (aCons (eVar 0) aNil))) (sSeq (sIf (eB (eIsNone true (eVar 1))) sNever sNext) (sSeq (sFor (src2 (aCons (eC (.int 1)) (aCons (eCall gLen (aCons (eVar 0) aNil)) aNil))) (bName 2) (sIf (eB (eBin (gRel fGe) (eBin gIx (eVar 0) (eBin gSub (eVar 2) (eC (.int 1)))) (eBin gIx (eVar 0) (eVar 2)))) sNever sNext)) (sSeq (sFor (srcE (aCons (eVar 0) aNil)) (bPair 2 3) (sIf (eB (eBin gNe (eComp (srcT (eVar 0)) [4] (bName 4) (tAndE (eB (eBin gNe (eVar 4) (eVar 3))) (eB (eCall g_has_all (aCons (eVar 3) (aCons (eVar 4) aNil))))) (eC (.int 1))) (eLst aNil))) sNever sNext)) (sRet (eVar 0))))))
def g_need_rule : List Val → Option Val := run 1 4 m_need_rule
theorem ok_need_rule (B : Bi mg) (D_odd_set : DG P w K mg base 5 "odd_set" g_odd_set) (D_has_all : DG P w K mg base 2 "has_all" g_has_all) {f : Addr} {fd : FuncData} (F : Fun K "need_rule" "need_rule" s_need_rule f fd) : FnOk P w K mg base CX0 6 f fd ["rule"] (spG g_need_rule) :=
  have S := sc_need_rule
  fnG (n := 1) (m := 4) (s := m_need_rule) F S rfl rfl fun cdv A outer s0 H E hr =>
    (s_cons (s_asg (ps_set (i := 1) S.nd rfl (by first | exact Or.inl rfl | exact Or.inr rfl) (d_fn D_odd_set hr (by omega) rfl (a_cons (d_var 0 (pv 0)) a_nil)))) (s_cons (s_if (t_isnotN (d_var 1 (pv 1))) ss_never s_nil) (s_cons (s_for PassesOwn.never rfl (i_rng2 (pi_range2 rfl B.range (a_cons d_int (a_cons (d_len rfl B.len (a_cons (d_var 0 (pv 0)) a_nil)) a_nil)))) (g_name (pg_name (i := 2) S.nd rfl (by first | exact Or.inl rfl | exact Or.inr rfl))) (s_one (s_if (t_ge (hu100 hr) (d_ix (d_var 0 (pv 0)) (d_sub (d_var 2 (pv 2)) d_int)) (d_ix (d_var 0 (pv 0)) (d_var 2 (pv 2)))) ss_never s_nil))) (s_cons (s_for PassesOwn.never rfl (i_enum (pi_enumT rfl B.enumerate (a_cons (d_var 0 (pv 0)) a_nil))) (g_pair (pg_tup rfl (pgs_cons (pg_name (i := 2) S.nd rfl (by first | exact Or.inl rfl | exact Or.inr rfl)) (pgs_cons (pg_name (i := 3) S.nd rfl (by first | exact Or.inl rfl | exact Or.inr rfl)) pgs_nil)))) (s_one (s_if (t_ne (hu100 hr) (d_comp (own := [("other", 4)]) rfl S.nd (i_c (i_tup (d_var 0 (pv 0)))) (blkOk_by (N := ["rule", "place", "index", "need", "other"]) (sc := defScope s_need_rule) (by decide +kernel)) (fun _ _ _ _ _ => (g_name (pg_name (i := 4) S.nd rfl (by first | exact Or.inl rfl | exact Or.inr rfl)))) (fun _ _ _ _ _ => (pts_oneD (t_w (w_and (t_ne (hu100 hr) (d_var 4 (pv 4)) (d_var 3 (pv 3))) (w_and1 (t_val (d_fn D_has_all hr (by omega) rfl (a_cons (d_var 3 (pv 3)) (a_cons (d_var 4 (pv 4)) a_nil))))))))) (fun _ _ _ _ _ => d_int)) (d_lst a_nil)) ss_never s_nil))) (s_one (s_ret (d_var 0 (pv 0))))))))
abbrev s_holds_one : Stmt := top 29
theorem sc_holds_one : FnScope ["need", "rule", "other"] ["need", "rule"] (defScope s_holds_one) := ⟨rfl, rfl, rfl, by decide +kernel, rfl, by decide +kernel, by decide +kernel⟩
def m_holds_one : Bk := (sRet (eBin gNe (eComp (srcTL (eVar 1)) [2] (bName 2) (eB (eCall g_has_all (aCons (eVar 0) (aCons (eVar 2) aNil)))) (eC (.int 1))) (eLst aNil)))
def g_holds_one : List Val → Option Val := run 2 1 m_holds_one
theorem ok_holds_one (D_has_all : DG P w K mg base 2 "has_all" g_has_all) {f : Addr} {fd : FuncData} (F : Fun K "holds_one" "holds_one" s_holds_one f fd) : FnOk P w K mg base CX0 3 f fd ["need", "rule"] (spG g_holds_one) :=
  have S := sc_holds_one
  fnG (n := 2) (m := 1) (s := m_holds_one) F S rfl rfl fun cdv A outer s0 H E hr =>
    (s_one (s_ret (d_ne (hu100 hr) (d_comp (own := [("other", 2)]) rfl S.nd (i_tl (d_var 1 (pv 1))) (blkOk_by (N := ["need", "rule", "other"]) (sc := defScope s_holds_one) (by decide +kernel)) (fun _ _ _ _ _ => (g_name (pg_name (i := 2) S.nd rfl (by first | exact Or.inl rfl | exact Or.inr rfl)))) (fun _ _ _ _ _ => (pts_oneD (t_val (d_fn D_has_all hr (by omega) rfl (a_cons (d_var 0 (pv 0)) (a_cons (d_var 2 (pv 2)) a_nil)))))) (fun _ _ _ _ _ => d_int)) (d_lst a_nil))))
abbrev s_least_of : Stmt := top 27
theorem sc_least_of : FnScope ["needs", "kept", "need"] ["needs"] (defScope s_least_of) := ⟨rfl, rfl, rfl, by decide +kernel, rfl, by decide +kernel, by decide +kernel⟩
def m_least_of : Bk := (sSeq (sAsg 1 (eLst aNil)) (sSeq (sFor (srcN (eCall gSortL (aCons (eVar 0) aNil))) (bName 2) (sIf (tNotE (eB (eCall g_holds_one (aCons (eVar 2) (aCons (eVar 1) aNil))))) (sApp 1 (eVar 2)) sNext)) (sRet (eCall gTuple (aCons (eCall gSorted (aCons (eVar 1) aNil)) aNil)))))
def g_least_of : List Val → Option Val := run 1 2 m_least_of
theorem ok_least_of (B : Bi mg) (D_holds_one : DG P w K mg base 3 "holds_one" g_holds_one) {f : Addr} {fd : FuncData} (F : Fun K "least_of" "least_of" s_least_of f fd) : FnOk P w K mg base CX0 4 f fd ["needs"] (spG g_least_of) :=
  have S := sc_least_of
  fnG (n := 1) (m := 2) (s := m_least_of) F S rfl rfl fun cdv A outer s0 H E hr =>
    (s_cons (s_asg (ps_set (i := 1) S.nd rfl (by first | exact Or.inl rfl | exact Or.inr rfl) (d_lst a_nil))) (s_cons (s_for PassesOwn.never rfl (i_new (d_sortedL rfl B.sorted rfl B.len (a_cons (d_var 0 (pv 0)) a_nil))) (g_name (pg_name (i := 2) S.nd rfl (by first | exact Or.inl rfl | exact Or.inr rfl))) (s_one (s_if (t_not (t_val (d_fn D_holds_one hr (by omega) rfl (a_cons (d_var 2 (pv 2)) (a_cons (d_var 1 (pv 1)) a_nil))))) (s_one (s_app (ps_expr (pe_bm PySem.F.plainAttrs_list PySem.F.slot_list_append PySem.F.type_list_append mt_append (pv 1) (pa_cons (d_var 2 (pv 2)) pa_nil))))) s_nil))) (s_one (s_ret (d_tupleOf rfl B.tuple (a_cons (d_sorted (hu100 hr) rfl B.sorted (a_cons (d_var 1 (pv 1)) a_nil)) a_nil))))))
abbrev s_counted : Stmt := top 28
theorem sc_counted : FnScope ["needs"] ["needs"] (defScope s_counted) := ⟨rfl, rfl, rfl, by decide +kernel, rfl, by decide +kernel, by decide +kernel⟩
def m_counted : Bk := (sSeq (sIf (eB (eBin (gRel fGt) (eCall gLen (aCons (eVar 0) aNil)) (eC (.int 60)))) sNever sNext) (sRet (eVar 0)))
def g_counted : List Val → Option Val := run 1 0 m_counted
theorem ok_counted (B : Bi mg) (Gc0 : Gc mg) {f : Addr} {fd : FuncData} (F : Fun K "counted" "counted" s_counted f fd) : FnOk P w K mg base CX0 2 f fd ["needs"] (spG g_counted) :=
  have S := sc_counted
  fnG (n := 1) (m := 0) (s := m_counted) F S rfl rfl fun cdv A outer s0 H E hr =>
    (s_cons (s_if (t_gt (hu100 hr) (d_len rfl B.len (a_cons (d_var 0 (pv 0)) a_nil)) (d_glob rfl Gc0.MOST_NEEDS_rules)) ss_never s_nil) (s_one (s_ret (d_var 0 (pv 0)))))
abbrev s_is_lesser : Stmt := top 30
theorem sc_is_lesser : FnScope ["one", "other", "need"] ["one", "other"] (defScope s_is_lesser) := ⟨rfl, rfl, rfl, by decide +kernel, rfl, by decide +kernel, by decide +kernel⟩
def m_is_lesser : Bk := (sSeq (sDrop (eCall g_need_rule (aCons (eVar 0) aNil))) (sSeq (sDrop (eCall g_need_rule (aCons (eVar 1) aNil))) (sRet (eBin gEq (eComp (srcT (eVar 0)) [2] (bName 2) (tNotE (eB (eCall g_holds_one (aCons (eVar 2) (aCons (eVar 1) aNil))))) (eC (.int 1))) (eLst aNil)))))
def g_is_lesser : List Val → Option Val := run 2 1 m_is_lesser
theorem ok_is_lesser (D_need_rule : DG P w K mg base 6 "need_rule" g_need_rule) (D_holds_one : DG P w K mg base 3 "holds_one" g_holds_one) {f : Addr} {fd : FuncData} (F : Fun K "is_lesser" "is_lesser" s_is_lesser f fd) : FnOk P w K mg base CX0 7 f fd ["one", "other"] (spG g_is_lesser) :=
  have S := sc_is_lesser
  fnG (n := 2) (m := 1) (s := m_is_lesser) F S rfl rfl fun cdv A outer s0 H E hr =>
    (s_cons (s_drop (d_fn D_need_rule hr (by omega) rfl (a_cons (d_var 0 (pv 0)) a_nil))) (s_cons (s_drop (d_fn D_need_rule hr (by omega) rfl (a_cons (d_var 1 (pv 1)) a_nil))) (s_one (s_ret (d_eq (hu100 hr) (d_comp (own := [("need", 2)]) rfl S.nd (i_c (i_tup (d_var 0 (pv 0)))) (blkOk_by (N := ["one", "other", "need"]) (sc := defScope s_is_lesser) (by decide +kernel)) (fun _ _ _ _ _ => (g_name (pg_name (i := 2) S.nd rfl (by first | exact Or.inl rfl | exact Or.inr rfl)))) (fun _ _ _ _ _ => (pts_oneD (t_not (t_val (d_fn D_holds_one hr (by omega) rfl (a_cons (d_var 2 (pv 2)) (a_cons (d_var 1 (pv 1)) a_nil))))))) (fun _ _ _ _ _ => d_int)) (d_lst a_nil))))))
abbrev s_joined_need : Stmt := top 32
theorem sc_joined_need : FnScope ["one", "other"] ["one", "other"] (defScope s_joined_need) := ⟨rfl, rfl, rfl, by decide +kernel, rfl, by decide +kernel, by decide +kernel⟩
def m_joined_need : Bk := (sRet (eCall gTuple (aCons (eCall gSortSet (aCons (eBin gAdd (eVar 0) (eVar 1)) aNil)) aNil)))
def g_joined_need : List Val → Option Val := run 2 0 m_joined_need
theorem ok_joined_need (B : Bi mg) {f : Addr} {fd : FuncData} (F : Fun K "joined_need" "joined_need" s_joined_need f fd) : FnOk P w K mg base CX0 2 f fd ["one", "other"] (spG g_joined_need) :=
  have S := sc_joined_need
  fnG (n := 2) (m := 0) (s := m_joined_need) F S rfl rfl fun cdv A outer s0 H E hr =>
    (s_one (s_ret (d_tupleOf rfl B.tuple (a_cons (d_sortedSet rfl (hu100 hr) rfl B.sorted rfl B.set (a_cons (d_add (d_var 0 (pv 0)) (d_var 1 (pv 1))) a_nil)) a_nil))))
abbrev s_either_so : Stmt := top 33
theorem sc_either_so : FnScope ["one", "other"] ["one", "other"] (defScope s_either_so) := ⟨rfl, rfl, rfl, by decide +kernel, rfl, by decide +kernel, by decide +kernel⟩
def m_either_so : Bk := (sRet (eCall g_counted (aCons (eCall g_least_of (aCons (eBin gAdd (eVar 0) (eVar 1)) aNil)) aNil)))
def g_either_so : List Val → Option Val := run 2 0 m_either_so
theorem ok_either_so (D_counted : DG P w K mg base 2 "counted" g_counted) (D_least_of : DG P w K mg base 4 "least_of" g_least_of) {f : Addr} {fd : FuncData} (F : Fun K "either_so" "either_so" s_either_so f fd) : FnOk P w K mg base CX0 5 f fd ["one", "other"] (spG g_either_so) :=
  have S := sc_either_so
  fnG (n := 2) (m := 0) (s := m_either_so) F S rfl rfl fun cdv A outer s0 H E hr =>
    (s_one (s_ret (d_fn D_counted hr (by omega) rfl (a_cons (d_fn D_least_of hr (by omega) rfl (a_cons (d_add (d_var 0 (pv 0)) (d_var 1 (pv 1))) a_nil)) a_nil))))
abbrev s_both_so : Stmt := top 34
theorem sc_both_so : FnScope ["one", "other", "found", "need", "far"] ["one", "other"] (defScope s_both_so) := ⟨rfl, rfl, rfl, by decide +kernel, rfl, by decide +kernel, by decide +kernel⟩
def m_both_so : Bk := (sSeq (sAsg 2 (eLst aNil)) (sSeq (sFor (srcT (eVar 0)) (bName 3) (sExt 2 (eComp (srcT (eVar 1)) [4] (bName 4) tTrue (eCall g_joined_need (aCons (eVar 3) (aCons (eVar 4) aNil)))))) (sRet (eCall g_counted (aCons (eCall g_least_of (aCons (eVar 2) aNil)) aNil)))))
def g_both_so : List Val → Option Val := run 2 3 m_both_so
theorem ok_both_so (D_joined_need : DG P w K mg base 2 "joined_need" g_joined_need) (D_counted : DG P w K mg base 2 "counted" g_counted) (D_least_of : DG P w K mg base 4 "least_of" g_least_of) {f : Addr} {fd : FuncData} (F : Fun K "both_so" "both_so" s_both_so f fd) : FnOk P w K mg base CX0 5 f fd ["one", "other"] (spG g_both_so) :=
  have S := sc_both_so
  fnG (n := 2) (m := 3) (s := m_both_so) F S rfl rfl fun cdv A outer s0 H E hr =>
    (s_cons (s_asg (ps_set (i := 2) S.nd rfl (by first | exact Or.inl rfl | exact Or.inr rfl) (d_lst a_nil))) (s_cons (s_for PassesOwn.never rfl (i_tup (d_var 0 (pv 0))) (g_name (pg_name (i := 3) S.nd rfl (by first | exact Or.inl rfl | exact Or.inr rfl))) (s_one (s_ext (ps_expr (pe_bm PySem.F.plainAttrs_list PySem.F.slot_list_extend PySem.F.type_list_extend mt_extend (pv 2) (pa_cons (d_comp (own := [("far", 4)]) rfl S.nd (i_c (i_tup (d_var 1 (pv 1)))) (blkOk_by (N := ["one", "other", "found", "need", "far"]) (sc := defScope s_both_so) (by decide +kernel)) (fun _ _ _ _ _ => (g_name (pg_name (i := 4) S.nd rfl (by first | exact Or.inl rfl | exact Or.inr rfl)))) (fun _ _ _ _ _ => pts_nilD) (fun _ _ _ _ _ => (d_fn D_joined_need hr (by omega) rfl (a_cons (d_var 3 (pv 3)) (a_cons (d_var 4 (pv 4)) a_nil))))) pa_nil)))))) (s_one (s_ret (d_fn D_counted hr (by omega) rfl (a_cons (d_fn D_least_of hr (by omega) rfl (a_cons (d_var 2 (pv 2)) a_nil)) a_nil))))))
abbrev s_bars_so : Stmt := top 38
theorem sc_bars_so : FnScope ["needs", "found", "need", "more", "bar", "place"] ["needs"] (defScope s_bars_so) := ⟨rfl, rfl, rfl, by decide +kernel, rfl, by decide +kernel, by decide +kernel⟩
def m_bars_so : Bk := (sSeq (sAsg 1 (eTup (aCons (eTup aNil) aNil))) (sSeq (sFor (srcT (eVar 0)) (bName 2) (sSeq (sAsg 3 (eLst aNil)) (sSeq (sFor (srcT (eVar 1)) (bName 4) (sIf (eB (eBin gNe (eComp (srcT (eVar 2)) [5] (bName 5) (eB (eBin (gIn false) (eVar 5) (eVar 4))) (eC (.int 1))) (eLst aNil))) (sApp 3 (eVar 4)) (sExt 3 (eComp (srcT (eVar 2)) [5] (bName 5) tTrue (eCall gTuple (aCons (eCall gSorted (aCons (eBin gAdd (eVar 4) (eTup (aCons (eVar 5) aNil))) aNil)) aNil)))))) (sAsg 1 (eCall g_counted (aCons (eCall g_least_of (aCons (eVar 3) aNil)) aNil)))))) (sRet (eVar 1))))
def g_bars_so : List Val → Option Val := run 1 5 m_bars_so
theorem ok_bars_so (B : Bi mg) (D_counted : DG P w K mg base 2 "counted" g_counted) (D_least_of : DG P w K mg base 4 "least_of" g_least_of) {f : Addr} {fd : FuncData} (F : Fun K "bars_so" "bars_so" s_bars_so f fd) : FnOk P w K mg base CX0 5 f fd ["needs"] (spG g_bars_so) :=
  have S := sc_bars_so
  fnG (n := 1) (m := 5) (s := m_bars_so) F S rfl rfl fun cdv A outer s0 H E hr =>
    (s_cons (s_asg (ps_set (i := 1) S.nd rfl (by first | exact Or.inl rfl | exact Or.inr rfl) (d_tup (a_cons (d_tup a_nil) a_nil)))) (s_cons (s_for PassesOwn.never rfl (i_tup (d_var 0 (pv 0))) (g_name (pg_name (i := 2) S.nd rfl (by first | exact Or.inl rfl | exact Or.inr rfl))) (s_cons (s_asg (ps_set (i := 3) S.nd rfl (by first | exact Or.inl rfl | exact Or.inr rfl) (d_lst a_nil))) (s_cons (s_for PassesOwn.never rfl (i_tup (d_var 1 (pv 1))) (g_name (pg_name (i := 4) S.nd rfl (by first | exact Or.inl rfl | exact Or.inr rfl))) (s_one (s_if (t_ne (hu100 hr) (d_comp (own := [("place", 5)]) rfl S.nd (i_c (i_tup (d_var 2 (pv 2)))) (blkOk_by (N := ["needs", "found", "need", "more", "bar", "place"]) (sc := defScope s_bars_so) (by decide +kernel)) (fun _ _ _ _ _ => (g_name (pg_name (i := 5) S.nd rfl (by first | exact Or.inl rfl | exact Or.inr rfl)))) (fun _ _ _ _ _ => (pts_oneD (t_in (hu100 hr) (d_var 5 (pv 5)) (d_var 4 (pv 4)) rfl))) (fun _ _ _ _ _ => d_int)) (d_lst a_nil)) (s_one (s_app (ps_expr (pe_bm PySem.F.plainAttrs_list PySem.F.slot_list_append PySem.F.type_list_append mt_append (pv 3) (pa_cons (d_var 4 (pv 4)) pa_nil))))) (s_one (s_ext (ps_expr (pe_bm PySem.F.plainAttrs_list PySem.F.slot_list_extend PySem.F.type_list_extend mt_extend (pv 3) (pa_cons (d_comp (own := [("place", 5)]) rfl S.nd (i_c (i_tup (d_var 2 (pv 2)))) (blkOk_by (N := ["needs", "found", "need", "more", "bar", "place"]) (sc := defScope s_bars_so) (by decide +kernel)) (fun _ _ _ _ _ => (g_name (pg_name (i := 5) S.nd rfl (by first | exact Or.inl rfl | exact Or.inr rfl)))) (fun _ _ _ _ _ => pts_nilD) (fun _ _ _ _ _ => (d_tupleOf rfl B.tuple (a_cons (d_sorted (hu100 hr) rfl B.sorted (a_cons (d_add (d_var 4 (pv 4)) (d_tup (a_cons (d_var 5 (pv 5)) a_nil))) a_nil)) a_nil)))) pa_nil)))))))) (s_one (s_asg (ps_set (i := 1) S.nd rfl (by first | exact Or.inl rfl | exact Or.inr rfl) (d_fn D_counted hr (by omega) rfl (a_cons (d_fn D_least_of hr (by omega) rfl (a_cons (d_var 3 (pv 3)) a_nil)) a_nil)))))))) (s_one (s_ret (d_var 1 (pv 1))))))
end
end Al
set_option Elab.async false
set_option linter.all false
set_option maxRecDepth 100000
set_option maxHeartbeats 4000000
namespace Al
open PySem L2 Ai
section
variable {P : Program} {w : World} {K : PySem.W.Frag} {mg : Str → Option Value} {base : Heap}
abbrev s_is_spread : Stmt := top 46
theorem sc_is_spread : FnScope ["value", "place", "near", "far"] ["value"] (defScope s_is_spread) := ⟨rfl, rfl, rfl, by decide +kernel, rfl, by decide +kernel, by decide +kernel⟩
def m_is_spread : Bk := (sSeq (sIf (tOrE (tNotE (eB (eIsi "tuple" (eVar 0)))) (tNotE (eB (eChain (gRel fLe) (gRel fLe) (eC (.int 1)) (eCall gLen (aCons (eVar 0) aNil)) (eC (.int 12)))))) (sRet (eC (.bool false))) sNext) (sSeq (sFor (srcT (eVar 0)) (bName 1) (sIf (tNotE (eB (eCall g_is_pair_from (aCons (eVar 1) (aCons (eC (.int 20)) aNil))))) (sRet (eC (.bool false))) sNext)) (sRet (eBin gEq (eCall gLen (aCons (eComp (srcZ (aCons (eVar 0) (aCons (eTail (eVar 0)) aNil))) [2, 3] (bPair 2 3) (eB (eBin (gRel fGe) (eVar 2) (eVar 3))) (eC (.int 1))) aNil)) (eC (.int 0))))))
def g_is_spread : List Val → Option Val := run 1 3 m_is_spread
theorem ok_is_spread (B : Bi mg) (Gc0 : Gc mg) (D_is_pair_from : DG P w K mg base 3 "is_pair_from" g_is_pair_from) {f : Addr} {fd : FuncData} (F : Fun K "is_spread" "is_spread" s_is_spread f fd) : FnOk P w K mg base CX0 4 f fd ["value"] (spG g_is_spread) :=
  have S := sc_is_spread
  fnG (n := 1) (m := 3) (s := m_is_spread) F S rfl rfl fun cdv A outer s0 H E hr =>
    (s_cons (s_if (t_w (w_or (t_not (t_val (d_isin rfl B.isinstance rfl B.tuple (d_var 0 (pv 0))))) (w_or1 (t_not (t_lele (hu100 hr) d_int (d_len rfl B.len (a_cons (d_var 0 (pv 0)) a_nil)) (d_glob rfl Gc0.MOST_SPREAD)))))) (s_one (s_ret d_bool)) s_nil) (s_cons (s_for PassesOwn.never rfl (i_tup (d_var 0 (pv 0))) (g_name (pg_name (i := 1) S.nd rfl (by first | exact Or.inl rfl | exact Or.inr rfl))) (s_one (s_if (t_not (t_val (d_fn D_is_pair_from hr (by omega) rfl (a_cons (d_var 1 (pv 1)) (a_cons (d_glob rfl Gc0.MOST_NEAR) a_nil))))) (s_one (s_ret d_bool)) s_nil))) (s_one (s_ret (d_eq (hu100 hr) (d_len rfl B.len (a_cons (d_comp (own := [("near", 2), ("far", 3)]) rfl S.nd (i_c (i_zip (RZ.pi_zipA rfl B.zip (a_cons (d_var 0 (pv 0)) (a_cons (d_tail (d_var 0 (pv 0))) a_nil))))) (blkOk_by (N := ["value", "place", "near", "far"]) (sc := defScope s_is_spread) (by decide +kernel)) (fun _ _ _ _ _ => (g_pair (pg_tup rfl (pgs_cons (pg_name (i := 2) S.nd rfl (by first | exact Or.inl rfl | exact Or.inr rfl)) (pgs_cons (pg_name (i := 3) S.nd rfl (by first | exact Or.inl rfl | exact Or.inr rfl)) pgs_nil))))) (fun _ _ _ _ _ => (pts_oneD (t_ge (hu100 hr) (d_var 2 (pv 2)) (d_var 3 (pv 3))))) (fun _ _ _ _ _ => d_int)) a_nil)) d_int)))))
abbrev s_has_form : Stmt := top 47
theorem sc_has_form : FnScope ["term"] ["term"] (defScope s_has_form) := ⟨rfl, rfl, rfl, by decide +kernel, rfl, by decide +kernel, by decide +kernel⟩
def m_has_form : Bk := (sSeq (sIf (tOrE (tNotE (eB (eIsi "tuple" (eVar 0)))) (tOrE (eB (eBin (gIn true) (eCall gLen (aCons (eVar 0) aNil)) (eTup (aCons (eC (.int 2)) (aCons (eC (.int 3)) aNil))))) (tNotE (eB (eIsi "str" (eBin gIx (eVar 0) (eC (.int 0)))))))) (sRet (eC (.bool false))) sNext) (sSeq (sIf (eB (eBin gEq (eCall gLen (aCons (eVar 0) aNil)) (eC (.int 2)))) (sSeq (sIf (eB (eBin gEq (eBin gIx (eVar 0) (eC (.int 0))) (eC (.str "at")))) (sRet (eCall g_is_pair_from (aCons (eBin gIx (eVar 0) (eC (.int 1))) (aCons (eC (.int 20)) aNil)))) sNext) (sSeq (sIf (eB (eBin (gIn false) (eBin gIx (eVar 0) (eC (.int 0))) (eTup (aCons (eC (.str "most")) (aCons (eC (.str "least")) aNil))))) (sRet (eAnd (eIsi "tuple" (eBin gIx (eVar 0) (eC (.int 1)))) (eChain (gRel fLe) (gRel fLe) (eC (.int 1)) (eCall gLen (aCons (eBin gIx (eVar 0) (eC (.int 1))) aNil)) (eC (.int 60))))) sNext) (sRet (eBin gEq (eBin gIx (eVar 0) (eC (.int 0))) (eC (.str "turned")))))) sNext) (sSeq (sIf (eB (eBin gEq (eBin gIx (eVar 0) (eC (.int 0))) (eC (.str "again")))) (sRet (eCall g_is_from (aCons (eBin gIx (eVar 0) (eC (.int 2))) (aCons (eC (.int 0)) (aCons (eC (.int 1000000000000000000000000000000)) aNil))))) sNext) (sSeq (sIf (eB (eBin gEq (eBin gIx (eVar 0) (eC (.int 0))) (eC (.str "rank")))) (sRet (eAnd (eCall g_is_spread (aCons (eBin gIx (eVar 0) (eC (.int 2))) aNil)) (eCall g_is_from (aCons (eBin gIx (eVar 0) (eC (.int 1))) (aCons (eC (.int 1)) (aCons (eCall gLen (aCons (eBin gIx (eVar 0) (eC (.int 2))) aNil)) aNil)))))) sNext) (sRet (eBin gEq (eBin gIx (eVar 0) (eC (.int 0))) (eC (.str "then"))))))))
def g_has_form : List Val → Option Val := run 1 0 m_has_form
theorem ok_has_form (B : Bi mg) (Gc0 : Gc mg) (D_is_pair_from : DG P w K mg base 3 "is_pair_from" g_is_pair_from) (D_is_from : DG P w K mg base 2 "is_from" g_is_from) (D_is_spread : DG P w K mg base 4 "is_spread" g_is_spread) {f : Addr} {fd : FuncData} (F : Fun K "has_form" "has_form" s_has_form f fd) : FnOk P w K mg base CX0 5 f fd ["term"] (spG g_has_form) :=
  have S := sc_has_form
  fnG (n := 1) (m := 0) (s := m_has_form) F S rfl rfl fun cdv A outer s0 H E hr =>
    (s_cons (s_if (t_w (w_or (t_not (t_val (d_isin rfl B.isinstance rfl B.tuple (d_var 0 (pv 0))))) (w_or (t_notin (hu100 hr) (d_len rfl B.len (a_cons (d_var 0 (pv 0)) a_nil)) (d_tup (a_cons d_int (a_cons d_int a_nil))) rfl) (w_or1 (t_not (t_val (d_isin rfl B.isinstance rfl B.str (d_ix (d_var 0 (pv 0)) d_int)))))))) (s_one (s_ret d_bool)) s_nil) (s_cons (s_if (t_eq (hu100 hr) (d_len rfl B.len (a_cons (d_var 0 (pv 0)) a_nil)) d_int) (s_cons (s_if (t_eq (hu100 hr) (d_ix (d_var 0 (pv 0)) d_int) d_str) (s_one (s_ret (d_fn D_is_pair_from hr (by omega) rfl (a_cons (d_ix (d_var 0 (pv 0)) d_int) (a_cons (d_glob rfl Gc0.MOST_NEAR) a_nil))))) s_nil) (s_cons (s_if (t_in (hu100 hr) (d_ix (d_var 0 (pv 0)) d_int) (d_tup (a_cons d_str (a_cons d_str a_nil))) rfl) (s_one (s_ret (d_and (d_isin rfl B.isinstance rfl B.tuple (d_ix (d_var 0 (pv 0)) d_int)) (d_one (d_lele (hu100 hr) d_int (d_len rfl B.len (a_cons (d_ix (d_var 0 (pv 0)) d_int) a_nil)) (d_glob rfl Gc0.MOST_TERMS)))))) s_nil) (s_one (s_ret (d_eq (hu100 hr) (d_ix (d_var 0 (pv 0)) d_int) d_str))))) s_nil) (s_cons (s_if (t_eq (hu100 hr) (d_ix (d_var 0 (pv 0)) d_int) d_str) (s_one (s_ret (d_fn D_is_from hr (by omega) rfl (a_cons (d_ix (d_var 0 (pv 0)) d_int) (a_cons d_int (a_cons (d_glob rfl Gc0.MOST_TIMES) a_nil)))))) s_nil) (s_cons (s_if (t_eq (hu100 hr) (d_ix (d_var 0 (pv 0)) d_int) d_str) (s_one (s_ret (d_and (d_fn D_is_spread hr (by omega) rfl (a_cons (d_ix (d_var 0 (pv 0)) d_int) a_nil)) (d_one (d_fn D_is_from hr (by omega) rfl (a_cons (d_ix (d_var 0 (pv 0)) d_int) (a_cons d_int (a_cons (d_len rfl B.len (a_cons (d_ix (d_var 0 (pv 0)) d_int) a_nil)) a_nil)))))))) s_nil) (s_one (s_ret (d_eq (hu100 hr) (d_ix (d_var 0 (pv 0)) d_int) d_str)))))))
abbrev s_parts_of : Stmt := top 48
theorem sc_parts_of : FnScope ["term"] ["term"] (defScope s_parts_of) := ⟨rfl, rfl, rfl, by decide +kernel, rfl, by decide +kernel, by decide +kernel⟩
def m_parts_of : Bk := (sSeq (sIf (eB (eBin (gIn false) (eBin gIx (eVar 0) (eC (.int 0))) (eTup (aCons (eC (.str "at")) (aCons (eC (.str "rank")) aNil))))) (sRet (eTup aNil)) sNext) (sSeq (sIf (eB (eBin (gIn false) (eBin gIx (eVar 0) (eC (.int 0))) (eTup (aCons (eC (.str "most")) (aCons (eC (.str "least")) aNil))))) (sRet (eBin gIx (eVar 0) (eC (.int 1)))) sNext) (sRet (eIf (eB (eBin gEq (eBin gIx (eVar 0) (eC (.int 0))) (eC (.str "then")))) (eTail (eVar 0)) (eTup (aCons (eBin gIx (eVar 0) (eC (.int 1))) aNil))))))
def g_parts_of : List Val → Option Val := run 1 0 m_parts_of
theorem ok_parts_of {f : Addr} {fd : FuncData} (F : Fun K "parts_of" "parts_of" s_parts_of f fd) : FnOk P w K mg base CX0 2 f fd ["term"] (spG g_parts_of) :=
  have S := sc_parts_of
  fnG (n := 1) (m := 0) (s := m_parts_of) F S rfl rfl fun cdv A outer s0 H E hr =>
    (s_cons (s_if (t_in (hu100 hr) (d_ix (d_var 0 (pv 0)) d_int) (d_tup (a_cons d_str (a_cons d_str a_nil))) rfl) (s_one (s_ret (d_tup a_nil))) s_nil) (s_cons (s_if (t_in (hu100 hr) (d_ix (d_var 0 (pv 0)) d_int) (d_tup (a_cons d_str (a_cons d_str a_nil))) rfl) (s_one (s_ret (d_ix (d_var 0 (pv 0)) d_int))) s_nil) (s_one (s_ret (d_if (t_eq (hu100 hr) (d_ix (d_var 0 (pv 0)) d_int) d_str) (d_tail (d_var 0 (pv 0))) (d_tup (a_cons (d_ix (d_var 0 (pv 0)) d_int) a_nil)))))))
abbrev s_need_term : Stmt := top 49
theorem sc_need_term : FnScope ["term", "line", "many", "here", "path", "parts", "number"] ["term"] (defScope s_need_term) := ⟨rfl, rfl, rfl, by decide +kernel, rfl, by decide +kernel, by decide +kernel⟩
def m_need_term : Bk := (sSeq (sAsg 1 (eLst (aCons (eTup (aCons (eVar 0) (aCons (eTup aNil) aNil))) aNil))) (sSeq (sAsg 2 (eC (.int 0))) (sSeq (whF (eB (eBin gNe (eVar 1) (eLst aNil))) (sSeq (sPop 1 3 4) (sSeq (sAsg 2 (eBin gAdd (eVar 2) (eC (.int 1)))) (sSeq (sIf (eB (eBin (gRel fGe) (eCall gLen (aCons (eVar 4) aNil)) (eC (.int 6)))) sNever sNext) (sSeq (sIf (eB (eBin (gRel fGt) (eVar 2) (eC (.int 20)))) sNever sNext) (sSeq (sIf (tNotE (eB (eCall g_has_form (aCons (eVar 3) aNil)))) sNever sNext) (sSeq (sAsg 5 (eCall g_parts_of (aCons (eVar 3) aNil))) (sFor (src3 (aCons (eBin gSub (eCall gLen (aCons (eVar 5) aNil)) (eC (.int 1))) (aCons (eNeg (eC (.int 1))) (aCons (eNeg (eC (.int 1))) aNil)))) (bName 6) (sApp 1 (eTup (aCons (eBin gIx (eVar 5) (eVar 6)) (aCons (eBin gAdd (eVar 4) (eTup (aCons (eVar 6) aNil))) aNil))))))))))) 40) (sRet (eVar 0)))))
def g_need_term : List Val → Option Val := run 1 6 m_need_term
theorem ok_need_term (B : Bi mg) (Gc0 : Gc mg) (D_has_form : DG P w K mg base 5 "has_form" g_has_form) (D_parts_of : DG P w K mg base 2 "parts_of" g_parts_of) {f : Addr} {fd : FuncData} (F : Fun K "need_term" "need_term" s_need_term f fd) : FnOk P w K mg base CX0 6 f fd ["term"] (spG g_need_term) :=
  have S := sc_need_term
  fnG (n := 1) (m := 6) (s := m_need_term) F S rfl rfl fun cdv A outer s0 H E hr =>
    (s_cons (s_asg (ps_set (i := 1) S.nd rfl (by first | exact Or.inl rfl | exact Or.inr rfl) (d_lst (a_cons (d_tup (a_cons (d_var 0 (pv 0)) (a_cons (d_tup a_nil) a_nil))) a_nil)))) (s_cons (s_asg (ps_set (i := 2) S.nd rfl (by first | exact Or.inl rfl | exact Or.inr rfl) d_int)) (s_cons (s_while PassesOwn.never (t_ne (hu100 hr) (d_var 1 (pv 1)) (d_lst a_nil)) (s_cons (s_pop (ps_asg (pe_bm0 PySem.F.plainAttrs_list PySem.F.slot_list_pop PySem.F.type_list_pop mt_pop (pv 1)) (pg_tup rfl (pgs_cons (pg_name (i := 3) S.nd rfl (by first | exact Or.inl rfl | exact Or.inr rfl)) (pgs_cons (pg_name (i := 4) S.nd rfl (by first | exact Or.inl rfl | exact Or.inr rfl)) pgs_nil))))) (s_cons (s_asg (ps_set (i := 2) S.nd rfl (by first | exact Or.inl rfl | exact Or.inr rfl) (d_add (d_var 2 (pv 2)) d_int))) (s_cons (s_if (t_ge (hu100 hr) (d_len rfl B.len (a_cons (d_var 4 (pv 4)) a_nil)) (d_glob rfl Gc0.MOST_DEEP)) ss_never s_nil) (s_cons (s_if (t_gt (hu100 hr) (d_var 2 (pv 2)) (d_glob rfl Gc0.MOST_PARTS)) ss_never s_nil) (s_cons (s_if (t_not (t_val (d_fn D_has_form hr (by omega) rfl (a_cons (d_var 3 (pv 3)) a_nil)))) ss_never s_nil) (s_cons (s_asg (ps_set (i := 5) S.nd rfl (by first | exact Or.inl rfl | exact Or.inr rfl) (d_fn D_parts_of hr (by omega) rfl (a_cons (d_var 3 (pv 3)) a_nil)))) (s_one (s_for PassesOwn.never rfl (i_rngD (pi_range3 rfl B.range (a_cons (d_sub (d_len rfl B.len (a_cons (d_var 5 (pv 5)) a_nil)) d_int) (a_cons (d_neg d_int) (a_cons (d_neg d_int) a_nil))))) (g_name (pg_name (i := 6) S.nd rfl (by first | exact Or.inl rfl | exact Or.inr rfl))) (s_one (s_app (ps_expr (pe_bm PySem.F.plainAttrs_list PySem.F.slot_list_append PySem.F.type_list_append mt_append (pv 1) (pa_cons (d_tup (a_cons (d_ix (d_var 5 (pv 5)) (d_var 6 (pv 6))) (a_cons (d_add (d_var 4 (pv 4)) (d_tup (a_cons (d_var 6 (pv 6)) a_nil))) a_nil))) pa_nil)))))))))))))) (s_one (s_ret (d_var 0 (pv 0)))))))
abbrev s_need_spread : Stmt := top 50
theorem sc_need_spread : FnScope ["places"] ["places"] (defScope s_need_spread) := ⟨rfl, rfl, rfl, by decide +kernel, rfl, by decide +kernel, by decide +kernel⟩
def m_need_spread : Bk := (sSeq (sIf (tNotE (eB (eCall g_is_spread (aCons (eVar 0) aNil)))) sNever sNext) (sRet (eVar 0)))
def g_need_spread : List Val → Option Val := run 1 0 m_need_spread
theorem ok_need_spread (D_is_spread : DG P w K mg base 4 "is_spread" g_is_spread) {f : Addr} {fd : FuncData} (F : Fun K "need_spread" "need_spread" s_need_spread f fd) : FnOk P w K mg base CX0 5 f fd ["places"] (spG g_need_spread) :=
  have S := sc_need_spread
  fnG (n := 1) (m := 0) (s := m_need_spread) F S rfl rfl fun cdv A outer s0 H E hr =>
    (s_cons (s_if (t_not (t_val (d_fn D_is_spread hr (by omega) rfl (a_cons (d_var 0 (pv 0)) a_nil)))) ss_never s_nil) (s_one (s_ret (d_var 0 (pv 0)))))
abbrev s_grown : Stmt := top 51
theorem sc_grown : FnScope ["places", "place"] ["places"] (defScope s_grown) := ⟨rfl, rfl, rfl, by decide +kernel, rfl, by decide +kernel, by decide +kernel⟩
def m_grown : Bk := (sRet (eTup (aCons (eC (.str "most")) (aCons (eCall gTuple (aCons (eComp (srcT (eCall g_need_spread (aCons (eVar 0) aNil))) [1] (bName 1) tTrue (eTup (aCons (eC (.str "at")) (aCons (eVar 1) aNil)))) aNil)) aNil))))
def g_grown : List Val → Option Val := run 1 1 m_grown
theorem ok_grown (B : Bi mg) (D_need_spread : DG P w K mg base 5 "need_spread" g_need_spread) {f : Addr} {fd : FuncData} (F : Fun K "grown" "grown" s_grown f fd) : FnOk P w K mg base CX0 6 f fd ["places"] (spG g_grown) :=
  have S := sc_grown
  fnG (n := 1) (m := 1) (s := m_grown) F S rfl rfl fun cdv A outer s0 H E hr =>
    (s_one (s_ret (d_tup (a_cons d_str (a_cons (d_tupleOf rfl B.tuple (a_cons (d_comp (own := [("place", 1)]) rfl S.nd (i_c (i_tup (d_fn D_need_spread hr (by omega) rfl (a_cons (d_var 0 (pv 0)) a_nil)))) (blkOk_by (N := ["places", "place"]) (sc := defScope s_grown) (by decide +kernel)) (fun _ _ _ _ _ => (g_name (pg_name (i := 1) S.nd rfl (by first | exact Or.inl rfl | exact Or.inr rfl)))) (fun _ _ _ _ _ => pts_nilD) (fun _ _ _ _ _ => (d_tup (a_cons d_str (a_cons (d_var 1 (pv 1)) a_nil))))) a_nil)) a_nil)))))
abbrev s_eaten : Stmt := top 52
theorem sc_eaten : FnScope ["places", "place"] ["places"] (defScope s_eaten) := ⟨rfl, rfl, rfl, by decide +kernel, rfl, by decide +kernel, by decide +kernel⟩
def m_eaten : Bk := (sRet (eTup (aCons (eC (.str "least")) (aCons (eCall gTuple (aCons (eComp (srcT (eCall g_need_spread (aCons (eVar 0) aNil))) [1] (bName 1) tTrue (eTup (aCons (eC (.str "at")) (aCons (eVar 1) aNil)))) aNil)) aNil))))
def g_eaten : List Val → Option Val := run 1 1 m_eaten
theorem ok_eaten (B : Bi mg) (D_need_spread : DG P w K mg base 5 "need_spread" g_need_spread) {f : Addr} {fd : FuncData} (F : Fun K "eaten" "eaten" s_eaten f fd) : FnOk P w K mg base CX0 6 f fd ["places"] (spG g_eaten) :=
  have S := sc_eaten
  fnG (n := 1) (m := 1) (s := m_eaten) F S rfl rfl fun cdv A outer s0 H E hr =>
    (s_one (s_ret (d_tup (a_cons d_str (a_cons (d_tupleOf rfl B.tuple (a_cons (d_comp (own := [("place", 1)]) rfl S.nd (i_c (i_tup (d_fn D_need_spread hr (by omega) rfl (a_cons (d_var 0 (pv 0)) a_nil)))) (blkOk_by (N := ["places", "place"]) (sc := defScope s_eaten) (by decide +kernel)) (fun _ _ _ _ _ => (g_name (pg_name (i := 1) S.nd rfl (by first | exact Or.inl rfl | exact Or.inr rfl)))) (fun _ _ _ _ _ => pts_nilD) (fun _ _ _ _ _ => (d_tup (a_cons d_str (a_cons (d_var 1 (pv 1)) a_nil))))) a_nil)) a_nil)))))
abbrev s_chosen_sets : Stmt := top 56
theorem sc_chosen_sets : FnScope ["places", "many", "found", "step", "longer", "row", "place"] ["places", "many"] (defScope s_chosen_sets) := ⟨rfl, rfl, rfl, by decide +kernel, rfl, by decide +kernel, by decide +kernel⟩
def m_chosen_sets : Bk := (sSeq (sAsg 2 (eLst (aCons (eTup aNil) aNil))) (sSeq (sFor (src1 (aCons (eVar 1) aNil)) (bName 3) (sSeq (sAsg 4 (eLst aNil)) (sSeq (sForV 2 (bName 5) (sExt 4 (eComp (srcT (eVar 0)) [6] (bName 6) (tOrE (eB (eBin gEq (eVar 5) (eTup aNil))) (eB (eBin (gRel fGt) (eVar 6) (eBin gIx (eVar 5) (eNeg (eC (.int 1))))))) (eBin gAdd (eVar 5) (eTup (aCons (eVar 6) aNil)))))) (sAsg 2 (eCall gList (aCons (eVar 4) aNil)))))) (sRet (eVar 2))))
def g_chosen_sets : List Val → Option Val := run 2 5 m_chosen_sets
theorem ok_chosen_sets (B : Bi mg) {f : Addr} {fd : FuncData} (F : Fun K "chosen_sets" "chosen_sets" s_chosen_sets f fd) : FnOk P w K mg base CX0 2 f fd ["places", "many"] (spG g_chosen_sets) :=
  have S := sc_chosen_sets
  fnG (n := 2) (m := 5) (s := m_chosen_sets) F S rfl rfl fun cdv A outer s0 H E hr =>
    (s_cons (s_asg (ps_set (i := 2) S.nd rfl (by first | exact Or.inl rfl | exact Or.inr rfl) (d_lst (a_cons (d_tup a_nil) a_nil)))) (s_cons (s_for PassesOwn.never rfl (i_rng1 (pi_range1 rfl B.range (a_cons (d_var 1 (pv 1)) a_nil))) (g_name (pg_name (i := 3) S.nd rfl (by first | exact Or.inl rfl | exact Or.inr rfl))) (s_cons (s_asg (ps_set (i := 4) S.nd rfl (by first | exact Or.inl rfl | exact Or.inr rfl) (d_lst a_nil))) (s_cons (s_forV PassesOwn.never rfl (i_var 2 (pv 2)) (g_name (pg_name (i := 5) S.nd rfl (by first | exact Or.inl rfl | exact Or.inr rfl))) (s_one (s_ext (ps_expr (pe_bm PySem.F.plainAttrs_list PySem.F.slot_list_extend PySem.F.type_list_extend mt_extend (pv 4) (pa_cons (d_comp (own := [("place", 6)]) rfl S.nd (i_c (i_tup (d_var 0 (pv 0)))) (blkOk_by (N := ["places", "many", "found", "step", "longer", "row", "place"]) (sc := defScope s_chosen_sets) (by decide +kernel)) (fun _ _ _ _ _ => (g_name (pg_name (i := 6) S.nd rfl (by first | exact Or.inl rfl | exact Or.inr rfl)))) (fun _ _ _ _ _ => (pts_oneD (t_w (w_or (t_eq (hu100 hr) (d_var 5 (pv 5)) (d_tup a_nil)) (w_or1 (t_gt (hu100 hr) (d_var 6 (pv 6)) (d_ix (d_var 5 (pv 5)) (d_neg d_int)))))))) (fun _ _ _ _ _ => (d_add (d_var 5 (pv 5)) (d_tup (a_cons (d_var 6 (pv 6)) a_nil))))) pa_nil)))))) (s_one (s_asg (ps_set (i := 2) S.nd rfl (by first | exact Or.inl rfl | exact Or.inr rfl) (d_listOf rfl B.list (a_cons (d_var 4 (pv 4)) a_nil)))))))) (s_one (s_ret (d_var 2 (pv 2))))))
abbrev s_count_sets : Stmt := top 57
theorem sc_count_sets : FnScope ["size", "many", "found", "step"] ["size", "many"] (defScope s_count_sets) := ⟨rfl, rfl, rfl, by decide +kernel, rfl, by decide +kernel, by decide +kernel⟩
def m_count_sets : Bk := (sSeq (sAsg 2 (eC (.int 1))) (sSeq (sFor (src1 (aCons (eVar 1) aNil)) (bName 3) (sAsg 2 (eBin gDiv (eBin gMul (eVar 2) (eBin gSub (eVar 0) (eVar 3))) (eBin gAdd (eVar 3) (eC (.int 1)))))) (sRet (eVar 2))))
def g_count_sets : List Val → Option Val := run 2 2 m_count_sets
theorem ok_count_sets (B : Bi mg) {f : Addr} {fd : FuncData} (F : Fun K "count_sets" "count_sets" s_count_sets f fd) : FnOk P w K mg base CX0 2 f fd ["size", "many"] (spG g_count_sets) :=
  have S := sc_count_sets
  fnG (n := 2) (m := 2) (s := m_count_sets) F S rfl rfl fun cdv A outer s0 H E hr =>
    (s_cons (s_asg (ps_set (i := 2) S.nd rfl (by first | exact Or.inl rfl | exact Or.inr rfl) d_int)) (s_cons (s_for PassesOwn.never rfl (i_rng1 (pi_range1 rfl B.range (a_cons (d_var 1 (pv 1)) a_nil))) (g_name (pg_name (i := 3) S.nd rfl (by first | exact Or.inl rfl | exact Or.inr rfl))) (s_one (s_asg (ps_set (i := 2) S.nd rfl (by first | exact Or.inl rfl | exact Or.inr rfl) (d_fdiv (d_mul (d_var 2 (pv 2)) (d_sub (d_var 0 (pv 0)) (d_var 3 (pv 3)))) (d_add (d_var 3 (pv 3)) d_int)))))) (s_one (s_ret (d_var 2 (pv 2))))))
abbrev s_rank_rule : Stmt := top 58
theorem sc_rank_rule : FnScope ["term"] ["term"] (defScope s_rank_rule) := ⟨rfl, rfl, rfl, by decide +kernel, rfl, by decide +kernel, by decide +kernel⟩
def m_rank_rule : Bk := (sSeq (sIf (eB (eBin (gRel fGt) (eCall g_count_sets (aCons (eCall gLen (aCons (eBin gIx (eVar 0) (eC (.int 2))) aNil)) (aCons (eBin gIx (eVar 0) (eC (.int 1))) aNil))) (eC (.int 60)))) sNever sNext) (sRet (eCall gTuple (aCons (eCall g_chosen_sets (aCons (eBin gIx (eVar 0) (eC (.int 2))) (aCons (eBin gIx (eVar 0) (eC (.int 1))) aNil))) aNil))))
def g_rank_rule : List Val → Option Val := run 1 0 m_rank_rule
theorem ok_rank_rule (B : Bi mg) (Gc0 : Gc mg) (D_count_sets : DG P w K mg base 2 "count_sets" g_count_sets) (D_chosen_sets : DG P w K mg base 2 "chosen_sets" g_chosen_sets) {f : Addr} {fd : FuncData} (F : Fun K "rank_rule" "rank_rule" s_rank_rule f fd) : FnOk P w K mg base CX0 3 f fd ["term"] (spG g_rank_rule) :=
  have S := sc_rank_rule
  fnG (n := 1) (m := 0) (s := m_rank_rule) F S rfl rfl fun cdv A outer s0 H E hr =>
    (s_cons (s_if (t_gt (hu100 hr) (d_fn D_count_sets hr (by omega) rfl (a_cons (d_len rfl B.len (a_cons (d_ix (d_var 0 (pv 0)) d_int) a_nil)) (a_cons (d_ix (d_var 0 (pv 0)) d_int) a_nil))) (d_glob rfl Gc0.MOST_NEEDS_termwork)) ss_never s_nil) (s_one (s_ret (d_tupleOf rfl B.tuple (a_cons (d_fn D_chosen_sets hr (by omega) rfl (a_cons (d_ix (d_var 0 (pv 0)) d_int) (a_cons (d_ix (d_var 0 (pv 0)) d_int) a_nil))) a_nil)))))
abbrev s_rule_so0 : Stmt := top 61
theorem sc_rule_so0 : FnScope ["term", "first"] ["term"] (defScope s_rule_so0) := ⟨rfl, rfl, rfl, by decide +kernel, rfl, by decide +kernel, by decide +kernel⟩
def m_rule_so0 : Bk := (sSeq (sIf (eB (eBin gEq (eBin gIx (eVar 0) (eC (.int 0))) (eC (.str "at")))) (sRet (eTup (aCons (eTup (aCons (eBin gIx (eVar 0) (eC (.int 1))) aNil)) aNil))) sNext) (sSeq (sIf (eB (eBin gEq (eBin gIx (eVar 0) (eC (.int 0))) (eC (.str "rank")))) (sRet (eCall g_rank_rule (aCons (eVar 0) aNil))) sNext) (sSeq (sIf (eB (eBin (gIn false) (eBin gIx (eVar 0) (eC (.int 0))) (eTup (aCons (eC (.str "most")) (aCons (eC (.str "least")) aNil))))) sNever sNext) (sSeq (sIf (eB (eBin gEq (eBin gIx (eVar 0) (eC (.int 0))) (eC (.str "then")))) sNever sNext) (sSeq (sIf (eB (eBin gEq (eBin gIx (eVar 0) (eC (.int 0))) (eC (.str "turned")))) sNever sNext) sNever)))))
def g_rule_so0 : List Val → Option Val := run 1 1 m_rule_so0
theorem ok_rule_so0 (D_rank_rule : DG P w K mg base 3 "rank_rule" g_rank_rule) {f : Addr} {fd : FuncData} (F : Fun K "rule_so" "rule_so" s_rule_so0 f fd) : FnOk P w K mg base CX0 4 f fd ["term"] (spG g_rule_so0) :=
  have S := sc_rule_so0
  fnG (n := 1) (m := 1) (s := m_rule_so0) F S rfl rfl fun cdv A outer s0 H E hr =>
    (s_cons (s_if (t_eq (hu100 hr) (d_ix (d_var 0 (pv 0)) d_int) d_str) (s_one (s_ret (d_tup (a_cons (d_tup (a_cons (d_ix (d_var 0 (pv 0)) d_int) a_nil)) a_nil)))) s_nil) (s_cons (s_if (t_eq (hu100 hr) (d_ix (d_var 0 (pv 0)) d_int) d_str) (s_one (s_ret (d_fn D_rank_rule hr (by omega) rfl (a_cons (d_var 0 (pv 0)) a_nil)))) s_nil) (s_cons (s_if (t_in (hu100 hr) (d_ix (d_var 0 (pv 0)) d_int) (d_tup (a_cons d_str (a_cons d_str a_nil))) rfl) ss_never s_nil) (s_cons (s_if (t_eq (hu100 hr) (d_ix (d_var 0 (pv 0)) d_int) d_str) ss_never s_nil) (s_cons (s_if (t_eq (hu100 hr) (d_ix (d_var 0 (pv 0)) d_int) d_str) ss_never s_nil) ss_never)))))
abbrev s_joined_rules0 : Stmt := top 60
theorem sc_joined_rules0 : FnScope ["term", "found", "part", "rule"] ["term"] (defScope s_joined_rules0) := ⟨rfl, rfl, rfl, by decide +kernel, rfl, by decide +kernel, by decide +kernel⟩
def m_joined_rules0 : Bk := (sSeq (sAsg 1 (eCall g_rule_so0 (aCons (eBin gIx (eBin gIx (eVar 0) (eC (.int 1))) (eC (.int 0))) aNil))) (sSeq (sFor (srcT (eTail (eBin gIx (eVar 0) (eC (.int 1))))) (bName 2) (sSeq (sAsg 3 (eCall g_rule_so0 (aCons (eVar 2) aNil))) (sAsg 1 (eIf (eB (eBin gEq (eBin gIx (eVar 0) (eC (.int 0))) (eC (.str "most")))) (eCall g_either_so (aCons (eVar 1) (aCons (eVar 3) aNil))) (eCall g_both_so (aCons (eVar 1) (aCons (eVar 3) aNil))))))) (sRet (eVar 1))))
def g_joined_rules0 : List Val → Option Val := run 1 3 m_joined_rules0
theorem ok_joined_rules0 (D_rule_so0 : DG P w K mg base 4 "rule_so" g_rule_so0) (D_either_so : DG P w K mg base 5 "either_so" g_either_so) (D_both_so : DG P w K mg base 5 "both_so" g_both_so) {f : Addr} {fd : FuncData} (F : Fun K "joined_rules" "joined_rules" s_joined_rules0 f fd) : FnOk P w K mg base CX0 6 f fd ["term"] (spG g_joined_rules0) :=
  have S := sc_joined_rules0
  fnG (n := 1) (m := 3) (s := m_joined_rules0) F S rfl rfl fun cdv A outer s0 H E hr =>
    (s_cons (s_asg (ps_set (i := 1) S.nd rfl (by first | exact Or.inl rfl | exact Or.inr rfl) (d_fn D_rule_so0 hr (by omega) rfl (a_cons (d_ix (d_ix (d_var 0 (pv 0)) d_int) d_int) a_nil)))) (s_cons (s_for PassesOwn.never rfl (i_tup (d_tail (d_ix (d_var 0 (pv 0)) d_int))) (g_name (pg_name (i := 2) S.nd rfl (by first | exact Or.inl rfl | exact Or.inr rfl))) (s_cons (s_asg (ps_set (i := 3) S.nd rfl (by first | exact Or.inl rfl | exact Or.inr rfl) (d_fn D_rule_so0 hr (by omega) rfl (a_cons (d_var 2 (pv 2)) a_nil)))) (s_one (s_asg (ps_set (i := 1) S.nd rfl (by first | exact Or.inl rfl | exact Or.inr rfl) (d_if (t_eq (hu100 hr) (d_ix (d_var 0 (pv 0)) d_int) d_str) (d_fn D_either_so hr (by omega) rfl (a_cons (d_var 1 (pv 1)) (a_cons (d_var 3 (pv 3)) a_nil))) (d_fn D_both_so hr (by omega) rfl (a_cons (d_var 1 (pv 1)) (a_cons (d_var 3 (pv 3)) a_nil))))))))) (s_one (s_ret (d_var 1 (pv 1))))))
abbrev s_rule_so1 : Stmt := top 61
theorem sc_rule_so1 : FnScope ["term", "first"] ["term"] (defScope s_rule_so1) := ⟨rfl, rfl, rfl, by decide +kernel, rfl, by decide +kernel, by decide +kernel⟩
def m_rule_so1 : Bk := (sSeq (sIf (eB (eBin gEq (eBin gIx (eVar 0) (eC (.int 0))) (eC (.str "at")))) (sRet (eTup (aCons (eTup (aCons (eBin gIx (eVar 0) (eC (.int 1))) aNil)) aNil))) sNext) (sSeq (sIf (eB (eBin gEq (eBin gIx (eVar 0) (eC (.int 0))) (eC (.str "rank")))) (sRet (eCall g_rank_rule (aCons (eVar 0) aNil))) sNext) (sSeq (sIf (eB (eBin (gIn false) (eBin gIx (eVar 0) (eC (.int 0))) (eTup (aCons (eC (.str "most")) (aCons (eC (.str "least")) aNil))))) (sRet (eCall g_joined_rules0 (aCons (eVar 0) aNil))) sNext) (sSeq (sIf (eB (eBin gEq (eBin gIx (eVar 0) (eC (.int 0))) (eC (.str "then")))) sNever sNext) (sSeq (sIf (eB (eBin gEq (eBin gIx (eVar 0) (eC (.int 0))) (eC (.str "turned")))) (sRet (eCall g_bars_so (aCons (eCall g_rule_so0 (aCons (eBin gIx (eVar 0) (eC (.int 1))) aNil)) aNil))) sNext) sNever)))))
def g_rule_so1 : List Val → Option Val := run 1 1 m_rule_so1
theorem ok_rule_so1 (D_rank_rule : DG P w K mg base 3 "rank_rule" g_rank_rule) (D_joined_rules0 : DG P w K mg base 6 "joined_rules" g_joined_rules0) (D_bars_so : DG P w K mg base 5 "bars_so" g_bars_so) (D_rule_so0 : DG P w K mg base 4 "rule_so" g_rule_so0) {f : Addr} {fd : FuncData} (F : Fun K "rule_so" "rule_so" s_rule_so1 f fd) : FnOk P w K mg base CX0 7 f fd ["term"] (spG g_rule_so1) :=
  have S := sc_rule_so1
  fnG (n := 1) (m := 1) (s := m_rule_so1) F S rfl rfl fun cdv A outer s0 H E hr =>
    (s_cons (s_if (t_eq (hu100 hr) (d_ix (d_var 0 (pv 0)) d_int) d_str) (s_one (s_ret (d_tup (a_cons (d_tup (a_cons (d_ix (d_var 0 (pv 0)) d_int) a_nil)) a_nil)))) s_nil) (s_cons (s_if (t_eq (hu100 hr) (d_ix (d_var 0 (pv 0)) d_int) d_str) (s_one (s_ret (d_fn D_rank_rule hr (by omega) rfl (a_cons (d_var 0 (pv 0)) a_nil)))) s_nil) (s_cons (s_if (t_in (hu100 hr) (d_ix (d_var 0 (pv 0)) d_int) (d_tup (a_cons d_str (a_cons d_str a_nil))) rfl) (s_one (s_ret (d_fn D_joined_rules0 hr (by omega) rfl (a_cons (d_var 0 (pv 0)) a_nil)))) s_nil) (s_cons (s_if (t_eq (hu100 hr) (d_ix (d_var 0 (pv 0)) d_int) d_str) ss_never s_nil) (s_cons (s_if (t_eq (hu100 hr) (d_ix (d_var 0 (pv 0)) d_int) d_str) (s_one (s_ret (d_fn D_bars_so hr (by omega) rfl (a_cons (d_fn D_rule_so0 hr (by omega) rfl (a_cons (d_ix (d_var 0 (pv 0)) d_int) a_nil)) a_nil)))) s_nil) ss_never)))))
abbrev s_joined_rules1 : Stmt := top 60
theorem sc_joined_rules1 : FnScope ["term", "found", "part", "rule"] ["term"] (defScope s_joined_rules1) := ⟨rfl, rfl, rfl, by decide +kernel, rfl, by decide +kernel, by decide +kernel⟩
def m_joined_rules1 : Bk := (sSeq (sAsg 1 (eCall g_rule_so1 (aCons (eBin gIx (eBin gIx (eVar 0) (eC (.int 1))) (eC (.int 0))) aNil))) (sSeq (sFor (srcT (eTail (eBin gIx (eVar 0) (eC (.int 1))))) (bName 2) (sSeq (sAsg 3 (eCall g_rule_so1 (aCons (eVar 2) aNil))) (sAsg 1 (eIf (eB (eBin gEq (eBin gIx (eVar 0) (eC (.int 0))) (eC (.str "most")))) (eCall g_either_so (aCons (eVar 1) (aCons (eVar 3) aNil))) (eCall g_both_so (aCons (eVar 1) (aCons (eVar 3) aNil))))))) (sRet (eVar 1))))
def g_joined_rules1 : List Val → Option Val := run 1 3 m_joined_rules1
theorem ok_joined_rules1 (D_rule_so1 : DG P w K mg base 7 "rule_so" g_rule_so1) (D_either_so : DG P w K mg base 5 "either_so" g_either_so) (D_both_so : DG P w K mg base 5 "both_so" g_both_so) {f : Addr} {fd : FuncData} (F : Fun K "joined_rules" "joined_rules" s_joined_rules1 f fd) : FnOk P w K mg base CX0 8 f fd ["term"] (spG g_joined_rules1) :=
  have S := sc_joined_rules1
  fnG (n := 1) (m := 3) (s := m_joined_rules1) F S rfl rfl fun cdv A outer s0 H E hr =>
    (s_cons (s_asg (ps_set (i := 1) S.nd rfl (by first | exact Or.inl rfl | exact Or.inr rfl) (d_fn D_rule_so1 hr (by omega) rfl (a_cons (d_ix (d_ix (d_var 0 (pv 0)) d_int) d_int) a_nil)))) (s_cons (s_for PassesOwn.never rfl (i_tup (d_tail (d_ix (d_var 0 (pv 0)) d_int))) (g_name (pg_name (i := 2) S.nd rfl (by first | exact Or.inl rfl | exact Or.inr rfl))) (s_cons (s_asg (ps_set (i := 3) S.nd rfl (by first | exact Or.inl rfl | exact Or.inr rfl) (d_fn D_rule_so1 hr (by omega) rfl (a_cons (d_var 2 (pv 2)) a_nil)))) (s_one (s_asg (ps_set (i := 1) S.nd rfl (by first | exact Or.inl rfl | exact Or.inr rfl) (d_if (t_eq (hu100 hr) (d_ix (d_var 0 (pv 0)) d_int) d_str) (d_fn D_either_so hr (by omega) rfl (a_cons (d_var 1 (pv 1)) (a_cons (d_var 3 (pv 3)) a_nil))) (d_fn D_both_so hr (by omega) rfl (a_cons (d_var 1 (pv 1)) (a_cons (d_var 3 (pv 3)) a_nil))))))))) (s_one (s_ret (d_var 1 (pv 1))))))
abbrev s_rule_so2 : Stmt := top 61
theorem sc_rule_so2 : FnScope ["term", "first"] ["term"] (defScope s_rule_so2) := ⟨rfl, rfl, rfl, by decide +kernel, rfl, by decide +kernel, by decide +kernel⟩
def m_rule_so2 : Bk := (sSeq (sIf (eB (eBin gEq (eBin gIx (eVar 0) (eC (.int 0))) (eC (.str "at")))) (sRet (eTup (aCons (eTup (aCons (eBin gIx (eVar 0) (eC (.int 1))) aNil)) aNil))) sNext) (sSeq (sIf (eB (eBin gEq (eBin gIx (eVar 0) (eC (.int 0))) (eC (.str "rank")))) (sRet (eCall g_rank_rule (aCons (eVar 0) aNil))) sNext) (sSeq (sIf (eB (eBin (gIn false) (eBin gIx (eVar 0) (eC (.int 0))) (eTup (aCons (eC (.str "most")) (aCons (eC (.str "least")) aNil))))) (sRet (eCall g_joined_rules1 (aCons (eVar 0) aNil))) sNext) (sSeq (sIf (eB (eBin gEq (eBin gIx (eVar 0) (eC (.int 0))) (eC (.str "then")))) sNever sNext) (sSeq (sIf (eB (eBin gEq (eBin gIx (eVar 0) (eC (.int 0))) (eC (.str "turned")))) (sRet (eCall g_bars_so (aCons (eCall g_rule_so1 (aCons (eBin gIx (eVar 0) (eC (.int 1))) aNil)) aNil))) sNext) sNever)))))
def g_rule_so2 : List Val → Option Val := run 1 1 m_rule_so2
theorem ok_rule_so2 (D_rank_rule : DG P w K mg base 3 "rank_rule" g_rank_rule) (D_joined_rules1 : DG P w K mg base 8 "joined_rules" g_joined_rules1) (D_bars_so : DG P w K mg base 5 "bars_so" g_bars_so) (D_rule_so1 : DG P w K mg base 7 "rule_so" g_rule_so1) {f : Addr} {fd : FuncData} (F : Fun K "rule_so" "rule_so" s_rule_so2 f fd) : FnOk P w K mg base CX0 9 f fd ["term"] (spG g_rule_so2) :=
  have S := sc_rule_so2
  fnG (n := 1) (m := 1) (s := m_rule_so2) F S rfl rfl fun cdv A outer s0 H E hr =>
    (s_cons (s_if (t_eq (hu100 hr) (d_ix (d_var 0 (pv 0)) d_int) d_str) (s_one (s_ret (d_tup (a_cons (d_tup (a_cons (d_ix (d_var 0 (pv 0)) d_int) a_nil)) a_nil)))) s_nil) (s_cons (s_if (t_eq (hu100 hr) (d_ix (d_var 0 (pv 0)) d_int) d_str) (s_one (s_ret (d_fn D_rank_rule hr (by omega) rfl (a_cons (d_var 0 (pv 0)) a_nil)))) s_nil) (s_cons (s_if (t_in (hu100 hr) (d_ix (d_var 0 (pv 0)) d_int) (d_tup (a_cons d_str (a_cons d_str a_nil))) rfl) (s_one (s_ret (d_fn D_joined_rules1 hr (by omega) rfl (a_cons (d_var 0 (pv 0)) a_nil)))) s_nil) (s_cons (s_if (t_eq (hu100 hr) (d_ix (d_var 0 (pv 0)) d_int) d_str) ss_never s_nil) (s_cons (s_if (t_eq (hu100 hr) (d_ix (d_var 0 (pv 0)) d_int) d_str) (s_one (s_ret (d_fn D_bars_so hr (by omega) rfl (a_cons (d_fn D_rule_so1 hr (by omega) rfl (a_cons (d_ix (d_var 0 (pv 0)) d_int) a_nil)) a_nil)))) s_nil) ss_never)))))
abbrev s_term_rule : Stmt := top 62
theorem sc_term_rule : FnScope ["term"] ["term"] (defScope s_term_rule) := ⟨rfl, rfl, rfl, by decide +kernel, rfl, by decide +kernel, by decide +kernel⟩
def m_term_rule : Bk := (sRet (eCall g_rule_so0 (aCons (eCall g_need_term (aCons (eVar 0) aNil)) aNil)))
def g_term_rule : List Val → Option Val := run 1 0 m_term_rule
theorem ok_term_rule (D_rule_so0 : DG P w K mg base 4 "rule_so" g_rule_so0) (D_need_term : DG P w K mg base 6 "need_term" g_need_term) {f : Addr} {fd : FuncData} (F : Fun K "term_rule" "term_rule" s_term_rule f fd) : FnOk P w K mg base CX0 7 f fd ["term"] (spG g_term_rule) :=
  have S := sc_term_rule
  fnG (n := 1) (m := 0) (s := m_term_rule) F S rfl rfl fun cdv A outer s0 H E hr =>
    (s_one (s_ret (d_fn D_rule_so0 hr (by omega) rfl (a_cons (d_fn D_need_term hr (by omega) rfl (a_cons (d_var 0 (pv 0)) a_nil)) a_nil))))
abbrev s_terms_alike : Stmt := top 72
theorem sc_terms_alike : FnScope ["one", "other", "near"] ["one", "other"] (defScope s_terms_alike) := ⟨rfl, rfl, rfl, by decide +kernel, rfl, by decide +kernel, by decide +kernel⟩
def m_terms_alike : Bk := (sSeq (sDrop (eCall g_need_term (aCons (eVar 0) aNil))) (sSeq (sDrop (eCall g_need_term (aCons (eVar 1) aNil))) (sSeq (sAsg 2 (eCall g_rule_so2 (aCons (eVar 0) aNil))) (sRet (eBin gEq (eVar 2) (eCall g_rule_so2 (aCons (eVar 1) aNil)))))))
def g_terms_alike : List Val → Option Val := run 2 1 m_terms_alike
theorem ok_terms_alike (D_need_term : DG P w K mg base 6 "need_term" g_need_term) (D_rule_so2 : DG P w K mg base 9 "rule_so" g_rule_so2) {f : Addr} {fd : FuncData} (F : Fun K "terms_alike" "terms_alike" s_terms_alike f fd) : FnOk P w K mg base CX0 10 f fd ["one", "other"] (spG g_terms_alike) :=
  have S := sc_terms_alike
  fnG (n := 2) (m := 1) (s := m_terms_alike) F S rfl rfl fun cdv A outer s0 H E hr =>
    (s_cons (s_drop (d_fn D_need_term hr (by omega) rfl (a_cons (d_var 0 (pv 0)) a_nil))) (s_cons (s_drop (d_fn D_need_term hr (by omega) rfl (a_cons (d_var 1 (pv 1)) a_nil))) (s_cons (s_asg (ps_set (i := 2) S.nd rfl (by first | exact Or.inl rfl | exact Or.inr rfl) (d_fn D_rule_so2 hr (by omega) rfl (a_cons (d_var 0 (pv 0)) a_nil)))) (s_one (s_ret (d_eq (hu100 hr) (d_var 2 (pv 2)) (d_fn D_rule_so2 hr (by omega) rfl (a_cons (d_var 1 (pv 1)) a_nil))))))))
abbrev s_check_again : Stmt := top 63
theorem sc_check_again : FnScope ["term", "part"] ["term"] (defScope s_check_again) := ⟨rfl, rfl, rfl, by decide +kernel, rfl, by decide +kernel, by decide +kernel⟩
def m_check_again : Bk := (sSeq (sIf (tAndE (eB (eBin gEq (eBin gIx (eVar 0) (eC (.int 0))) (eC (.str "again")))) (eB (eBin (gRel fGt) (eBin gIx (eVar 0) (eC (.int 2))) (eC (.int 60))))) sNever sNext) (sFor (srcT (eCall g_parts_of (aCons (eVar 0) aNil))) (bName 1) sNever))
def g_check_again : List Val → Option Val := run 1 1 m_check_again
theorem ok_check_again (Gc0 : Gc mg) (D_parts_of : DG P w K mg base 2 "parts_of" g_parts_of) {f : Addr} {fd : FuncData} (F : Fun K "check_again" "check_again" s_check_again f fd) : FnOk P w K mg base CX0 3 f fd ["term"] (spG g_check_again) :=
  have S := sc_check_again
  fnG (n := 1) (m := 1) (s := m_check_again) F S rfl rfl fun cdv A outer s0 H E hr =>
    (s_cons (s_if (t_w (w_and (t_eq (hu100 hr) (d_ix (d_var 0 (pv 0)) d_int) d_str) (w_and1 (t_gt (hu100 hr) (d_ix (d_var 0 (pv 0)) d_int) (d_glob rfl Gc0.MOST_STEPS))))) ss_never s_nil) (s_one (s_for PassesOwn.never rfl (i_tup (d_fn D_parts_of hr (by omega) rfl (a_cons (d_var 0 (pv 0)) a_nil))) (g_name (pg_name (i := 1) S.nd rfl (by first | exact Or.inl rfl | exact Or.inr rfl))) ss_never)))
abbrev s_law_mixed : Stmt := top 74
theorem sc_law_mixed : FnScope ["_law_cell", "_law_k"] ["_law_cell", "_law_k"] (defScope s_law_mixed) := ⟨rfl, rfl, rfl, by decide +kernel, rfl, by decide +kernel, by decide +kernel⟩
def m_law_mixed : Bk := (sSeq (sAsg 0 (eBin gMod (eCall gInt (aCons (eVar 0) aNil)) (eC (.int 2147483647)))) (sRet (eBin gMod (eBin gMul (eBin gMod (eBin gAdd (eBin gAdd (eBin gMul (eVar 0) (eBin gAdd (eC (.int 48271)) (eBin gMul (eBin gMul (eC (.int 2)) (eVar 1)) (eVar 1)))) (eBin gMul (eC (.int 69621)) (eVar 1))) (eC (.int 11))) (eC (.int 2147483647))) (eC (.int 69621))) (eC (.int 2147483629)))))
def g_law_mixed : List Val → Option Val := run 2 0 m_law_mixed
theorem ok_law_mixed (B : Bi mg) {f : Addr} {fd : FuncData} (F : Fun K "_law_mixed" "_law_mixed" s_law_mixed f fd) : FnOk P w K mg base CX0 2 f fd ["_law_cell", "_law_k"] (spG g_law_mixed) :=
  have S := sc_law_mixed
  fnG (n := 2) (m := 0) (s := m_law_mixed) F S rfl rfl fun cdv A outer s0 H E hr =>
    (s_cons (s_asg (ps_set (i := 0) S.nd rfl (by first | exact Or.inl rfl | exact Or.inr rfl) (d_mod (d_intOf rfl B.int (a_cons (d_var 0 (pv 0)) a_nil)) d_int))) (s_one (s_ret (d_mod (d_mul (d_mod (d_add (d_add (d_mul (d_var 0 (pv 0)) (d_add d_int (d_mul (d_mul d_int (d_var 1 (pv 1))) (d_var 1 (pv 1))))) (d_mul d_int (d_var 1 (pv 1)))) d_int) d_int) d_int) d_int))))
abbrev s_law_subsets : Stmt := top 78
theorem sc_law_subsets : FnScope ["_law_things", "_law_found", "_law_thing", "_law_row"] ["_law_things"] (defScope s_law_subsets) := ⟨rfl, rfl, rfl, by decide +kernel, rfl, by decide +kernel, by decide +kernel⟩
def m_law_subsets : Bk := (sSeq (sAsg 1 (eLst (aCons (eTup aNil) aNil))) (sSeq (sFor (srcT (eVar 0)) (bName 2) (sAsg 1 (eBin gAdd (eVar 1) (eComp (srcL (eVar 1)) [3] (bName 3) tTrue (eBin gAdd (eVar 3) (eTup (aCons (eVar 2) aNil))))))) (sRet (eVar 1))))
def g_law_subsets : List Val → Option Val := run 1 3 m_law_subsets
theorem ok_law_subsets {f : Addr} {fd : FuncData} (F : Fun K "_law_subsets" "_law_subsets" s_law_subsets f fd) : FnOk P w K mg base CX0 2 f fd ["_law_things"] (spG g_law_subsets) :=
  have S := sc_law_subsets
  fnG (n := 1) (m := 3) (s := m_law_subsets) F S rfl rfl fun cdv A outer s0 H E hr =>
    (s_cons (s_asg (ps_set (i := 1) S.nd rfl (by first | exact Or.inl rfl | exact Or.inr rfl) (d_lst (a_cons (d_tup a_nil) a_nil)))) (s_cons (s_for PassesOwn.never rfl (i_tup (d_var 0 (pv 0))) (g_name (pg_name (i := 2) S.nd rfl (by first | exact Or.inl rfl | exact Or.inr rfl))) (s_one (s_asg (ps_set (i := 1) S.nd rfl (by first | exact Or.inl rfl | exact Or.inr rfl) (d_add (d_var 1 (pv 1)) (d_comp (own := [("_law_row", 3)]) rfl S.nd (i_lstC (d_var 1 (pv 1))) (blkOk_by (N := ["_law_things", "_law_found", "_law_thing", "_law_row"]) (sc := defScope s_law_subsets) (by decide +kernel)) (fun _ _ _ _ _ => (g_name (pg_name (i := 3) S.nd rfl (by first | exact Or.inl rfl | exact Or.inr rfl)))) (fun _ _ _ _ _ => pts_nilD) (fun _ _ _ _ _ => (d_add (d_var 3 (pv 3)) (d_tup (a_cons (d_var 2 (pv 2)) a_nil)))))))))) (s_one (s_ret (d_var 1 (pv 1))))))
abbrev s_law_sets : Stmt := top 82
theorem sc_law_sets : FnScope ["_law_spots", "_law_many", "_law_row"] ["_law_spots", "_law_many"] (defScope s_law_sets) := ⟨rfl, rfl, rfl, by decide +kernel, rfl, by decide +kernel, by decide +kernel⟩
def m_law_sets : Bk := (sRet (eCall gTuple (aCons (eCall gSorted (aCons (eComp (srcL (eCall g_law_subsets (aCons (eVar 0) aNil))) [2] (bName 2) (eB (eBin gEq (eCall gLen (aCons (eVar 2) aNil)) (eVar 1))) (eVar 2)) aNil)) aNil)))
def g_law_sets : List Val → Option Val := run 2 1 m_law_sets
theorem ok_law_sets (B : Bi mg) (D_law_subsets : DG P w K mg base 2 "_law_subsets" g_law_subsets) {f : Addr} {fd : FuncData} (F : Fun K "_law_sets" "_law_sets" s_law_sets f fd) : FnOk P w K mg base CX0 3 f fd ["_law_spots", "_law_many"] (spG g_law_sets) :=
  have S := sc_law_sets
  fnG (n := 2) (m := 1) (s := m_law_sets) F S rfl rfl fun cdv A outer s0 H E hr =>
    (s_one (s_ret (d_tupleOf rfl B.tuple (a_cons (d_sorted (hu100 hr) rfl B.sorted (a_cons (d_comp (own := [("_law_row", 2)]) rfl S.nd (i_lstC (d_fn D_law_subsets hr (by omega) rfl (a_cons (d_var 0 (pv 0)) a_nil))) (blkOk_by (N := ["_law_spots", "_law_many", "_law_row"]) (sc := defScope s_law_sets) (by decide +kernel)) (fun _ _ _ _ _ => (g_name (pg_name (i := 2) S.nd rfl (by first | exact Or.inl rfl | exact Or.inr rfl)))) (fun _ _ _ _ _ => (pts_oneD (t_eq (hu100 hr) (d_len rfl B.len (a_cons (d_var 2 (pv 2)) a_nil)) (d_var 1 (pv 1))))) (fun _ _ _ _ _ => (d_var 2 (pv 2)))) a_nil)) a_nil))))
end
end Al
set_option Elab.async false
set_option linter.all false
set_option maxRecDepth 100000
set_option maxHeartbeats 4000000
namespace Al
open PySem L2 Ai
section
variable {P : Program} {w : World} {K : PySem.W.Frag} {mg : Str → Option Value} {base : Heap}
theorem hu120 {k : Nat} {A : Around} (r : Room k A) : A.units + 120 < cLine := by have := r.un; omega
theorem hu1 {k : Nat} {A : Around} (r : Room k A) : A.units + 1 < cLine := by have := r.un; omega
abbrev s_table_of : Stmt := top 64
theorem sc_table_of : FnScope ["places", "found", "place"] ["places"] (defScope s_table_of) := ⟨rfl, rfl, rfl, by decide +kernel, rfl, by decide +kernel, by decide +kernel⟩
def m_table_of : Bk := (sBuild 1 (bFor (srcVT 0) (bName 2) (bPut (eVar 2) (eC (.bool true)))) (sRet (eVar 1)))
def g_table_of : List Val → Option Val := run 1 2 m_table_of
theorem ok_table_of {f : Addr} {fd : FuncData} (F : Fun K "table_of" "table_of" s_table_of f fd) : FnOk P w K mg base CX0 2 f fd ["places"] (spG g_table_of) :=
  have S := sc_table_of
  fnG (n := 1) (m := 2) (s := m_table_of) F S rfl rfl fun cdv A outer s0 H E hr =>
    (s_build (ps_set (i := 1) S.nd rfl (by first | exact Or.inl rfl | exact Or.inr rfl) pe_dnewT) (sd_forW PassesOwn.never rfl (i_vt 0 (pv 0)) (g_name (pg_name (i := 2) S.nd rfl (by first | exact Or.inl rfl | exact Or.inr rfl))) (sd_one (sd_put (ps_dput (hu1 hr) (pv 1) (d_var 2 (pv 2)) d_bool rfl))) (by decide) (bn_name (by decide))) (s_one (s_ret (d_var 1 (pv 1)))))
abbrev s_check_odd : Stmt := top 65
theorem sc_check_odd : FnScope ["picture"] ["picture"] (defScope s_check_odd) := ⟨rfl, rfl, rfl, by decide +kernel, rfl, by decide +kernel, by decide +kernel⟩
def m_check_odd : Bk := (sSeq (sIf (eB (eBin (gRel fGt) (eCall gLenD (aCons (eBin gPx (eVar 0) (eC (.int 1))) aNil)) (eC (.int 400)))) sNever sNext) (sRet (eVar 0)))
def g_check_odd : List Val → Option Val := run 1 0 m_check_odd
theorem ok_check_odd (B : Bi mg) (Gc0 : Gc mg) {f : Addr} {fd : FuncData} (F : Fun K "check_odd" "check_odd" s_check_odd f fd) : FnOk P w K mg base CX0 2 f fd ["picture"] (spG g_check_odd) :=
  have S := sc_check_odd
  fnG (n := 1) (m := 0) (s := m_check_odd) F S rfl rfl fun cdv A outer s0 H E hr =>
    (s_cons (s_if (t_gt (hu100 hr) (d_lenD rfl B.len (a_cons (d_pix (d_var 0 (pv 0)) d_int) a_nil)) (d_glob rfl Gc0.MOST_MARKS)) ss_never s_nil) (s_one (s_ret (d_var 0 (pv 0)))))
abbrev s_ranked_picture : Stmt := top 68
theorem sc_ranked_picture : FnScope ["term", "picture", "counts", "mark", "place", "spot", "least"] ["term", "picture"] (defScope s_ranked_picture) := ⟨rfl, rfl, rfl, by decide +kernel, rfl, by decide +kernel, by decide +kernel⟩
def m_ranked_picture : Bk := (sBuild 2 (bFor (srcK (eBin gPx (eVar 1) (eC (.int 1)))) (bName 3) (bFor (srcT (eBin gIx (eVar 0) (eC (.int 2)))) (bName 4) (bSeq (bAsg 5 (eCall g_taken_off (aCons (eVar 3) (aCons (eVar 4) aNil)))) (bCnt (eVar 5) (eVar 5))))) (sSeq (sAsg 6 (eIf (eB (eBin gPx (eVar 1) (eC (.int 0)))) (eBin gSub (eBin gAdd (eCall gLen (aCons (eBin gIx (eVar 0) (eC (.int 2))) aNil)) (eC (.int 1))) (eBin gIx (eVar 0) (eC (.int 1)))) (eBin gIx (eVar 0) (eC (.int 1))))) (sRet (ePic (aCons (eBin gPx (eVar 1) (eC (.int 0))) (aCons (eCall g_table_of (aCons (eComp (srcK (eVar 2)) [5] (bName 5) (eB (eBin (gRel fGe) (eDix (eVar 2) (eVar 5)) (eVar 6))) (eVar 5)) aNil)) aNil))))))
def g_ranked_picture : List Val → Option Val := run 2 5 m_ranked_picture
theorem ok_ranked_picture (B : Bi mg) (D_taken_off : DG P w K mg base 2 "taken_off" g_taken_off) (D_table_of : DG P w K mg base 2 "table_of" g_table_of) {f : Addr} {fd : FuncData} (F : Fun K "ranked_picture" "ranked_picture" s_ranked_picture f fd) : FnOk P w K mg base CX0 3 f fd ["term", "picture"] (spG g_ranked_picture) :=
  have S := sc_ranked_picture
  fnG (n := 2) (m := 5) (s := m_ranked_picture) F S rfl rfl fun cdv A outer s0 H E hr =>
    (s_build (ps_set (i := 2) S.nd rfl (by first | exact Or.inl rfl | exact Or.inr rfl) pe_dnewT) (sd_for PassesOwn.never rfl (i_keys (d_pix (d_var 1 (pv 1)) d_int)) (g_name (pg_name (i := 3) S.nd rfl (by first | exact Or.inl rfl | exact Or.inr rfl))) (sd_one (sd_for PassesOwn.never rfl (i_x (i_tup (d_ix (d_var 0 (pv 0)) d_int))) (g_name (pg_name (i := 4) S.nd rfl (by first | exact Or.inl rfl | exact Or.inr rfl))) (sd_cons (sd_asg (ps_set (i := 5) S.nd rfl (by first | exact Or.inl rfl | exact Or.inr rfl) (d_fn D_taken_off hr (by omega) rfl (a_cons (d_var 3 (pv 3)) (a_cons (d_var 4 (pv 4)) a_nil)))) (by decide)) (sd_one (sd_cnt (ps_dput (hu1 hr) (pv 2) (d_var 5 (pv 5)) (pe_op op_add (pe_dget2 (hu1 hr) (pv 2) (d_var 5 (pv 5)) pe_int ⟨rfl, rfl, rfl, rfl⟩) pe_int) rfl)))) (by decide) (bn_name (by decide)))) (by decide) (bn_name (by decide))) (s_cons (s_asg (ps_set (i := 6) S.nd rfl (by first | exact Or.inl rfl | exact Or.inr rfl) (d_if (t_val (d_pix (d_var 1 (pv 1)) d_int)) (d_sub (d_add (d_len rfl B.len (a_cons (d_ix (d_var 0 (pv 0)) d_int) a_nil)) d_int) (d_ix (d_var 0 (pv 0)) d_int)) (d_ix (d_var 0 (pv 0)) d_int)))) (s_one (s_ret (d_pic (a_cons (d_pix (d_var 1 (pv 1)) d_int) (a_cons (d_fn D_table_of hr (by omega) rfl (a_cons (d_comp (own := [("spot", 5)]) rfl S.nd (i_xc (i_keys (d_var 2 (pv 2)))) (blkOk_by (N := ["term", "picture", "counts", "mark", "place", "spot", "least"]) (sc := defScope s_ranked_picture) (by decide +kernel)) (fun _ _ _ _ _ => (g_name (pg_name (i := 5) S.nd rfl (by first | exact Or.inl rfl | exact Or.inr rfl)))) (fun _ _ _ _ _ => (pts_oneD (t_ge (hu100 hr) (d_dix (hu100 hr) (d_var 2 (pv 2)) (d_var 5 (pv 5))) (d_var 6 (pv 6))))) (fun _ _ _ _ _ => (d_var 5 (pv 5)))) a_nil)) a_nil)))))))
abbrev s_picture_behind : Stmt := top 70
theorem sc_picture_behind : FnScope ["term", "picture", "mark", "found", "step"] ["term", "picture"] (defScope s_picture_behind) := ⟨rfl, rfl, rfl, by decide +kernel, rfl, by decide +kernel, by decide +kernel⟩
def m_picture_behind : Bk := (sSeq (sIf (eB (eBin gEq (eBin gIx (eVar 0) (eC (.int 0))) (eC (.str "at")))) sNever sNext) (sSeq (sIf (eB (eBin gEq (eBin gIx (eVar 0) (eC (.int 0))) (eC (.str "rank")))) (sRet (eCall g_check_odd (aCons (eCall g_ranked_picture (aCons (eVar 0) (aCons (eVar 1) aNil))) aNil))) sNext) sNever))
def g_picture_behind : List Val → Option Val := run 2 3 m_picture_behind
theorem ok_picture_behind (D_check_odd : DG P w K mg base 2 "check_odd" g_check_odd) (D_ranked_picture : DG P w K mg base 3 "ranked_picture" g_ranked_picture) {f : Addr} {fd : FuncData} (F : Fun K "picture_behind" "picture_behind" s_picture_behind f fd) : FnOk P w K mg base CX0 4 f fd ["term", "picture"] (spG g_picture_behind) :=
  have S := sc_picture_behind
  fnG (n := 2) (m := 3) (s := m_picture_behind) F S rfl rfl fun cdv A outer s0 H E hr =>
    (s_cons (s_if (t_eq (hu100 hr) (d_ix (d_var 0 (pv 0)) d_int) d_str) ss_never s_nil) (s_cons (s_if (t_eq (hu100 hr) (d_ix (d_var 0 (pv 0)) d_int) d_str) (s_one (s_ret (d_fn D_check_odd hr (by omega) rfl (a_cons (d_fn D_ranked_picture hr (by omega) rfl (a_cons (d_var 0 (pv 0)) (a_cons (d_var 1 (pv 1)) a_nil))) a_nil)))) s_nil) ss_never))
abbrev s_term_stepped : Stmt := top 71
theorem sc_term_stepped : FnScope ["term", "island"] ["term", "island"] (defScope s_term_stepped) := ⟨rfl, rfl, rfl, by decide +kernel, rfl, by decide +kernel, by decide +kernel⟩
def m_term_stepped : Bk := (sSeq (sDrop (eCall g_need_term (aCons (eVar 0) aNil))) (sSeq (sDrop (eCall g_need_island (aCons (eVar 1) aNil))) (sSeq (sDrop (eCall g_check_again (aCons (eVar 0) aNil))) (sRet (eCall gTuple (aCons (eCall gSortD (aCons (eBin gPx (eCall g_picture_behind (aCons (eVar 0) (aCons (ePic (aCons (eC (.bool false)) (aCons (eCall g_table_of (aCons (eVar 1) aNil)) aNil))) aNil))) (eC (.int 1))) aNil)) aNil))))))
def g_term_stepped : List Val → Option Val := run 2 0 m_term_stepped
theorem ok_term_stepped (B : Bi mg) (D_need_term : DG P w K mg base 6 "need_term" g_need_term) (D_need_island : DG P w K mg base 6 "need_island" g_need_island) (D_check_again : DG P w K mg base 3 "check_again" g_check_again) (D_picture_behind : DG P w K mg base 4 "picture_behind" g_picture_behind) (D_table_of : DG P w K mg base 2 "table_of" g_table_of) {f : Addr} {fd : FuncData} (F : Fun K "term_stepped" "term_stepped" s_term_stepped f fd) : FnOk P w K mg base CX0 7 f fd ["term", "island"] (spG g_term_stepped) :=
  have S := sc_term_stepped
  fnG (n := 2) (m := 0) (s := m_term_stepped) F S rfl rfl fun cdv A outer s0 H E hr =>
    (s_cons (s_drop (d_fn D_need_term hr (by omega) rfl (a_cons (d_var 0 (pv 0)) a_nil))) (s_cons (s_drop (d_fn D_need_island hr (by omega) rfl (a_cons (d_var 1 (pv 1)) a_nil))) (s_cons (s_drop (d_fn D_check_again hr (by omega) rfl (a_cons (d_var 0 (pv 0)) a_nil))) (s_one (s_ret (d_tupleOf rfl B.tuple (a_cons (d_sortedD rfl (hu120 hr) rfl B.sorted (a_cons (d_pix (d_fn D_picture_behind hr (by omega) rfl (a_cons (d_var 0 (pv 0)) (a_cons (d_pic (a_cons d_bool (a_cons (d_fn D_table_of hr (by omega) rfl (a_cons (d_var 1 (pv 1)) a_nil)) a_nil))) a_nil))) d_int) a_nil)) a_nil)))))))
abbrev s_law_counted_marks : Stmt := top 81
theorem sc_law_counted_marks : FnScope ["_law_spots", "_law_least_so", "_law_marks_so", "_law_counts", "_law_x", "_law_y", "_law_p", "_law_q", "_law_spot"] ["_law_spots", "_law_least_so", "_law_marks_so"] (defScope s_law_counted_marks) := ⟨rfl, rfl, rfl, by decide +kernel, rfl, by decide +kernel, by decide +kernel⟩
def m_law_counted_marks : Bk := (sBuild 3 (bFor (srcT (eVar 2)) (bPair 4 5) (bFor (srcT (eVar 0)) (bPair 6 7) (bCnt (eTup (aCons (eBin gSub (eVar 4) (eVar 6)) (aCons (eBin gSub (eVar 5) (eVar 7)) aNil))) (eTup (aCons (eBin gSub (eVar 4) (eVar 6)) (aCons (eBin gSub (eVar 5) (eVar 7)) aNil)))))) (sRet (eCall gTuple (aCons (eCall gSorted (aCons (eComp (srcN (eCall gListD (aCons (eVar 3) aNil))) [8] (bName 8) (eB (eBin (gRel fGe) (eDix (eVar 3) (eVar 8)) (eVar 1))) (eVar 8)) aNil)) aNil))))
def g_law_counted_marks : List Val → Option Val := run 3 6 m_law_counted_marks
theorem ok_law_counted_marks (B : Bi mg) {f : Addr} {fd : FuncData} (F : Fun K "_law_counted_marks" "_law_counted_marks" s_law_counted_marks f fd) : FnOk P w K mg base CX0 2 f fd ["_law_spots", "_law_least_so", "_law_marks_so"] (spG g_law_counted_marks) :=
  have S := sc_law_counted_marks
  fnG (n := 3) (m := 6) (s := m_law_counted_marks) F S rfl rfl fun cdv A outer s0 H E hr =>
    (s_build (ps_set (i := 3) S.nd rfl (by first | exact Or.inl rfl | exact Or.inr rfl) pe_dnewT) (sd_for PassesOwn.never rfl (i_x (i_tup (d_var 2 (pv 2)))) (g_pair (pg_tup rfl (pgs_cons (pg_name (i := 4) S.nd rfl (by first | exact Or.inl rfl | exact Or.inr rfl)) (pgs_cons (pg_name (i := 5) S.nd rfl (by first | exact Or.inl rfl | exact Or.inr rfl)) pgs_nil)))) (sd_one (sd_for PassesOwn.never rfl (i_x (i_tup (d_var 0 (pv 0)))) (g_pair (pg_tup rfl (pgs_cons (pg_name (i := 6) S.nd rfl (by first | exact Or.inl rfl | exact Or.inr rfl)) (pgs_cons (pg_name (i := 7) S.nd rfl (by first | exact Or.inl rfl | exact Or.inr rfl)) pgs_nil)))) (sd_one (sd_cnt (ps_dput (hu1 hr) (pv 3) (d_tup (a_cons (d_sub (d_var 4 (pv 4)) (d_var 6 (pv 6))) (a_cons (d_sub (d_var 5 (pv 5)) (d_var 7 (pv 7))) a_nil))) (pe_op op_add (pe_dget2 (hu1 hr) (pv 3) (d_tup (a_cons (d_sub (d_var 4 (pv 4)) (d_var 6 (pv 6))) (a_cons (d_sub (d_var 5 (pv 5)) (d_var 7 (pv 7))) a_nil))) pe_int ⟨rfl, rfl, rfl, rfl⟩) pe_int) rfl))) (by decide) (bn_pair (by decide) (by decide)))) (by decide) (bn_pair (by decide) (by decide))) (s_one (s_ret (d_tupleOf rfl B.tuple (a_cons (d_sorted (hu100 hr) rfl B.sorted (a_cons (d_comp (own := [("_law_spot", 8)]) rfl S.nd (i_c (i_new (d_listD rfl rfl B.list (a_cons (d_var 3 (pv 3)) a_nil)))) (blkOk_by (N := ["_law_spots", "_law_least_so", "_law_marks_so", "_law_counts", "_law_x", "_law_y", "_law_p", "_law_q", "_law_spot"]) (sc := defScope s_law_counted_marks) (by decide +kernel)) (fun _ _ _ _ _ => (g_name (pg_name (i := 8) S.nd rfl (by first | exact Or.inl rfl | exact Or.inr rfl)))) (fun _ _ _ _ _ => (pts_oneD (t_ge (hu100 hr) (d_dix (hu100 hr) (d_var 3 (pv 3)) (d_var 8 (pv 8))) (d_var 1 (pv 1))))) (fun _ _ _ _ _ => (d_var 8 (pv 8)))) a_nil)) a_nil)))))
end
end Al
set_option Elab.async false
set_option linter.all false
set_option maxRecDepth 100000
set_option maxHeartbeats 4000000
namespace Al
open PySem L2 Ai
section
variable {P : Program} {w : World} {K : PySem.W.Frag} {mg : Str → Option Value} {base : Heap}
/-- a def that may be called where no text is being made -/
structure DGG (P : Program) (w : World) (K : PySem.W.Frag) (mg : Str → Option Value) (base : Heap) (k : Nat) (x : Str) (g : List Val → Option Val) : Prop where
  ex : ∃ f fd ps, FnG P w K mg base CX0 k f fd ps (spG g) ∧ mg x = some (.ref f) ∧ PySem.W.keepIn K (.ref f) = true ∧ Binds K fd ps []
section
variable {X : Cx} {k j : Nat} {x : Str} {g : List Val → Option Val} {e : Expr} {es : List Expr} {fa : Tas} {p pos : Pos}
theorem d_fnG (D : DGG X.prog X.w X.K X.mg X.base k x g) (hA : X.A.guards = some []) (hr : Room j X.A) (hk : k ≤ j) (hg : Gl X x) (ha : PA X (e :: es) (tA fa)) (hdb : (x == ("__debug__" : Str)) = false := by decide) (he : starEach (e :: es) X.env = (false, eval e X.env) :: starEach es X.env := by rfl)
    (hpl : (backTo pos (starEach es X.env)).any (·.1) = false := by rfl) : PE X (.Call (.Name x p) (e :: es) [] pos) (tD (eCall g fa)) := by
  obtain ⟨f, fd, ps, F, hm, kp, b⟩ := D.ex
  exact d_call (pe_callG (E := E0) F hA (hr.mono hk) hg hm kp b .nil pass0 ha hdb he hpl)
end
abbrev s_law_like : Stmt := top 79
theorem sc_law_like : FnScope ["_law_got", "_law_due"] ["_law_got", "_law_due"] (defScope s_law_like) := ⟨rfl, rfl, rfl, by decide +kernel, rfl, by decide +kernel, by decide +kernel⟩
def m_law_like : Bk := (sRet (eLike (aCons (eVar 0) aNil) (aCons (eVar 1) aNil)))
def g_law_like : List Val → Option Val := run 2 0 m_law_like
theorem ok_law_like (B : Bi mg) {f : Addr} {fd : FuncData} (F : Fun K "_law_like" "_law_like" s_law_like f fd) : FnG P w K mg base CX0 2 f fd ["_law_got", "_law_due"] (spG g_law_like) :=
  have S := sc_law_like
  fnGG (n := 2) (m := 0) (s := m_law_like) F S rfl rfl fun cdv A outer s0 H E hgd hr =>
    (s_one (s_ret (d_like hgd (hu100 hr) rfl B.repr (a_cons (d_var 0 (pv 0)) a_nil) (a_cons (d_var 1 (pv 1)) a_nil))))
abbrev s_law_right : Stmt := top 83
theorem sc_law_right : FnScope ["_law_spots", "_law_marks_so", "_law_many", "_law_least_so", "_law_told", "_law_due", "_law_ends_so"] ["_law_spots", "_law_marks_so"] (defScope s_law_right) := ⟨rfl, rfl, rfl, by decide +kernel, rfl, by decide +kernel, by decide +kernel⟩
def m_law_right : Bk := (sSeq (sAsg 2 (eCall gLen (aCons (eVar 0) aNil))) (sSeq (sFor (src2 (aCons (eC (.int 1)) (aCons (eBin gAdd (eVar 2) (eC (.int 1))) aNil))) (bName 3) (sSeq (sAsg 4 (eTup (aCons (eC (.str "rank")) (aCons (eVar 3) (aCons (eVar 0) aNil))))) (sSeq (sAsg 5 (eCall g_law_sets (aCons (eVar 0) (aCons (eVar 3) aNil)))) (sSeq (sIf (tNotE (eB (eCall g_law_like (aCons (eLst (aCons (eCall g_term_rule (aCons (eVar 4) aNil)) (aCons (eCall g_term_stepped (aCons (eVar 4) (aCons (eVar 1) aNil))) aNil))) (aCons (eLst (aCons (eVar 5) (aCons (eCall g_law_counted_marks (aCons (eVar 0) (aCons (eVar 3) (aCons (eVar 1) aNil)))) aNil))) aNil))))) (sRet (eC (.bool false))) sNext) (sSeq (sIf (eB (eBin (gIsB true) (eCall g_terms_alike (aCons (eTup (aCons (eC (.str "turned")) (aCons (eVar 4) aNil))) (aCons (eTup (aCons (eC (.str "rank")) (aCons (eBin gSub (eBin gAdd (eVar 2) (eC (.int 1))) (eVar 3)) (aCons (eVar 0) aNil)))) aNil))) (eC (.bool true)))) (sRet (eC (.bool false))) sNext) (sIf (tAndE (eB (eBin (gRel fGt) (eVar 3) (eC (.int 1)))) (eB (eBin (gIsB true) (eCall g_is_lesser (aCons (eVar 5) (aCons (eCall g_term_rule (aCons (eTup (aCons (eC (.str "rank")) (aCons (eBin gSub (eVar 3) (eC (.int 1))) (aCons (eVar 0) aNil)))) aNil)) aNil))) (eC (.bool true))))) (sRet (eC (.bool false))) sNext)))))) (sSeq (sAsg 6 (eLst (aCons (eCall g_terms_alike (aCons (eTup (aCons (eC (.str "rank")) (aCons (eC (.int 1)) (aCons (eVar 0) aNil)))) (aCons (eCall g_grown (aCons (eVar 0) aNil)) aNil))) (aCons (eCall g_terms_alike (aCons (eTup (aCons (eC (.str "rank")) (aCons (eVar 2) (aCons (eVar 0) aNil)))) (aCons (eCall g_eaten (aCons (eVar 0) aNil)) aNil))) aNil)))) (sRet (eCall g_law_like (aCons (eVar 6) (aCons (eLst (aCons (eC (.bool true)) (aCons (eC (.bool true)) aNil))) aNil)))))))
def g_law_right : List Val → Option Val := run 2 5 m_law_right
theorem ok_law_right (B : Bi mg) (D_law_sets : DG P w K mg base 3 "_law_sets" g_law_sets) (D_law_like : DGG P w K mg base 2 "_law_like" g_law_like) (D_law_counted_marks : DG P w K mg base 2 "_law_counted_marks" g_law_counted_marks) (D_term_stepped : DG P w K mg base 7 "term_stepped" g_term_stepped) (D_term_rule : DG P w K mg base 7 "term_rule" g_term_rule) (D_terms_alike : DG P w K mg base 10 "terms_alike" g_terms_alike) (D_is_lesser : DG P w K mg base 7 "is_lesser" g_is_lesser) (D_eaten : DG P w K mg base 6 "eaten" g_eaten) (D_grown : DG P w K mg base 6 "grown" g_grown) {f : Addr} {fd : FuncData} (F : Fun K "_law_right" "_law_right" s_law_right f fd) : FnG P w K mg base CX0 11 f fd ["_law_spots", "_law_marks_so"] (spG g_law_right) :=
  have S := sc_law_right
  fnGG (n := 2) (m := 5) (s := m_law_right) F S rfl rfl fun cdv A outer s0 H E hgd hr =>
    (s_cons (s_asg (ps_set (i := 2) S.nd rfl (by first | exact Or.inl rfl | exact Or.inr rfl) (d_len rfl B.len (a_cons (d_var 0 (pv 0)) a_nil)))) (s_cons (s_for PassesOwn.never rfl (i_rng2 (pi_range2 rfl B.range (a_cons d_int (a_cons (d_add (d_var 2 (pv 2)) d_int) a_nil)))) (g_name (pg_name (i := 3) S.nd rfl (by first | exact Or.inl rfl | exact Or.inr rfl))) (s_cons (s_asg (ps_set (i := 4) S.nd rfl (by first | exact Or.inl rfl | exact Or.inr rfl) (d_tup (a_cons d_str (a_cons (d_var 3 (pv 3)) (a_cons (d_var 0 (pv 0)) a_nil)))))) (s_cons (s_asg (ps_set (i := 5) S.nd rfl (by first | exact Or.inl rfl | exact Or.inr rfl) (d_fn D_law_sets hr (by omega) rfl (a_cons (d_var 0 (pv 0)) (a_cons (d_var 3 (pv 3)) a_nil))))) (s_cons (s_if (t_not (t_val (d_fnG D_law_like hgd hr (by omega) rfl (a_cons (d_lst (a_cons (d_fn D_term_rule hr (by omega) rfl (a_cons (d_var 4 (pv 4)) a_nil)) (a_cons (d_fn D_term_stepped hr (by omega) rfl (a_cons (d_var 4 (pv 4)) (a_cons (d_var 1 (pv 1)) a_nil))) a_nil))) (a_cons (d_lst (a_cons (d_var 5 (pv 5)) (a_cons (d_fn D_law_counted_marks hr (by omega) rfl (a_cons (d_var 0 (pv 0)) (a_cons (d_var 3 (pv 3)) (a_cons (d_var 1 (pv 1)) a_nil)))) a_nil))) a_nil))))) (s_one (s_ret d_bool)) s_nil) (s_cons (s_if (t_isnotB (d_fn D_terms_alike hr (by omega) rfl (a_cons (d_tup (a_cons d_str (a_cons (d_var 4 (pv 4)) a_nil))) (a_cons (d_tup (a_cons d_str (a_cons (d_sub (d_add (d_var 2 (pv 2)) d_int) (d_var 3 (pv 3))) (a_cons (d_var 0 (pv 0)) a_nil)))) a_nil))) d_bool) (s_one (s_ret d_bool)) s_nil) (s_one (s_if (t_w (w_and (t_gt (hu100 hr) (d_var 3 (pv 3)) d_int) (w_and1 (t_isnotB (d_fn D_is_lesser hr (by omega) rfl (a_cons (d_var 5 (pv 5)) (a_cons (d_fn D_term_rule hr (by omega) rfl (a_cons (d_tup (a_cons d_str (a_cons (d_sub (d_var 3 (pv 3)) d_int) (a_cons (d_var 0 (pv 0)) a_nil)))) a_nil)) a_nil))) d_bool)))) (s_one (s_ret d_bool)) s_nil))))))) (s_cons (s_asg (ps_set (i := 6) S.nd rfl (by first | exact Or.inl rfl | exact Or.inr rfl) (d_lst (a_cons (d_fn D_terms_alike hr (by omega) rfl (a_cons (d_tup (a_cons d_str (a_cons d_int (a_cons (d_var 0 (pv 0)) a_nil)))) (a_cons (d_fn D_grown hr (by omega) rfl (a_cons (d_var 0 (pv 0)) a_nil)) a_nil))) (a_cons (d_fn D_terms_alike hr (by omega) rfl (a_cons (d_tup (a_cons d_str (a_cons (d_var 2 (pv 2)) (a_cons (d_var 0 (pv 0)) a_nil)))) (a_cons (d_fn D_eaten hr (by omega) rfl (a_cons (d_var 0 (pv 0)) a_nil)) a_nil))) a_nil))))) (s_one (s_ret (d_fnG D_law_like hgd hr (by omega) rfl (a_cons (d_var 6 (pv 6)) (a_cons (d_lst (a_cons d_bool (a_cons d_bool a_nil))) a_nil))))))))
end
end Al
set_option Elab.async false
set_option linter.all false
set_option maxRecDepth 100000
set_option maxHeartbeats 4000000
/-! Al, plain part A: what the program's defs compute, over any order; a map that keeps the order goes through. -/
namespace Al
open Ai
section
variable {α : Type} [DecidableEq α] (lt : α → α → Bool)
/-- one set has all of another -/
def hasAll (n m : List α) : Bool := m.all fun p => decide (p ∈ n)
def holdsOne (n : List α) (r : List (List α)) : Bool := r.any fun m => hasAll n m
def ltLen (a b : List α) : Bool := decide (a.length < b.length)
def keep1 (kept : List (List α)) (n : List α) : List (List α) := if holdsOne n kept then kept else kept ++ [n]
def leastOf (ns : List (List α)) : List (List α) := isort (lexS lt) ((isort ltLen ns).foldl keep1 [])
/-- small enough for all that is asked of sizes; no empty set -/
def okNs (ns : List (List α)) : Bool := decide (ns.length ≤ 1000) && ns.all fun n => decide (0 < n.length) && decide (n.length ≤ 30)
def cnt (ns : List (List α)) : Option (List (List α)) := if decide (ns.length ≤ 60) then some ns else none
def leastC (ns : List (List α)) : Option (List (List α)) := if okNs ns then cnt (leastOf lt ns) else none
def joinN (a b : List α) : List α := isort lt (ddp (a ++ b))
def eitherT (a b : List (List α)) : Option (List (List α)) := leastC lt (a ++ b)
def bothT (a b : List (List α)) : Option (List (List α)) := leastC lt (a.flatMap fun x => b.map fun y => joinN lt x y)
def barStep (found : List (List α)) (need : List α) : Option (List (List α)) :=
  leastC lt (found.flatMap fun bar => if need.any (fun p => decide (p ∈ bar)) then [bar] else need.map fun p => isort lt (bar ++ [p]))
def foldO {β γ : Type} (f : β → γ → Option β) : β → List γ → Option β
  | b, [] => some b
  | b, c :: cs => (f b c).bind fun b' => foldO f b' cs
def barsT (needs : List (List α)) : Option (List (List α)) := foldO (barStep lt) [[]] needs
def chosen1 (places : List α) (found : List (List α)) : List (List α) :=
  found.flatMap fun row => (places.filter fun p => match row.getLast? with
    | none => true
    | some q => lt q p).map fun p => row ++ [p]
def chosenT (places : List α) : Nat → List (List α)
  | 0 => [[]]
  | k + 1 => chosen1 lt places (chosenT places k)
/-- the same, where no step makes too many -/
def chRun (places : List α) : Nat → List (List α) → Option (List (List α))
  | 0, f => some f
  | k + 1, f => if decide (f.length ≤ 1000) && f.all (fun r => decide (r.length ≤ 100)) then chRun places k (chosen1 lt places f) else none
def subsT (things : List α) : List (List α) := things.foldl (fun f t => f ++ f.map fun row => row ++ [t]) [[]]
def setsT (spots : List α) (k : Nat) : List (List α) := isort (lexS lt) ((subsT spots).filter fun r => decide (r.length = k))
/-- ascending -/
def ascT {β : Type} (l : β → β → Bool) : List β → Bool
  | a :: b :: r => l a b && ascT l (b :: r)
  | _ => true
def ruleT (r : List (List α)) : Bool := decide (1 ≤ r.length) && decide (r.length ≤ 60) && (r.all fun n => decide (1 ≤ n.length) && decide (n.length ≤ 12) && ascT lt n) && ascT (lexS lt) r && r.all fun n => r.all fun m => decide (m = n) || !hasAll n m
def lesserT (a b : List (List α)) : Bool := a.all fun n => holdsOne n b
/-- the rule of most of at, of least of at -/
def grownT (spots : List α) : Option (List (List α)) := match spots with
  | [] => none
  | q :: r => foldO (fun found p => eitherT lt found [[p]]) [[q]] r
def eatenT (spots : List α) : Option (List (List α)) := match spots with
  | [] => none
  | q :: r => foldO (fun found p => bothT lt found [[p]]) [[q]] r
/-- the rule of most of least of at -/
def allT (sets : List (List α)) : Option (List (List α)) := match sets with
  | [] => none
  | q :: r => (eatenT lt q).bind fun b => foldO (fun found row => (eatenT lt row).bind fun c => eitherT lt found c) b r
/-- binomials as the program counts them -/
def countT (n : Nat) (k : Nat) : Nat := (List.range k).foldl (fun f s => f * (n - s) / (s + 1)) 1
def rankOk (spots : List α) (k : Nat) : Bool :=
  decide (setsT lt spots k = chosenT lt spots k) && decide (chRun lt spots k [[]] = some (chosenT lt spots k)) && okNs (chosenT lt spots k) && decide ((chosenT lt spots k).length ≤ 20) && ((chosenT lt spots k).all fun r => decide (r.length ≤ 6)) &&
  decide (barsT lt (chosenT lt spots k) = some (chosenT lt spots (spots.length + 1 - k))) && ruleT lt (chosenT lt spots k) && (decide (k ≤ 1) || lesserT (chosenT lt spots k) (chosenT lt spots (k - 1))) &&
  (decide (20 < (chosenT lt spots k).length * (k + 1) + 1) || decide (allT lt (chosenT lt spots k) = some (chosenT lt spots k)))
def spotsOk (spots : List α) : Bool := ((List.range spots.length).all fun k => rankOk lt spots (k + 1)) && decide (grownT lt spots = some (chosenT lt spots 1)) && decide (eatenT lt spots = some (chosenT lt spots spots.length))
end
end Al
/-! a map that keeps the order -/
namespace Al
open Ai
structure Emb {α β : Type} (lt : α → α → Bool) (lt' : β → β → Bool) (φ : α → β) : Prop where
  lt : ∀ a b, lt' (φ a) (φ b) = lt a b
  inj : ∀ a b, φ a = φ b → a = b
section
variable {α β : Type} [DecidableEq α] [DecidableEq β] {lt : α → α → Bool} {lt' : β → β → Bool} {φ : α → β}
theorem Emb.map (h : Emb lt lt' φ) : Emb (lexS lt) (lexS lt') (List.map φ) where
  lt := by
    intro a
    induction a with
    | nil => intro b; cases b <;> rfl
    | cons x xs ih => intro b; cases b with
      | nil => rfl
      | cons y ys => simp only [List.map_cons, lexS, h.lt, ih]
  inj := by
    intro a
    induction a with
    | nil => intro b e; cases b with
      | nil => rfl
      | cons y ys => simp at e
    | cons x xs ih => intro b e; cases b with
      | nil => simp at e
      | cons y ys =>
        simp only [List.map_cons, List.cons.injEq] at e
        rw [h.inj _ _ e.1, ih _ e.2]
theorem ins_map {γ δ : Type} {l : γ → γ → Bool} {l' : δ → δ → Bool} {ψ : γ → δ} (h : ∀ a b, l' (ψ a) (ψ b) = l a b) (x : γ) (xs : List γ) : ins l' (ψ x) (xs.map ψ) = (ins l x xs).map ψ := by
  induction xs with
  | nil => rfl
  | cons y ys ih =>
    simp only [List.map_cons, ins, h]
    split
    · simp only [List.map_cons, ih]
    · simp only [List.map_cons]
theorem isort_map {γ δ : Type} {l : γ → γ → Bool} {l' : δ → δ → Bool} {ψ : γ → δ} (h : ∀ a b, l' (ψ a) (ψ b) = l a b) (xs : List γ) : isort l' (xs.map ψ) = (isort l xs).map ψ := by
  induction xs with
  | nil => rfl
  | cons y ys ih => simp only [List.map_cons, isort, ih, ins_map h]
theorem mem_map_inj (h : ∀ a b : α, φ a = φ b → a = b) (p : α) (n : List α) : φ p ∈ n.map φ ↔ p ∈ n := by
  constructor
  · intro m
    obtain ⟨q, hq, e⟩ := List.mem_map.mp m
    rw [← h _ _ e]
    exact hq
  · exact List.mem_map_of_mem
theorem ddp_map (h : ∀ a b : α, φ a = φ b → a = b) (l : List α) : ddp (l.map φ) = (ddp l).map φ := by
  induction l with
  | nil => rfl
  | cons p l ih =>
    simp only [List.map_cons, ddp, mem_map_inj h, ih]
    split <;> rfl
variable (h : Emb lt lt' φ)
include h
theorem hasAll_map (n m : List α) : hasAll (n.map φ) (m.map φ) = hasAll n m := by
  simp only [hasAll, List.all_map, Function.comp_def, mem_map_inj h.inj]
theorem holdsOne_map (n : List α) (r : List (List α)) : holdsOne (n.map φ) (r.map (List.map φ)) = holdsOne n r := by
  simp only [holdsOne, List.any_map, Function.comp_def, hasAll_map h]
theorem keep1_map (k : List (List α)) (n : List α) : keep1 (k.map (List.map φ)) (n.map φ) = (keep1 k n).map (List.map φ) := by
  simp only [keep1, holdsOne_map h]
  split
  · rfl
  · simp only [List.map_append, List.map_cons, List.map_nil]
theorem foldl_keep1_map (ns : List (List α)) : ∀ k : List (List α), (ns.map (List.map φ)).foldl keep1 (k.map (List.map φ)) = (ns.foldl keep1 k).map (List.map φ) := by
  induction ns with
  | nil => intro k; rfl
  | cons n ns ih => intro k; simp only [List.map_cons, List.foldl_cons, keep1_map h, ih]
theorem leastOf_map (ns : List (List α)) : leastOf lt' (ns.map (List.map φ)) = (leastOf lt ns).map (List.map φ) := by
  unfold leastOf
  rw [isort_map (l := ltLen) (l' := ltLen) (fun a b => by simp [ltLen])]
  have := foldl_keep1_map h (isort ltLen ns) []
  simp only [List.map_nil] at this
  rw [this, isort_map h.map.lt]
omit h [DecidableEq α] [DecidableEq β] in
theorem okNs_map (ns : List (List α)) : okNs (ns.map (List.map φ)) = okNs ns := by
  simp only [okNs, List.length_map, List.all_map, Function.comp_def]
theorem leastC_map (ns : List (List α)) : leastC lt' (ns.map (List.map φ)) = (leastC lt ns).map (List.map (List.map φ)) := by
  unfold leastC cnt
  rw [okNs_map, leastOf_map h]
  simp only [List.length_map]
  split
  · split <;> rfl
  · rfl
theorem joinN_map (a b : List α) : joinN lt' (a.map φ) (b.map φ) = (joinN lt a b).map φ := by
  unfold joinN
  rw [← List.map_append, ddp_map h.inj, isort_map h.lt]
theorem eitherT_map (a b : List (List α)) : eitherT lt' (a.map (List.map φ)) (b.map (List.map φ)) = (eitherT lt a b).map (List.map (List.map φ)) := by
  unfold eitherT
  rw [← List.map_append, leastC_map h]
omit h [DecidableEq α] [DecidableEq β] in
theorem flatMap_map' {γ δ ε ζ : Type} {f : γ → δ} {g : ε → ζ} {F : δ → List ζ} {G : γ → List ε} (e : ∀ x, F (f x) = (G x).map g) (l : List γ) : (l.map f).flatMap F = (l.flatMap G).map g := by
  induction l with
  | nil => rfl
  | cons x l ih => simp only [List.map_cons, List.flatMap_cons, List.map_append, e, ih]
theorem bothT_map (a b : List (List α)) : bothT lt' (a.map (List.map φ)) (b.map (List.map φ)) = (bothT lt a b).map (List.map (List.map φ)) := by
  unfold bothT
  rw [flatMap_map' (g := List.map φ) (G := fun x => b.map fun y => joinN lt x y) (fun x => by simp only [List.map_map, Function.comp_def, joinN_map h]), leastC_map h]
theorem barStep_map (f : List (List α)) (n : List α) : barStep lt' (f.map (List.map φ)) (n.map φ) = (barStep lt f n).map (List.map (List.map φ)) := by
  unfold barStep
  rw [flatMap_map' (g := List.map φ) (G := fun bar => if n.any (fun p => decide (p ∈ bar)) then [bar] else n.map fun p => isort lt (bar ++ [p])) (fun x => ?_), leastC_map h]
  simp only [List.any_map, Function.comp_def, mem_map_inj h.inj]
  split
  · rfl
  · simp only [List.map_map, Function.comp_def]
    refine List.map_congr_left fun p _ => ?_
    rw [← isort_map h.lt, List.map_append]
    rfl
omit h [DecidableEq α] [DecidableEq β] in
theorem foldO_map {γ δ ε ζ : Type} {f : γ → ε → Option γ} {f' : δ → ζ → Option δ} {g : γ → δ} {k : ε → ζ} (e : ∀ b c, f' (g b) (k c) = (f b c).map g) (l : List ε) : ∀ b, foldO f' (g b) (l.map k) = (foldO f b l).map g := by
  induction l with
  | nil => intro b; rfl
  | cons c l ih =>
    intro b
    simp only [List.map_cons, foldO, e]
    cases f b c with
    | none => rfl
    | some x => exact ih x
theorem barsT_map (ns : List (List α)) : barsT lt' (ns.map (List.map φ)) = (barsT lt ns).map (List.map (List.map φ)) :=
  foldO_map (g := List.map (List.map φ)) (k := List.map φ) (fun b c => barStep_map h b c) ns [[]]
theorem chosen1_map (ps : List α) (f : List (List α)) : chosen1 lt' (ps.map φ) (f.map (List.map φ)) = (chosen1 lt ps f).map (List.map φ) := by
  unfold chosen1
  refine flatMap_map' (fun row => ?_) f
  rw [List.filter_map, List.map_map, List.map_map]
  simp only [List.getLast?_map]
  cases row.getLast? with
  | none => simp only [Option.map_none, Function.comp_def, List.map_append, List.map_cons, List.map_nil]
  | some q => simp only [Option.map_some, Function.comp_def, h.lt, List.map_append, List.map_cons, List.map_nil]
theorem chosenT_map (ps : List α) : ∀ k, chosenT lt' (ps.map φ) k = (chosenT lt ps k).map (List.map φ)
  | 0 => rfl
  | k + 1 => by rw [chosenT, chosenT, chosenT_map ps k, chosen1_map h]
theorem chRun_map (ps : List α) : ∀ (k : Nat) (f : List (List α)), chRun lt' (ps.map φ) k (f.map (List.map φ)) = (chRun lt ps k f).map (List.map (List.map φ))
  | 0, f => rfl
  | k + 1, f => by
    unfold chRun
    simp only [List.length_map, List.all_map, Function.comp_def, chosen1_map h]
    split
    · exact chRun_map ps k _
    · rfl
omit h [DecidableEq α] [DecidableEq β] in
theorem subsT_map (ts : List α) : subsT (ts.map φ) = (subsT ts).map (List.map φ) := by
  have key : ∀ (ts : List α) (f : List (List α)), (ts.map φ).foldl (fun f t => f ++ f.map fun row => row ++ [t]) (f.map (List.map φ)) = (ts.foldl (fun f t => f ++ f.map fun row => row ++ [t]) f).map (List.map φ) := by
    intro ts
    induction ts with
    | nil => intro f; rfl
    | cons t ts ih =>
      intro f
      simp only [List.map_cons, List.foldl_cons]
      rw [← ih]
      congr 1
      simp only [List.map_append, List.map_map, Function.comp_def, List.map_cons, List.map_nil]
  exact key ts [[]]
theorem setsT_map (ps : List α) (k : Nat) : setsT lt' (ps.map φ) k = (setsT lt ps k).map (List.map φ) := by
  unfold setsT
  rw [subsT_map, List.filter_map, ← isort_map h.map.lt]
  simp only [Function.comp_def, List.length_map]
omit h [DecidableEq α] [DecidableEq β] in
theorem ascT_map {γ δ : Type} {l : γ → γ → Bool} {l' : δ → δ → Bool} {ψ : γ → δ} (h : ∀ a b, l' (ψ a) (ψ b) = l a b) : ∀ xs : List γ, ascT l' (xs.map ψ) = ascT l xs
  | [] => rfl
  | [_] => rfl
  | a :: b :: r => by
    show (l' (ψ a) (ψ b) && ascT l' ((b :: r).map ψ)) = _
    rw [h, ascT_map h (b :: r)]
    rfl
theorem ruleT_map (r : List (List α)) : ruleT lt' (r.map (List.map φ)) = ruleT lt r := by
  unfold ruleT
  simp only [List.length_map, List.all_map, Function.comp_def, ascT_map h.lt, ascT_map h.map.lt, hasAll_map h]
  have e : ∀ m n : List α, (m.map φ = n.map φ) = (m = n) := fun m n => propext ⟨h.map.inj _ _, fun z => by rw [z]⟩
  simp only [e]
theorem lesserT_map (a b : List (List α)) : lesserT (a.map (List.map φ)) (b.map (List.map φ)) = lesserT a b := by
  simp only [lesserT, List.all_map, Function.comp_def, holdsOne_map h]
theorem grownT_map (s : List α) : grownT lt' (s.map φ) = (grownT lt s).map (List.map (List.map φ)) := by
  cases s with
  | nil => rfl
  | cons q r => exact foldO_map (g := List.map (List.map φ)) (k := φ) (fun b c => eitherT_map h b [[c]]) r [[q]]
theorem eatenT_map (s : List α) : eatenT lt' (s.map φ) = (eatenT lt s).map (List.map (List.map φ)) := by
  cases s with
  | nil => rfl
  | cons q r => exact foldO_map (g := List.map (List.map φ)) (k := φ) (fun b c => bothT_map h b [[c]]) r [[q]]
theorem allT_map (s : List (List α)) : allT lt' (s.map (List.map φ)) = (allT lt s).map (List.map (List.map φ)) := by
  cases s with
  | nil => rfl
  | cons q r =>
    show (eatenT lt' (q.map φ)).bind (fun b => foldO (fun found row => (eatenT lt' row).bind fun c => eitherT lt' found c) b (r.map (List.map φ))) = ((eatenT lt q).bind fun b => foldO (fun found row => (eatenT lt row).bind fun c => eitherT lt found c) b r).map _
    rw [eatenT_map h]
    cases eatenT lt q with
    | none => rfl
    | some b =>
      refine foldO_map (g := List.map (List.map φ)) (k := List.map φ) (fun b c => ?_) r b
      rw [eatenT_map h]
      cases eatenT lt c with
      | none => rfl
      | some c => exact eitherT_map h b c
theorem optEq_map (a b : Option (List (List α))) : (a.map (List.map (List.map φ)) = b.map (List.map (List.map φ))) = (a = b) := propext ⟨fun e => by
  cases a <;> cases b <;> simp at e ⊢
  exact h.map.map.inj _ _ e, fun e => by rw [e]⟩
theorem rankOk_map (s : List α) (k : Nat) : rankOk lt' (s.map φ) k = rankOk lt s k := by
  have e1 : ∀ m n : List (List α), (m.map (List.map φ) = n.map (List.map φ)) = (m = n) := fun m n => propext ⟨h.map.map.inj _ _, fun z => by rw [z]⟩
  have e2 := optEq_map h
  have e3 : ∀ n : List (List α), some (n.map (List.map φ)) = (some n).map (List.map (List.map φ)) := fun _ => rfl
  have e4 : chRun lt' (s.map φ) k [[]] = (chRun lt s k [[]]).map (List.map (List.map φ)) := chRun_map h s k [[]]
  unfold rankOk
  simp only [e4, setsT_map h, chosenT_map h, e1, okNs_map, List.length_map, List.all_map, Function.comp_def, barsT_map h, e3, e2, ruleT_map h, lesserT_map h, allT_map h]
theorem spotsOk_map (s : List α) : spotsOk lt' (s.map φ) = spotsOk lt s := by
  have e2 := optEq_map h
  have e3 : ∀ n : List (List α), some (n.map (List.map φ)) = (some n).map (List.map (List.map φ)) := fun _ => rfl
  unfold spotsOk
  simp only [List.length_map, rankOk_map h, grownT_map h, eatenT_map h, chosenT_map h, e3, e2]
end
end Al
/-! every ascending row of one to six things keeps all of it -/
namespace Al
open Ai
def ltF {n : Nat} (a b : Fin n) : Bool := decide (a.val < b.val)
def fins (n : Nat) : List (Fin n) := List.ofFn fun i => i
set_option maxRecDepth 100000 in
theorem fins_ok : ∀ n : Nat, 1 ≤ n → n ≤ 6 → spotsOk (ltF (n := n)) (fins n) = true := by
  intro n h1 h2
  rcases (by omega : n = 1 ∨ n = 2 ∨ n = 3 ∨ n = 4 ∨ n = 5 ∨ n = 6) with h | h | h | h | h | h <;> subst h <;> decide +kernel
/-- each before all behind it -/
theorem spots_ok {α : Type} [DecidableEq α] {lt : α → α → Bool} (irr : ∀ a, lt a a = false) (tot : ∀ a b, lt a b = true → lt b a = false) (s : List α) (hs : s.Pairwise fun a b => lt a b = true) (h1 : 1 ≤ s.length) (h2 : s.length ≤ 6) : spotsOk lt s = true := by
  have E : Emb (ltF (n := s.length)) lt s.get := ⟨fun a b => by
    unfold ltF
    rcases Nat.lt_trichotomy a.val b.val with h | h | h
    · rw [decide_eq_true h]
      exact List.pairwise_iff_getElem.mp hs _ _ a.2 b.2 h
    · have e : a = b := Fin.ext h
      subst e
      rw [irr]
      simp
    · rw [decide_eq_false (by omega)]
      exact tot _ _ (List.pairwise_iff_getElem.mp hs _ _ b.2 a.2 h), fun a b e => by
    rcases Nat.lt_trichotomy a.val b.val with h | h | h
    · have := List.pairwise_iff_getElem.mp hs _ _ a.2 b.2 h
      rw [show s[a.val] = s.get a from rfl, show s[b.val] = s.get b from rfl, e, irr] at this
      cases this
    · exact Fin.ext h
    · have := List.pairwise_iff_getElem.mp hs _ _ b.2 a.2 h
      rw [show s[a.val] = s.get a from rfl, show s[b.val] = s.get b from rfl, e, irr] at this
      cases this⟩
  have e : s = (fins s.length).map s.get := by
    unfold fins
    rw [List.map_ofFn]
    exact (List.ext_getElem (by simp) fun i h1 h2 => by simp)
  have k := spotsOk_map E (fins s.length)
  rw [← e] at k
  rw [k]
  exact fins_ok _ h1 h2
end Al
set_option Elab.async false
set_option linter.all false
set_option maxRecDepth 100000
set_option maxHeartbeats 4000000
/-! Ai, part O: an own exception class over a class over ValueError: its __init__ says super().__init__(text, it), self.f = it. -/
namespace Ai
open PySem PySem.Spec PyProof.Rows L2
/-- x.__init__(self, it) -/
def spIn (C : Addr) (f : Str) : Sp := fun vs H Q _ => ∃ a v, vs = [.ref a, v] ∧ H a = some (exo a C none) ∧ ∀ dx, H dx = none → dx ≠ a → Q .non (upd (upd H dx (exd dx [(f, v)])) a (exo a C (some dx)))
abbrev tgScope : Scope := { kind := .function, names := [("self", .local), ("most", .local), ("__class__", .free), ("super", .globalImplicit)], isGenerator := false, isCoroutine := false, more := [] }
/-- what the written part says of such a class (the one thing is called most) -/
structure XcI (P : Program) (K : PySem.W.Frag) (mg : Str → Option Value) (C fI : Addr) (fd : FuncData) : Prop where
  T : OexC K C
  sup : mg "super" = none
  nof : PySem.W.findIn K (.ref C) "most" = some none
  opq : PySem.W.nsIn K cStatics "thirdparty.any" = some none
  top : (P.main.scope.names.lookup ("super" : Str)).isSome = false
  sub : PySem.W.mroIn K C (.ref C) = some true
  subV : PySem.W.subIn K (.ref C) (.type "ValueError") = some true
  iC : PySem.W.findIn K (.ref C) "__init__" = some (some (.ref fI))
  tI : PySem.W.typeIn K (.ref fI) = some (.type "function")
  bi : Binds K fd ["self", "most"] []
  ini : PySem.W.ks_superIn K C C "__init__" = some (some (.builtin "ValueError.__init__"))
  ex : ∃ (qual : Str) (params : Arguments) (dV kV doc pm ct oc ccl cl : Value) (an od cdd cld : Option Addr) (osl ccs csl : Array (Option Value)) (cc cda : Addr) (vs : Array Value) (file : Str) (tf : Tok) (ar : Arg) (p0 p1 p3 p4 p6 q1 q2 q3 q4 : Pos) (j : Nat),
    fd = PySem.W.ksFn "__init__" qual params [.Expr (.Call (.Attribute (.Call (.Name "super" p0) [] [] p1) "__init__" ⟨26, 8, 26, 24⟩) [.Constant (.str "too great") j p3, .Name "most" p4] [] ⟨26, 8, 26, 43⟩) p6, .Assign [.Attribute (.Name "self" q1) "most" q2] (.Name "most" q3) q4] tgScope dV kV doc pm an (.ref cda) ct cc ∧
    K.lookup fI = some ⟨oc, od, .func fd, osl⟩ ∧ PySem.W.codeIn K (.ref cda) qual = true ∧ K.lookup cda = some ⟨ccl, cdd, .fields vs, ccs⟩ ∧ vs[2]? = some (.str file tf) ∧ ((P.main.file : Str) == file) = true ∧ K.lookup cc = some ⟨cl, cld, .cell (some (.ref C)), csl⟩ ∧
    (params.posonlyargs ++ params.args).head? = some ar ∧ ar.arg = "self"
/-- the built-in __init__, bound to the exception at e, called -/
theorem call_wrap {prog : Program} {w : World} {A : Around} {E : Value → Shared → Prop} {h : Heap} {g : Array GenState} {d : Drawn} {t : Nat} {os : OsState} {nm q : Str} {C N u e t0 : Addr} {bs bm : List Value} {hdct ab : Bool} {sn : List Str} {sub : List Value} {col : Option Bool} {dd : Option Addr} {k0 k1 k2 k3 k5 : Option Value}
    {rest : List Value} {Q : Value → Shared → Prop} (hC : h.get? C = some (excClassObj nm q C N bs bm hdct sn sub ab col dd k0 k1 k2 k3 k5 "ValueError.__new__")) (he : h.get? e = some (PySem.HandSPX.excO C t0)) (hu : h.get? u = some (PySem.W.kxs_mw "ValueError.__init__" e)) (hz : rest.length ≤ sizeLine)
    (hq : ∀ h' t1, (∀ b o, b ≠ e → h.get? b = some o → h'.get? b = some o) → h'.get? e = some (PySem.HandSPX.excO C t1) → Q .none ⟨h', g, d, t, os⟩) : wpAny (model prog w) A (call (.ref u) rest) Q E ⟨h, g, d, t, os⟩ := by
  have mw : (Value.type "method-wrapper" == Value.type "method" || Value.type "method-wrapper" == Value.type "builtin_function_or_method" || Value.type "method-wrapper" == Value.type "method-wrapper") = true := by decide
  refine wpAny_call (codeAny_of_tree (show wpAny _ A.in1 (callAny (.ref u) ⟨rest, []⟩) _ _ _ from ?_))
  unfold callAny
  refine wpAny_bind (wpAny_load hu ?_)
  simp only [PySem.W.kxs_mw, mw, if_true]
  refine PySem.W.KFB.if_so (by decide) (wpAny_bind (PySem.W.check_bound_init F.excBase_ValueError.toExcCallFacts hC he rfl (wpAny_bind (wpAny_pure (wpAny_pure ⟨PySem.plainId_quiet F.excBase_ValueError.init.plain _, ?_⟩)))))
  exact codeAny_builtin F.excBase_ValueError.initEntry (PySem.W.exc_init_tree he hz fun h' k e1 _ => hq h' _ k e1)
section
variable {P : Program} {w : World} {K : PySem.W.Frag} {mg : Str → Option Value} {base : Heap} {C fI : Addr} {fd : FuncData}
theorem init_ok (Z : XcI P K mg C fI fd) : FnOk P w K mg base CX0 1 fI fd ["self", "most"] (spIn C "most") := by
  obtain ⟨T, hsup, hnof, hopq, htop, hsub, hsubV, hiC, htI, hbi, hini, qual, params, dV, kV, doc, pm, ct, oc, ccl, cl, an, od, cdd, cld, osl, ccs, csl, cc, cda, vs, file, tf, ar, p0, p1, p3, p4, p6, q1, q2, q3, q4, j, efd, hf, hcd, hcode, hvs, hfile, hcell, hhead, har⟩ := Z
  subst efd
  refine ⟨fun vs H Q E h => ?_, fun A outer s H args us vs' Q E hr e0 hb r h => ?_⟩
  · obtain ⟨a, v, e, _⟩ := h
    rw [e]
    rfl
  obtain ⟨a, v, ev, ha, hq⟩ := h
  subst ev
  obtain ⟨ua, u, eu, ra, rv⟩ : ∃ ua u, us = [ua, u] ∧ RelV (.ref a) ua ∧ RelV v u := by
    cases r with
    | cons a1 t =>
      cases t with
      | cons a2 t => cases t; exact ⟨_, _, rfl, a1, a2⟩
  obtain rfl : ua = Value.ref a := ra
  subst eu
  have kp : ∀ b o, base.get? b = some o → s.heap.get? b = some o := fun b o e => (e0.bs b o e).1
  have KX : K.In s.heap := e0.mod.kin.keeps kp
  have lim : s.heap.NoLimit := e0.mod.nolimit.keeps kp
  obtain ⟨t1, hx⟩ := exo_at e0.hok ha
  obtain ⟨nm, q, N, bs, bm, sn, sub, ab, col, dd, k0, k1, k2, k3, k5, hC, hbm⟩ := T.cls
  have hcl : PySem.W.clsIn K C = some { name := nm, bases := bs, mro := .ref C :: bm, ns := N, qualname := q, hasDict := true, slotNames := sn, subclasses := sub, abstract := ab, collection := col, hasDel := false } := by unfold PySem.W.clsIn; rw [hC] <;> rfl
  refine ks_codeAny_call_defAt (binds := [("self", .ref a), ("most", u)]) hr.depth (KX _ _ hf) rfl lim (PySem.W.codeRec_of KX hcd) rfl hb (show ∀ x ∈ tgScope.names, x.2 ≠ .cell by decide) (fun y hy => ?_) (fun h1 hns kk => ?_)
  · rcases List.mem_cons.mp hy with e | hy
    · subst e; rfl
    · rcases List.mem_cons.mp hy with e | hy
      · subst e; rfl
      · cases hy
  have X1 : K.In h1 := KX.keeps kk
  have hx1 := kk _ _ hx
  have Iat : PySem.W.InstAt h1 a _ C none := ⟨hx1, rfl, rfl, trivial⟩
  obtain ⟨cdD, hcD⟩ : ∃ cdD, PySem.W.clsIn K C = some cdD := ⟨_, hcl⟩
  refine ks_wpAt_execs_cons ?_
  refine ks_wpAt_Expr_any ?_ 
  refine ks_wpAt_MethodCall ?_
  refine ks_wpAt_super_base rfl rfl (by decide) rfl (X1 _ _ hf) rfl hhead rfl (X1 _ _ hcode) rfl hvs hfile htop ?_
  obtain ⟨mb, hmb, hmb2⟩ := e0.mod.blt
  have ksk : ∀ b o, base.get? b = some o → h1.get? b = some o := fun b o e => kk _ _ (kp _ _ e)
  refine PySem.W.ks_loadName_global rfl rfl (PySem.Calls.loadGlobal_builtin (e0.mod.glob.keeps ksk) hsup (hmb.keeps ksk) ((hmb2 _ (by decide +kernel)).trans (show bootBuiltins "super" = some (.type "super") by decide +kernel)) ⟨rfl, ?_⟩)
  refine wpAny_loadName_free rfl rfl rfl ⟨_, X1 _ _ hcell, rfl⟩ ?_
  rw [har]
  refine wpAny_loadName_local rfl rfl hns rfl ?_
  refine ks_wpAny_isType_cls (X1 _ _ hC) rfl ⟨rfl, ?_⟩
  refine ks_wpAny_call_super (X1 _ _ hC) rfl hx1 rfl (fun c e => by cases e) (PySem.W.looks_mroIn X1 hsub) (fun h2 hso k2 => ?_)
  have X2 : K.In h2 := X1.keeps k2
  obtain ⟨hh, g, d, t, os⟩ := s
  have I2 : PySem.W.InstAt h2 a _ C none := ⟨k2 _ _ hx1, rfl, rfl, trivial⟩
  refine PySem.W.kxs_getMethod PySem.W.kxs_ValueError (x := a) (C := C) hso (PySem.W.looks_opaque X2 hopq) (l₀ := .ref C :: bm) (fun A Q E s k q => wpAny_bind ((PySem.W.looks_clsIn X2 hcl) A _ E s k (wpAny_pure q))) rfl X2
    (by unfold PySem.W.ks_superIn at hini; rw [hcl] at hini; exact hini) (I2.type.andThen (PySem.W.looks_subIn X2 hsubV)) (PySem.W.ks_ne X1 Iat hcl) (by decide) ?_
  have k3 : ∀ b o, h2.get? b = some o → (h2.push (PySem.W.kxs_mw "ValueError.__init__" a)).get? b = some o := fun b o e => Heap.get?_push_of_some _ e
  have hns3 : (h2.push (PySem.W.kxs_mw "ValueError.__init__" a)).Ns hh.objs.size fun x => ([("self", Value.ref a), ("most", u)] : List (Str × Value)).reverse.lookup x := hns.keeps fun b o e => k3 _ _ (k2 _ _ e)
  refine PySem.W.kxs_callWith (i := "ValueError.__init__") (x := a) rfl (PySem.Calls.evalArgs_plain ?_)
  show wpAny _ _ (spliced ((false, eval (.Constant (.str "too great") j p3) _) :: backTo _ (starEach [.Name "most" p4] _))) _ _ _
  refine PySem.Calls.spliced_cons (PySem.Calls.Constant_str ?_)
  show wpAny _ _ (spliced ((false, _) :: [])) _ _ _
  refine PySem.Calls.spliced_cons (wpAny_Name (wpAny_loadName_local rfl rfl hns3 rfl ?_))
  refine PySem.Calls.spliced_nil ⟨Heap.get?_push_at rfl rfl, ?_⟩
  refine call_wrap (k3 _ _ (k2 _ _ (kk _ _ (KX _ _ hC)))) (t0 := t1) (k3 _ _ (k2 _ _ hx1)) (Heap.get?_push_at rfl rfl) (by show 2 ≤ sizeLine; rw [sizeLine_eq]; omega) fun h4 t4 k4 hx4 => ?_
  have up4 : ∀ b o, b ≠ a → hh.get? b = some o → h4.get? b = some o := fun b o n e => k4 b o n (k3 _ _ (k2 _ _ (kk _ _ e)))
  have in4 : ∀ b o, hh.get? b = some o → b < h4.objs.size := fun b o e => by
    by_cases hb : b = a
    · rw [hb]; exact Heap.lt_size hx4
    · exact Heap.lt_size (up4 b o hb e)
  have aK : ∀ o, K.lookup a ≠ some o := fun o z => by
    have := (e0.bs a o (e0.mod.kin a o z)).2
    rw [ha] at this
    cases this
  have X4 : K.In h4 := fun b o e => k4 b o (fun z => aK o (by rw [← z]; exact e)) (k3 _ _ (X2 b o e))
  have aL : hh.objs.size ≠ a := fun z => by
    have := Heap.lt_size hx
    rw [← z] at this
    exact Nat.lt_irrefl _ this
  have hns4 : h4.Ns hh.objs.size fun x => ([("self", Value.ref a), ("most", u)] : List (Str × Value)).reverse.lookup x := hns3.at fun o e => k4 _ _ aL e
  refine wpAt_of_wpAny (wpAny_execs_cons (plainObj_wpAny_Assign_Attribute (wpAny_Name (wpAny_loadName_local rfl rfl hns4 rfl (wpAny_Name (wpAny_loadName_local rfl rfl hns4 rfl ?_))))))
  refine PySem.W.set_plain X4 (ox := { cls := .ref C, dict := none, data := .fields #[.ref t4, .none, .none, .none, .bool false, .none] }) (od := none) ⟨hx4, rfl, rfl, trivial⟩ T.sa ?_
  refine PySem.HandSPX.exc_osa X4 hx4 hcl (show PySem.HandSPX.refsVE (.ref C :: bm) = true from hbm) rfl hnof (fun h' tk' dx k5 dn dne hxd hnd => ?_)
  refine wpAny_execs_nil ?_
  have nd : ∀ {b : Addr} {o : Obj}, hh.get? b = some o → b ≠ dx := fun {b o} e => Nat.ne_of_lt (Nat.lt_of_lt_of_le (in4 b o e) dn)
  have hdx : H dx = none := HOk.gone (P := P) (w := w) (H := H) (h := hh) e0.hok (by
    cases z : hh.get? dx with
    | none => rfl
    | some o => exact absurd rfl (nd z))
  have na : ∀ {b : Addr}, H b = none → b ≠ a := fun {b} n z => by
    rw [z, ha] at n
    cases n
  have up5 : ∀ b o, b ≠ a → hh.get? b = some o → h'.get? b = some o := fun b o n e => k5 b o n (up4 b o n e)
  refine ⟨.non, upd (upd H dx (exd dx [("most", v)])) a (exo a C (some dx)), rfl, e0.bare, ?_, fun b o q => ?_, rfl, hq dx hdx dne⟩
  · exact {
      keep := fun b o e n _ _ => up5 b o (na n) e
      slot := fun b o e n _ _ => ⟨o.slots, up5 b o (na n) e⟩
      free := fun b o e n _ => by rw [upd_ne (na n), upd_ne (nd e)]; exact n
      there := fun b o e _ => by
        by_cases hb : b = a
        · exact ⟨_, by rw [hb]; exact hxd⟩
        · exact ⟨o, up5 b o hb e⟩
      tups := fun b xs e => by rw [upd_ne (at_ne ha e exo_tup), upd_ne (ne_of_none e hdx)]; exact e
      frzs := fun b o v e => by rw [upd_ne (at_ne ha e exo_frz), upd_ne (ne_of_none e hdx)]; exact e
      tbls := fun b ps e => ⟨#[], by rw [upd_ne (at_ne ha e exo_tbl), upd_ne (ne_of_none e hdx), e]; simp⟩ }
  · by_cases hb : b = a
    · subst hb
      rw [upd_same] at q
      cases q
      exact exo_ok hxd
    · rw [upd_ne hb] at q
      by_cases hd : b = dx
      · subst hd
        rw [upd_same] at q
        cases q
        exact exd_ok hnd (relO_put (fs := []) rv fun g => True.intro)
      · rw [upd_ne hd] at q
        refine (e0.hok b o q).stay (fun c w' hc z => up5 c w' ?_ z) (fun c hc => ?_) fun c xs hc => ?_
        · rcases hc with hc | hc
          · rw [hc]; exact hb
          · exact at_ne ha hc exo_own
        · rw [upd_ne (at_ne ha hc exo_own), upd_ne (ne_of_none hc hdx)]; exact hc
        · rw [upd_ne (at_ne ha hc exo_tup), upd_ne (ne_of_none hc hdx)]; exact hc
end
end Ai
set_option Elab.async false
set_option linter.all false
set_option maxRecDepth 100000
set_option maxHeartbeats 4000000
/-! Ai, part P: several except clauses, the exception's class known: those ahead are passed, one named clause takes it. -/
namespace Ai
open PySem PySem.Spec PyProof.Rows L2
inductive HdX (X : Cx) (cls : Value) (n : Str) : List ExceptHandler → (Addr → Option Addr → TS) → Prop
  | skip {x : Str} {c : Value} {nm : Option Str} {b₀ : Stmt} {suite : List Stmt} {np pos : Pos} {hds : List ExceptHandler} {ts : Addr → Option Addr → TS} (hc : Names X x c) (hno : PySem.W.exmOne X.K cls c = some false) (r : HdX X cls n hds ts) : HdX X cls n (.ExceptHandler (some (.Name x np)) nm (b₀ :: suite) pos :: hds) ts
  | hit {x : Str} {c : Value} {b₀ : Stmt} {suite : List Stmt} {np pos : Pos} {hds : List ExceptHandler} {ts : Addr → Option Addr → TS} (hc : Names X x c) (hyes : PySem.W.exmOne X.K cls c = some true)
      (hsu : ∀ (a : Addr) (oe : Obj) (d : Option Addr) (pn : List (Addr × Obj)), Zc cls d oe → (∃ vs, oe.data = .fields vs) → PSs (X.suite a ((a, oe) :: pn)) (b₀ :: suite) (ts a d)) : HdX X cls n (.ExceptHandler (some (.Name x np)) (some n) (b₀ :: suite) pos :: hds) ts
/-- the ends of a suite behind which slot i is forgotten -/
def endsBut (i : Nat) (D : Ends) : Ends := { nx := fun σ H => D.nx (σ.set i none) H, rt := D.rt, bk := fun σ H => D.bk (σ.set i none) H, ct := fun σ H => D.ct (σ.set i none) H }
def wHit (cls : Value) (i : Nat) (ts : Addr → Option Addr → TS) (D : Ends) : WX := fun c d σ H => c = cls ∧ ∀ a, H a = none → ts a d (endsBut i D) (σ.set i (some (.ref a))) H
/-- the clause's class is looked up -/
theorem names_ev {X : Cx} {x : Str} {c : Value} {np : Pos} {pins : List (Addr × Obj)} {σ : L2.St} {H : Hp} {s : Shared} {a : Addr} {pn : List (Addr × Obj)} (S : Inv (X.suite a pn) pins σ H s) (hc : Names X x c) {Q : Value → Shared → Prop} {E : Value → Shared → Prop} (q : Q c s) :
    wpAny (model X.prog X.w) (X.A.mark (some (.ref a))) (eval (.Name x np) X.env) Q E s := by
  rcases hc with ⟨g, dbg, m | ⟨m, v, nn⟩⟩
  · exact ld_glob (X := X.suite a pn) S g m q dbg
  · exact ld_blt (X := X.suite a pn) S g m v q nn dbg
section
variable {X : Cx} {n : Str} {i : Nat} {body : List Stmt} {h₀ : ExceptHandler} {hds : List ExceptHandler} {cls : Value} {ts : Addr → Option Addr → TS} {tb : WX → TS} {pos : Pos}
/-- where the exception stands noted in the frame, the clauses are tried in order -/
theorem clauses_run {pins : List (Addr × Obj)} {B : Heap} {sI s' : Shared} {σ : L2.St} {H : Hp} {d : Option Addr} {a : Addr} {D : Ends} (ok : X.Ok) (hfr : X.A.frames = some (X.env :: X.outer)) (hf : X.env.frame = some X.env.locals) (hN : X.N.Nodup) (hi : X.N[i]? = some n) (hln : X.env.kindOf n = some .local)
    (J : Inv X pins σ H sI) (nb : ∀ b o, sI.heap.get? b = some o → b ∉ frs X.stack → B.get? b = some o) (up : sI.heap.UpToSlots s'.heap) (fl : HandSPX.FlyingZ B (X.env :: X.outer) a (Zc cls d) s'.heap) (na : H a = none) (os : s'.os = sI.os) (ag : AllBare s'.gens)
    (want : ts a d (endsBut i D) (σ.set i (some (.ref a))) H) : ∀ {hs : List ExceptHandler}, HdX X cls n hs ts → wpAny (model X.prog X.w) X.A (handleBy (.ref a) X.env hs) (SP X pins D) X.xe s' := by
  have apart : ∀ {h : Heap} {o : Obj} {vs : Array Value}, h.FunFrames B (X.env :: X.outer) → h.get? a = some o → o.data = .fields vs → a ≠ X.env.locals ∧ a ∉ X.fs := fun {h o vs} ff e dd => by
    have key : a ∉ frs (X.env :: X.outer) := fun hm => by
      obtain ⟨_, _, there, none_⟩ := ff.mem hm
      cases e.symm.trans there
      exact none_ _ dd
    exact ⟨fun z => key (List.mem_filterMap.mpr ⟨X.env, List.mem_cons_self, by rw [hf, z]⟩), fun hm => by
      obtain ⟨e', he, q⟩ := List.mem_filterMap.mp hm
      exact key (List.mem_filterMap.mpr ⟨e', List.mem_cons_of_mem _ he, q⟩)⟩
  have ⟨oe, vs, he, hz, hd⟩ := fl.there
  obtain ⟨nL, nF⟩ := apart fl.2.2.1 he hd
  have J0 : Inv X pins σ H s' := J.landed nb fl.1 up os ag
  have S0 := J0.suite he hd na nL nF
  have LT : PySem.W.Looks (model X.prog X.w) s'.heap (typeOf (.ref a)) cls := fun A Q E s k q => wpAny_typeOf_ref (k _ _ he) (by rw [hz.1]; exact q)
  intro hs hh
  induction hh with
  | skip hc hno r ih =>
    refine wpAny_handleBy_cons (codeAny_handlers_test (names_ev S0 hc ((PySem.W.exm_one (M := model X.prog X.w) J0.kIn LT hno).here ?_))) fun q => by cases q
    exact ih want
  | hit hc hyes hsu =>
    refine wpAny_handleBy_cons (codeAny_handlers_test (names_ev S0 hc ((PySem.W.exm_one (M := model X.prog X.w) J0.kIn LT hyes).here ?_))) fun q => by cases q
    refine codeAny_handlers_suite_as (HandSPX.lands_againZ fl fun h4 fl4 up4 => ?_)
    have J4 : Inv X pins σ H { s' with heap := h4 } := J.landed nb fl4.1 (up.trans up4) os ag
    have ⟨oe4, vs4, he4, hz4, hd4⟩ := fl4.there
    obtain ⟨nL4, nF4⟩ := apart fl4.2.2.1 he4 hd4
    have S4 := J4.suite he4 hd4 na nL4 nF4
    refine store_ok (X := X.suite a ((a, oe4) :: (X.pn ++ pins))) (v := .ref a) S4 hN hi (.inl hln) rfl (fun s5 S5 => ?_) (.inr hln)
    refine wpAny_mono ((hsu a oe4 d (X.pn ++ pins) hz4 ⟨_, hd4⟩).run [] s5 _ H (endsBut i D) S5 want) (fun f s6 hsp => ?_) fun _ _ z => False.elim z
    rcases f with _ | _ | _ | u
    iterate 3
      obtain ⟨_, _, S6, q6⟩ := hsp
      exact gone_ok (S6.unsuite ok) hN hi hln fun _ J7 => ⟨_, _, J7, q6⟩
    obtain ⟨_, _, _, S6, r6, q6⟩ := hsp
    exact gone_ok (S6.unsuite ok) hN hi hln fun _ J7 => ⟨_, _, _, J7, r6, q6⟩
theorem ps_tryX (hs : X.stack = X.env :: X.outer) (hf : X.env.frame = some X.env.locals) (hN : X.N.Nodup) (hi : X.N[i]? = some n) (hln : X.env.kindOf n = some .local)
    (hb : ∀ (W : WX) (pn : List (Addr × Obj)) (xe : Value → Shared → Prop), Takes (X.tr pn xe) W → PassesOwn (model X.prog X.w) X.A X.env xe → PSs (X.tr pn xe) body (tb W))
    (hh : HdX X cls n (h₀ :: hds) ts) : PS X (.Try body (h₀ :: hds) [] [] pos) (fun D σ H => tb (wHit cls i ts D) D σ H) := by
  refine ⟨fun pins s σ H D I h => ?_⟩
  have ok := I.ok
  have hfr : X.A.frames = some (X.env :: X.outer) := by rw [ok.frames, hs]
  refine wpAny_Try_except (wpAny_mono ((hb (wHit cls i ts D) (X.pn ++ pins) (fun e s₁ => wpAny (model X.prog X.w) X.A (noteFrame e X.env) (fun _ s₂ => wpAny (model X.prog X.w) X.A (setFlight e none) (fun _ s₃ =>
    wpAny (model X.prog X.w) X.A (handleBy e X.env (h₀ :: hds)) (SP X pins D) X.xe s₃) X.xe s₂) X.xe s₁) (fun u s' xx => ?_) PassesOwn.looking).run [] s σ H D (I.toTry _) h) (fun f s1 hsp => ?_) fun e s1 he => he)
  · obtain ⟨a, B, sI, pins', σ', H', c, d, rfl, J', nb, up, sky, na, os, ag, ec, want⟩ := xx
    subst ec
    rw [show (X.tr (X.pn ++ pins) _).stack = X.env :: X.outer from hs] at sky
    refine Sky.land Zc.steady hfr hf sky fun h3 fl3 up3 => ?_
    exact clauses_run (s' := { s' with heap := h3 }) ok hfr hf hN hi hln (J'.ofTry ok) nb (up.trans up3) fl3 na os ag (want a na) hh
  · rcases f with _ | _ | _ | u
    · obtain ⟨_, _, J', q⟩ := hsp
      exact wpAny_execs_nil ⟨_, _, J'.ofTry ok, q⟩
    iterate 2
      obtain ⟨_, _, J', q⟩ := hsp
      exact ⟨_, _, J'.ofTry ok, q⟩
    obtain ⟨_, _, _, J', r, q⟩ := hsp
    exact ⟨_, _, _, J'.ofTry ok, r, q⟩
end
end Ai
set_option Elab.async false
set_option linter.all false
set_option maxRecDepth 100000
set_option maxHeartbeats 4000000
/-! Al, part F: the defs that let TooGreat(60) out. -/
namespace Al
open PySem L2 Ai
/-- lets the class at C out, its most is 60 -/
def spX (C : Addr) (cond : List Val → Prop) : Sp := fun vs H _ E => ∃ xs, VsOk H vs xs ∧ cond xs ∧ ∀ d H', Same H H' → H d = none → H' d = some (.xd [("most", .int 60)]) → E (.ref C) (some d) H'
/-- .. one promise of two -/
theorem FnOk.orX {P : Program} {w : World} {K : PySem.W.Frag} {mg : Str → Option Value} {base : Heap} {k j n : Nat} {f : Addr} {fd : FuncData} {ps : List Str} {sp sp' : Sp} (F : FnOk P w K mg base CX0 k f fd ps sp) (G : FnOk P w K mg base (L2.CX P w) j f fd ps sp') (hk : k ≤ n) (hj : j ≤ n) :
    FnOk P w K mg base (L2.CX P w) n f fd ps (fun vs H Q E => sp vs H Q E ∨ sp' vs H Q E) :=
  ⟨fun vs H Q E h => h.elim (F.len vs H Q E) (G.len vs H Q E), fun A outer s H args us vs Q E hr e0 hb r h => by
    rcases h with h | h
    · refine codeAny_mono (F.run A outer s H args us vs Q E (hr.mono hk) e0 hb r h) fun r s' q => ?_
      cases r with
      | error e => exact False.elim q
      | ok fl => cases fl <;> exact q
    · exact G.run A outer s H args us vs Q E (hr.mono hj) e0 hb r h⟩
section
variable {P : Program} {w : World} {K : PySem.W.Frag} {mg : Str → Option Value} {base : Heap} {C fI : Addr} {fdI : FuncData}
/-- the exception made: what its maker's reading wants -/
theorem mk_want {H1 : Hp} {Q : XK} (h : ∀ d H', Same H1 H' → H1 d = none → H' d = some (.xd [("most", .int 60)]) → Q (.ref C) (some d) H') : ∀ a, H1 a = none → spIn C "most" (.ref a :: ([V.int 60] ++ [])) (upd H1 a (exo a C none))
    (fun v H2 => v = .non ∧ ∃ (d : Addr) (fs : List (Str × V)), H2 a = some (exo a C (some d)) ∧ H2 d = some (exd d fs) ∧ H1 d = none ∧ Q (.ref C) (some d) (upd (del H2 a) d (.xd fs))) (fun _ _ _ => False) := fun a ha => by
  refine ⟨a, .int 60, rfl, upd_same, fun dx hd dne => ⟨rfl, dx, [("most", .int 60)], upd_same, by rw [upd_ne dne, upd_same], ?_, ?_⟩⟩
  · rw [upd_ne dne] at hd
    exact hd
  · have hd' : H1 dx = none := by rw [upd_ne dne] at hd; exact hd
    refine h dx _ (fun b o e => ?_) hd' upd_same
    have n1 : b ≠ a := ne_of_none e ha
    have n2 : b ≠ dx := ne_of_none e hd'
    rw [upd_ne n2, del_ne n1, upd_ne n1, upd_ne n2, upd_ne n1]
    exact e
def tRank : Te := eB (eBin (gRel fGt) (eCall g_count_sets (aCons (eCall gLen (aCons (eBin gIx (eVar 0) (eC (.int 2))) aNil)) (aCons (eBin gIx (eVar 0) (eC (.int 1))) aNil))) (eC (.int 60)))
def cRank (xs : List Val) : Prop := xs.length = 1 ∧ tRank (xs.map (fun x => some x.ro) ++ List.replicate 0 none) = some true
theorem okX_rank_rule (B : Bi mg) (Gc0 : Gc mg) (D_count_sets : DG P w K mg base 2 "count_sets" g_count_sets) (Z : XcI P K mg C fI fdI) (hTG : mg "TooGreat" = some (.ref C)) {f : Addr} {fd : FuncData} (F : Fun K "rank_rule" "rank_rule" s_rank_rule f fd) :
    FnOk P w K mg base (L2.CX P w) 4 f fd ["term"] (spX C cRank) :=
  have S := sc_rank_rule
  F.okX S (fun vs H Q E ⟨xs, h, c, _⟩ => by rw [Paired.length h, c.1]; rfl) fun cdv A outer s H vs Q E hr ⟨xs, hv, c, k⟩ =>
    ⟨_, pss_cons (ps_if (t_gt (hu100 hr) (d_fn D_count_sets hr (by omega) rfl (a_cons (d_len rfl B.len (a_cons (d_ix (d_var 0 (pv 0)) d_int) a_nil)) (a_cons (d_ix (d_var 0 (pv 0)) d_int) a_nil))) (d_glob rfl Gc0.MOST_NEEDS_termwork))
        (pss_one (ps_raise rfl (takes_of rfl rfl rfl rfl) (pmk_oex Z.T Z.iC Z.tI (init_ok Z) (hr.mono (by omega)) Z.bi .nil (fun _ _ _ _ _ _ _ h => h.elim) rfl hTG (pa_cons (pe_glob (v := .int 60) rfl (Gc0.MOST_NEEDS_termwork).choose_spec ⟨_, rfl⟩) pa_nil)))) pss_nil) pss_never, by
      refine ⟨H, _, true, start_ok hv (by rw [c.1]; rfl), c.2, fun H2 s2 => iteT ?_⟩
      exact ⟨by decide, mk_want fun d H' s' hd e => k d H' (s2.trans s') (s2.free hd) e⟩⟩
/-- a def that may let TooGreat(60) out -/
structure DX (P : Program) (w : World) (K : PySem.W.Frag) (mg : Str → Option Value) (base : Heap) (C : Addr) (k : Nat) (x : Str) (sp : Sp) : Prop where
  ex : ∃ f fd ps, FnOk P w K mg base (L2.CX P w) k f fd ps sp ∧ mg x = some (.ref f) ∧ PySem.W.keepIn K (.ref f) = true ∧ Binds K fd ps []
/-- the environment of a call -/
def envOf (m : Nat) (xs : List Val) : En := xs.map (fun x => some x.ro) ++ List.replicate m none
def tAt : Te := eB (eBin gEq (eBin gIx (eVar 0) (eC (.int 0))) (eC (.str "at")))
def tRk : Te := eB (eBin gEq (eBin gIx (eVar 0) (eC (.int 0))) (eC (.str "rank")))
def cSo (xs : List Val) : Prop := xs.length = 1 ∧ tAt (envOf 1 xs) = some false ∧ tRk (envOf 1 xs) = some true ∧ ∃ ys, aCons (eVar 0) aNil (envOf 1 xs) = some ys ∧ cRank ys
theorem okX_rule_so (D_rank_rule : DX P w K mg base C 4 "rank_rule" (spX C cRank)) {f : Addr} {fd : FuncData} (F : Fun K "rule_so" "rule_so" s_rule_so0 f fd) : FnOk P w K mg base (L2.CX P w) 5 f fd ["term"] (spX C cSo) :=
  have S := sc_rule_so0
  F.okX S (fun vs H Q E ⟨xs, h, c, _⟩ => by rw [Paired.length h, c.1]; rfl) fun cdv A outer s H vs Q E hr ⟨xs, hv, c, k⟩ => by
    obtain ⟨g, gd, gp, G, hm, kp, b⟩ := D_rank_rule.ex
    obtain ⟨c1, c2, c3, ys, c4, c5⟩ := c
    refine ⟨_, pss_cons (ps_if (t_eq (hu100 hr) (d_ix (d_var 0 (pv 0)) d_int) d_str) pss_never pss_nil) (pss_cons (ps_if (t_eq (hu100 hr) (d_ix (d_var 0 (pv 0)) d_int) d_str)
      (pss_one (ps_ret (pe_call G (hr.mono (by omega)) rfl hm kp b .nil (passes_call (E := E) (takes_of rfl rfl rfl rfl) fun _ _ _ _ h => h) (a_cons (d_var 0 (pv 0)) a_nil)))) pss_nil) pss_never), ?_⟩
    have E0 := start_ok (N := ["term", "first"]) (m := 1) hv (by rw [c1]; rfl)
    refine ⟨H, _, false, E0, c2, fun H2 s2 => iteF ?_⟩
    refine ⟨H, _, true, E0.mono s2, c3, fun H3 s3 => iteT ?_⟩
    refine ⟨H, _, ys, E0.mono (s2.trans s3), c4, fun us H4 s4 v4 => ?_⟩
    exact ⟨ys, by rw [List.append_nil]; exact v4, c5, fun d H' s' hd e => k d H' (((s2.trans s3).trans s4).trans s') (((s2.trans s3).trans s4).free hd) e⟩
def aTr : Tas := aCons (eCall g_need_term (aCons (eVar 0) aNil)) aNil
def cTr (xs : List Val) : Prop := xs.length = 1 ∧ ∃ ys, aTr (envOf 0 xs) = some ys ∧ cSo ys
theorem okX_term_rule (D_need_term : DG P w K mg base 6 "need_term" g_need_term) (D_rule_so : DX P w K mg base C 5 "rule_so" (spX C cSo)) {f : Addr} {fd : FuncData} (F : Fun K "term_rule" "term_rule" s_term_rule f fd) : FnOk P w K mg base (L2.CX P w) 7 f fd ["term"] (spX C cTr) :=
  have S := sc_term_rule
  F.okX S (fun vs H Q E ⟨xs, h, c, _⟩ => by rw [Paired.length h, c.1]; rfl) fun cdv A outer s H vs Q E hr ⟨xs, hv, c, k⟩ => by
    obtain ⟨g, gd, gp, G, hm, kp, b⟩ := D_rule_so.ex
    obtain ⟨c1, ys, c4, c5⟩ := c
    refine ⟨_, pss_one (ps_ret (pe_call G (hr.mono (by omega)) rfl hm kp b .nil (passes_call (E := E) (takes_of rfl rfl rfl rfl) fun _ _ _ _ h => h) (a_cons (d_fn D_need_term hr (by omega) rfl (a_cons (d_var 0 (pv 0)) a_nil)) a_nil))), ?_⟩
    have E0 := start_ok (N := ["term"]) (m := 0) hv (by rw [c1]; rfl)
    refine ⟨H, _, ys, E0, c4, fun us H4 s4 v4 => ?_⟩
    exact ⟨ys, by rw [List.append_nil]; exact v4, c5, fun d H' s' hd e => k d H' (s4.trans s') (s4.free hd) e⟩
end
end Al
set_option Elab.async false
set_option linter.all false
set_option maxRecDepth 100000
set_option maxHeartbeats 4000000
/-! Al, part G: law_refusal. -/
namespace Al
open PySem L2 Ai
abbrev s_law_refusal : Stmt := top 80
abbrev N_ref : List Str := ["_law_tell", "_law_found", "_law_answer", "e"]
theorem sc_law_refusal : FnScope N_ref ["_law_tell"] (defScope s_law_refusal) := ⟨rfl, rfl, rfl, by decide +kernel, rfl, by decide +kernel, by decide +kernel⟩
theorem takes_len {X : Cx} {W : WX} (tk : Takes X W) : Takes X (fun c d σ H => σ.length = X.N.length → W c d σ H) := fun u s' ⟨a, B, sI, pins, σ, H, cls, d, e, I, nb, up, sky, na, os, ag, w⟩ =>
  tk u s' ⟨a, B, sI, pins, σ, H, cls, d, e, I, nb, up, sky, na, os, ag, w I.len⟩
/-- what law_refusal makes of what it is handed -/
def TRef (C : Addr) : (XK → Hp → VK → Prop) → Hp → VK → Prop := fun tl H Q => ∀ H1, Same H H1 → ∀ Qn : VK, (∀ v H', (∀ t, H' t = none → Q (.ref t) (upd H' t (.tup [.str "told", v]))) → Qn v H') →
  tl (fun cls d H' => cls = .ref C ∧ ∃ dd, d = some dd ∧ H' dd = some (.xd [("most", .int 60)]) ∧ ∀ t, H' t = none → Q (.ref t) (upd H' t (.tup [.str "too great", .int 60]))) H1 Qn
/-- the error classes ahead of TooGreat -/
structure Ers (K : PySem.W.Frag) (mg : Str → Option Value) (C : Addr) : Prop where
  bt : ∃ c, mg "BadTerm" = some (.ref c) ∧ PySem.W.exmOne K (.ref C) (.ref c) = some false
  br : ∃ c, mg "BadRule" = some (.ref c) ∧ PySem.W.exmOne K (.ref C) (.ref c) = some false
  bi : ∃ c, mg "BadIsland" = some (.ref c) ∧ PySem.W.exmOne K (.ref C) (.ref c) = some false
  tg : mg "TooGreat" = some (.ref C)
  me : PySem.W.exmOne K (.ref C) (.ref C) = some true
  xf : XfC K C
  nof : PySem.W.findIn K (.ref C) "most" = some none
theorem refusal_gives {X : Cx} {C g : Addr} {cdg : Value} {q : Str} (R : Ers X.K X.mg C) : LamX.GivesTo X N_ref "_law_refusal" (defScope s_law_refusal) g cdg (defBody s_law_refusal) "_law_tell" q (TRef C) := by
  intro f c' s H Q tl act hc h
  have S := sc_law_refusal
  obtain ⟨cT, bt1, bt2⟩ := R.bt
  obtain ⟨cR, br1, br2⟩ := R.br
  obtain ⟨cI, bi1, bi2⟩ := R.bi
  refine ⟨_, pss_cons (ps_asg (pe_tup (pa_cons pe_non (pa_cons pe_non pa_nil))) (pg_tup rfl (pgs_cons (pg_name (i := 1) S.nd rfl (Or.inl rfl)) (pgs_cons (pg_name (i := 2) S.nd rfl (Or.inl rfl)) pgs_nil))))
    (pss_cons (ps_tryX (i := 3) (cls := .ref C) (n := "e") rfl rfl S.nd rfl rfl
      (tb := fun W D σ H => ∃ Ech : XK, (∀ cls d σ' H', Ech cls d H' → σ'.length = 4 → W cls d σ' H') ∧ σ[0]? = some (some (.ref f)) ∧ H c' = some (LamX.CodeO c' q) ∧ tl Ech H (fun v H' => D.nx (σ.set 2 (some v)) H'))
      (fun W pn xe tk _ => ?_)
      (.skip ⟨rfl, by decide, .inl bt1⟩ bt2 (.skip ⟨rfl, by decide, .inl br1⟩ br2 (.skip ⟨rfl, by decide, .inl bi1⟩ bi2 (.hit ⟨rfl, by decide, .inl R.tg⟩ R.me
        (fun a oe d pn hz hf => pss_one (ps_set (i := 1) S.nd rfl (Or.inl rfl) (pe_tup (pa_cons pe_str (pa_cons (pe_xf (cls := .ref C) R.xf R.nof hz hf (pv 3)) pa_nil))))))))))
    (pss_one (ps_ret (pe_ifExp (pt_cmpR op_isN (pv 1) pe_non (nomark _)) (pe_tup (pa_cons pe_str (pa_cons (pv 2) pa_nil))) (pv 1))))), ?_⟩
  · refine ⟨fun pins s' σ H' D I h' => ?_⟩
    obtain ⟨Ech, hW, h1, h2, h3⟩ := h'
    have hp := act _ pn xe Ech ⟨343, 22, 343, 31⟩ ⟨343, 22, 343, 33⟩ (takes_len tk) hW
    have hq := pss_one (ps_set (i := 2) (pos' := ⟨343, 8, 343, 19⟩) (pos := ⟨343, 8, 343, 33⟩) S.nd rfl (Or.inl rfl) hp)
    exact hq.run pins s' σ H' D I ⟨h1, h2, h3⟩
  · refine ⟨by show 2 ≤ sizeLine; rw [sizeLine_eq]; omega, fun p hp => ?_⟩
    refine ⟨p, _, rfl, SqT.of upd_same, rfl, _, _, rfl, _, _, rfl, rfl, ?_⟩
    refine ⟨_, ?_, rfl, same_new hp _ _ hc, h _ (same_new hp) _ fun v H' k => ?_⟩
    · rintro c d σ' H' ⟨ec, dd, ed, hdd, k⟩ hl
      subst ec ed
      refine ⟨rfl, fun a ha => ?_⟩
      have g3 : (σ'.set 3 (some (V.ref a)))[3]? = some (some (.ref a)) := List.getElem?_set_self (by omega)
      refine ⟨.ref a, g3, rfl, rfl, dd, _, .int 60, rfl, hdd, rfl, by show 2 ≤ sizeLine; rw [sizeLine_eq]; omega, fun t ht => ?_⟩
      have g1 : (((σ'.set 3 (some (V.ref a))).set 1 (some (V.ref t))).set 3 none)[1]? = some (some (.ref t)) := by
        rw [List.getElem?_set_ne (by decide), List.getElem?_set_self (by rw [List.length_set]; omega)]
      exact ⟨.ref t, g1, rfl, _, rfl, iteF ⟨.ref t, g1, k t ht⟩⟩
    · exact ⟨.non, rfl, rfl, _, rfl, iteT ⟨v, rfl, by show 2 ≤ sizeLine; rw [sizeLine_eq]; omega, fun t ht => k t ht⟩⟩
end Al
set_option Elab.async false
set_option linter.all false
set_option maxRecDepth 100000
set_option maxHeartbeats 4000000
/-! Al, part H: law_twelve. -/
namespace Al
open PySem L2 Ai
abbrev s_law_twelve : Stmt := top 85
abbrev N_tw : List Str := ["_law_row", "_law_y", "_law_told", "_law_least_so"]
theorem sc_law_twelve : FnScope N_tw [] (defScope s_law_twelve) := ⟨rfl, rfl, rfl, by decide +kernel, rfl, by decide +kernel, by decide +kernel⟩
def row12 : PyData := .tuple ((List.range 12).map fun i => .tuple [.int 0, .int (i : Nat)])
def rk12 (k : Int) : PyData := .tuple [.str "rank", .int k, row12]
/-- the numbers asked, the answers -/
def ks12 : List Int := [1, 2, 11, 12, 10]
def tg60 : PyData := .tuple [.str "too great", .int 60]
def told (n : Int) : PyData := .tuple [.str "told", .int n]
def res12 : List PyData := [told 12, tg60, told 12, told 1, tg60]
/-- what term_rule is asked for -/
def Told (k n : Int) : Prop := ∃ ds, g_term_rule [.im (rk12 k)] = some (.im (.tuple ds)) ∧ ((ds.length : Nat) : Int) = n
structure Tw : Prop where
  t1 : Told 1 12
  t11 : Told 11 12
  t12 : Told 12 1
theorem c2 : cTr [.im (rk12 2)] := ⟨rfl, [.im (rk12 2)], by kernel_rfl, rfl, by kernel_rfl, by kernel_rfl, [.im (rk12 2)], by kernel_rfl, rfl, by kernel_rfl⟩
theorem c10 : cTr [.im (rk12 10)] := ⟨rfl, [.im (rk12 10)], by kernel_rfl, rfl, by kernel_rfl, by kernel_rfl, [.im (rk12 10)], by kernel_rfl, rfl, by kernel_rfl⟩
/-- the answer to the i-th question -/
theorem asked (T : Tw) {i : Nat} (hi : i < 5) : ∃ k r, ks12[i]? = some k ∧ res12[i]? = some r ∧ ((∃ n, r = told n ∧ Told k n) ∨ (r = tg60 ∧ cTr [.im (rk12 k)])) := by
  rcases (by omega : i = 0 ∨ i = 1 ∨ i = 2 ∨ i = 3 ∨ i = 4) with h | h | h | h | h <;> subst h
  · exact ⟨1, told 12, rfl, rfl, .inl ⟨_, rfl, T.t1⟩⟩
  · exact ⟨2, tg60, rfl, rfl, .inr ⟨rfl, c2⟩⟩
  · exact ⟨11, told 12, rfl, rfl, .inl ⟨_, rfl, T.t11⟩⟩
  · exact ⟨12, told 1, rfl, rfl, .inl ⟨_, rfl, T.t12⟩⟩
  · exact ⟨10, tg60, rfl, rfl, .inr ⟨rfl, c10⟩⟩
/-- the def's answer, whatever came of the tables -/
def spTw (T : List (Addr × Str)) : Sp := fun vs H Q _ => vs = [] ∧ LamX.Tabs T H ∧ ∀ H', Q (.bl true) H'
theorem extN_tp {H H' : Hp} (e : LamX.ExtN H H') : Tp H H' := fun a xs h => e a _ h fun ps z => by cases z
/-- the lambda's environment -/
theorem lam_env {H : Hp} {σ : L2.St} {ur : V} {k : Int} (hl : σ.length = 4) (h0 : σ[0]? = some (some ur)) (hr : Im H ur row12) (h3 : σ[3]? = some (some (.int k))) : EnOk H H σ [some (.im row12), none, none, some (.im (.int k))] := by
  have no : ∀ (j : Nat) (es : List PyData), ([some (.im row12), none, none, some (.im (.int k))] : En)[j]? ≠ some (some (.ls true es)) := fun j es e => by
    match j, e with
    | 0, e => cases e
    | 1, e => cases e
    | 2, e => cases e
    | 3, e => cases e
    | n + 4, e => simp at e
  refine ⟨hl, fun j x e => ?_, fun j ds l e _ => absurd e (no j ds), fun j m ds b es l e _ _ _ => absurd e (no j ds)⟩
  match j, e with
  | 0, e => cases e; exact ⟨ur, h0, hr⟩
  | 1, e => cases e
  | 2, e => cases e
  | 3, e => cases e; exact ⟨_, h3, .int k⟩
  | n + 4, e => simp at e
theorem tabs_upd {T : List (Addr × Str)} {H : Hp} {l : Addr} {vs : List V} {o : HO} (t : LamX.Tabs T H) (h : H l = some (.lst vs)) : LamX.Tabs T (upd H l o) := fun p hp => by
  obtain ⟨ps, h1, h2, h3⟩ := t p hp
  refine ⟨ps, by rw [upd_ne (fun z => by rw [z, h] at h1; cases h1)]; exact h1, h2, fun pos cv hc => ?_⟩
  obtain ⟨c0, e1, e2⟩ := h3 pos cv hc
  refine ⟨c0, e1, ?_⟩
  rw [upd_ne (fun z => by
    rw [z, h] at e2
    have e2 : some (HO.lst vs) = some (HO.ext _) := e2
    cases e2)]
  exact e2
/-- behind the loop -/
theorem end_env {H : Hp} {σ : L2.St} {l : Addr} {vs : List V} (hl : σ.length = 4) (h2 : σ[2]? = some (some (.ref l))) (h : H l = some (.lst vs)) (im : ImAll H vs res12) : EnOk H H σ [none, none, some (.ls false res12), none] := by
  have no : ∀ (j : Nat) (es : List PyData), ([none, none, some (.ls false res12), none] : En)[j]? ≠ some (some (.ls true es)) := fun j es e => by
    match j, e with
    | 0, e => cases e
    | 1, e => cases e
    | 2, e => cases e
    | 3, e => cases e
    | n + 4, e => simp at e
  refine ⟨hl, fun j x e => ?_, fun j ds l e _ => absurd e (no j ds), fun j m ds b es l e _ _ _ => absurd e (no j ds)⟩
  match j, e with
  | 0, e => cases e
  | 1, e => cases e
  | 2, e => cases e; exact ⟨_, h2, l, vs, rfl, h, im⟩
  | 3, e => cases e
  | n + 4, e => simp at e
theorem told_im {H : Hp} {t : Addr} {x : Str} {n : Int} (h : H t = some (.tup [.str x, .int n])) : Im H (.ref t) (.tuple [.str x, .int n]) := .tup h (.cons (.str _) (.cons (.int _) .nil))
theorem take_snoc {α : Type} {l : List α} {i : Nat} {a : α} (h : l[i]? = some a) : l.take (i + 1) = l.take i ++ [a] := by rw [List.take_add_one, h]; rfl
section
variable {P : Program} {w : World} {K : PySem.W.Frag} {mg : Str → Option Value} {base : Heap} {C fI : Addr} {fdI : FuncData}
/-- the promise of term_rule in both ways -/
abbrev spTR (C : Addr) : Sp := fun vs H Q E => spG g_term_rule vs H Q E ∨ spX C cTr vs H Q E
/-- the lambda's reading -/
def tLamB (K : PySem.W.Frag) (C : Addr) : XK → TE := fun E => tCB (fun xs H Q => ∃ p ys, xs = [.ref p] ∧ (SqL K H p ys ∨ SqT K H p ys) ∧ Q (.int ys.length) H)
  (tCons (tCall (spTR C) [] E (tA (aCons (eTup (aCons (eC (.str "rank")) (aCons (eVar 3) (aCons (eVar 0) aNil)))) aNil))) tNil)
set_option maxHeartbeats 8000000 in
theorem ok_law_twelve (TW : Tw) (B : Bi mg) (D_term_rule : DX P w K mg base C 10 "term_rule" (spTR C)) (D_law_like : DGG P w K mg base 2 "_law_like" g_law_like) (R : Ers K mg C) {T : List (Addr × Str)} {c Pt : Addr} (TB : LamX.TabB base mg c Pt) (hT : T = [(Pt, ("_law_twelve.<locals>.<lambda>" : Str))])
    {g : Addr} {gd : FuncData} (G : Fun K "_law_refusal" "_law_refusal" s_law_refusal g gd) (hg : mg "_law_refusal" = some (.ref g)) (hb : Binds K gd ["_law_tell"] [])
    {f : Addr} {fd : FuncData} (F : Fun K "_law_twelve" "_law_twelve" s_law_twelve f fd) (hc : fd.code = .ref c) : FnG P w K mg base CX0 14 f fd [] (spTw T) := by
  have S := sc_law_twelve
  refine fng_of F S (fun vs H Q E ⟨h, _⟩ => by rw [h]; rfl) fun cdv ecd A outer s0 H vs Q E hA hr hsp => ?_
  obtain ⟨ev, hTabs, hQ⟩ := hsp
  subst ev
  rw [hc] at ecd
  subst ecd
  obtain ⟨go, god, gkV, gdoc, gpm, gan, gcdv, gct, gosl, rfl, glk, gcd⟩ := G.ex
  obtain ⟨tr, trd, trp, FT, tm, tk, tb⟩ := D_term_rule.ex
  refine ⟨_, PSs.nox (X := cxOf CX0 P w K mg base N_tw "_law_twelve" (defScope s_law_twelve) f (.ref c) A outer s0 H E) (pss_cons (s_asg (ps_set (i := 0) S.nd rfl (Or.inr rfl) (d_tupleOf rfl B.tuple (a_cons (d_comp (own := [("_law_y", 1)]) rfl S.nd (i_c (i_rng1 (pi_range1 rfl B.range (a_cons d_int a_nil)))) (blkOk_by (N := N_tw) (sc := defScope s_law_twelve) (by decide +kernel))
        (fun _ _ _ _ _ => g_name (pg_name (i := 1) S.nd rfl (by first | exact Or.inl rfl | exact Or.inr rfl))) (fun _ _ _ _ _ => pts_nilD) (fun _ _ _ _ _ => d_tup (a_cons d_int (a_cons (d_var 1 (pv 1)) a_nil)))) a_nil))))
    (pss_cons (s_asg (ps_set (i := 2) S.nd rfl (Or.inl rfl) (d_lst a_nil)))
    (pss_cons (ps_for PassesOwn.never rfl (pi_tup (pe_tup (pa_cons pe_int (pa_cons pe_int (pa_cons pe_int (pa_cons pe_int (pa_cons pe_int pa_nil))))))) (pg_name (i := 3) S.nd rfl (Or.inr rfl))
      (pss_one (ps_expr (pe_bm PySem.F.plainAttrs_list PySem.F.slot_list_append PySem.F.type_list_append mt_append (pv 2) (pa_cons
        (LamX.pe_lamcall (T := T) (TT := TRef C) (t := tLamB K C) (c := c) (P := Pt) (k := 10) rfl hg G.kp glk gcd hb sc_law_refusal rfl (.inl rfl) (refusal_gives R) TB rfl (by rw [hT]; exact List.mem_singleton.mpr rfl) (fun p hp _ => by rw [hT] at hp; rw [List.mem_singleton.mp hp]; rfl) (hr.mono (by omega)) (LamX.lamS_by (show LamX.lamSB (defScope s_law_twelve) { kind := .function, names := [("_law_least_so", .free), ("_law_row", .free), ("len", .globalImplicit), ("term_rule", .globalImplicit)], isGenerator := false, isCoroutine := false, more := [] } = true by decide +kernel)) rfl
          (fun _ _ _ _ _ => rfl) (fun A' outer' s' H' E' f' c' hr2 => pe_callB call_len_seq rfl B.len PySem.boot_len (pa_cons (pe_call FT hr2 rfl tm tk tb .nil (passes_call (E := E') (takes_of rfl rfl rfl rfl) fun _ _ _ _ h => h) (a_cons (d_tup (a_cons d_str (a_cons (d_var 3 (pv 3)) (a_cons (d_var 0 (pv 0)) a_nil)))) a_nil)) pa_nil)))
        pa_nil)))))
    (pss_one (s_ret (d_fnG D_law_like hA hr (by omega) rfl (a_cons (d_var 2 (pv 2)) (a_cons (d_lst (a_cons (d_tup (a_cons d_str (a_cons d_int a_nil))) (a_cons (d_tup (a_cons d_str (a_cons d_int a_nil))) (a_cons (d_tup (a_cons d_str (a_cons d_int a_nil))) (a_cons (d_tup (a_cons d_str (a_cons d_int a_nil))) (a_cons (d_tup (a_cons d_str (a_cons d_int a_nil))) a_nil)))))) a_nil)))))))), ?_⟩
  have sz : ∀ n : Nat, n ≤ 1000 → n ≤ sizeLine := fun n h => by rw [sizeLine_eq]; omega
  refine ⟨H, _, .nx [some (.im row12), none, none, none], Same.refl H, start_ok (N := N_tw) (xs := []) (m := 4) .nil rfl, by kernel_rfl, fun σ1 H1 s1 E1 => ?_⟩
  refine ⟨H, _, .nx [some (.im row12), none, some (.ls true []), none], s1, E1, by kernel_rfl, fun σ2 H2 s2 E2 => ?_⟩
  refine ⟨sz 5 (by omega), fun p hp => ⟨p, rfl, ⟨_, SqT.of upd_same⟩, fun i m σ H => m = 5 - i ∧ i ≤ 5 ∧ σ.length = 4 ∧ (∃ ur, σ[0]? = some (some ur) ∧ Im H ur row12) ∧ (∃ l vs, σ[2]? = some (some (.ref l)) ∧ H l = some (.lst vs) ∧ ImAll H vs (res12.take i)) ∧ H p = some (.tup (ks12.map V.int)) ∧ LamX.Tabs T H, ?_, ?_⟩⟩
  · obtain ⟨ur, h1, h2⟩ := E2.ok 0 _ rfl
    obtain ⟨ul, h3, l, vs, h4, h5, h6⟩ := E2.ok 2 _ rfl
    subst h4
    have s3 := same_new (o := .tup (ks12.map V.int)) hp
    exact ⟨5, rfl, by omega, E2.len, ⟨ur, h1, Im.mono (tp s3) _ _ h2⟩, ⟨l, vs, h3, s3 _ _ h5, ImAll.mono (tp s3) _ _ h6⟩, upd_same, (hTabs.ext s2).ext s3⟩
  rintro i m σ H3 ⟨rfl, hi, hlen, ⟨ur, h0, hur⟩, ⟨l, vs, h2, hl, him⟩, hpt, hTb⟩
  by_cases hlt : i < 5
  · obtain ⟨k, r, hk, hres, hans⟩ := asked TW hlt
    have hki : (ks12.map V.int)[i]? = some (.int k) := by rw [List.getElem?_map, hk]; rfl
    refine .inr ⟨⟨_, _, SqT.of hpt, hki⟩, fun σ' H' => i + 1 ≤ 5 ∧ σ'.length = 4 ∧ (∃ ur, σ'[0]? = some (some ur) ∧ Im H' ur row12) ∧ (∃ l vs, σ'[2]? = some (some (.ref l)) ∧ H' l = some (.lst vs) ∧ ImAll H' vs (res12.take (i + 1))) ∧ H' p = some (.tup (ks12.map V.int)) ∧ LamX.Tabs T H',
      fun σ' H' n => ⟨5 - (i + 1), by omega, rfl, n⟩, fun x H4 y => ?_⟩
    obtain ⟨e4, y⟩ := y
    subst e4
    have hx := y _ (SqT.of hpt)
    rw [hki] at hx
    cases hx
    have g0 : (σ.set 3 (some (V.int k)))[0]? = some (some ur) := by rw [List.getElem?_set_ne (by decide)]; exact h0
    have g2 : (σ.set 3 (some (V.int k)))[2]? = some (some (.ref l)) := by rw [List.getElem?_set_ne (by decide)]; exact h2
    have g3 : (σ.set 3 (some (V.int k)))[3]? = some (some (.int k)) := List.getElem?_set_self (by omega)
    refine ⟨.ref l, g2, .inl ⟨rfl, vs, SqL.of hl⟩, hTb, fun H5 eN T5 => fun H6 s6 Qn hQn => ?_⟩
    have hl5 : H5 l = some (.lst vs) := eN _ _ hl fun ps z => by cases z
    have t5 : Tp H4 H5 := extN_tp eN
    -- the answer is appended
    have fin : ∀ (t : Addr) (H7 : Hp) (y : PyData), Same H5 H7 → H7 t = none → (∀ H8, H8 t = some (.tup (match y with | .tuple [.str x, .int n] => [.str x, .int n] | _ => [])) → Im H8 (.ref t) y) → y = r →
        ∀ us, us = (match y with | .tuple [.str x, .int n] => [V.str x, V.int n] | _ => []) → ∃ (l' : Addr) (vs' : List V) (u' : V), V.ref l = .ref l' ∧ [V.ref t] = [u'] ∧ upd H7 t (.tup us) l' = some (.lst vs') ∧ vs'.length < sizeLine ∧
          (i + 1 ≤ 5 ∧ (σ.set 3 (some (V.int k))).length = 4 ∧ (∃ ur, (σ.set 3 (some (V.int k)))[0]? = some (some ur) ∧ Im (upd (upd H7 t (.tup us)) l' (.lst (vs' ++ [u']))) ur row12) ∧
            (∃ l vs, (σ.set 3 (some (V.int k)))[2]? = some (some (.ref l)) ∧ upd (upd H7 t (.tup us)) l' (.lst (vs' ++ [u'])) l = some (.lst vs) ∧ ImAll (upd (upd H7 t (.tup us)) l' (.lst (vs' ++ [u']))) vs (res12.take (i + 1))) ∧
            upd (upd H7 t (.tup us)) l' (.lst (vs' ++ [u'])) p = some (.tup (ks12.map V.int)) ∧ LamX.Tabs T (upd (upd H7 t (.tup us)) l' (.lst (vs' ++ [u'])))) := fun t H7 y s7 ht hy ey us eus => by
      have s8 : Same H5 (upd H7 t (.tup us)) := s7.trans (same_new ht)
      have hl8 := s8 _ _ hl5
      have tm : Tp (upd H7 t (.tup us)) (upd (upd H7 t (.tup us)) l (.lst (vs ++ [.ref t]))) := tp_mut hl8 fun _ z => by cases z
      have tall := (t5.trans (tp s8)).trans tm
      refine ⟨l, vs, .ref t, rfl, rfl, hl8, ?_, by omega, by rw [List.length_set]; exact hlen, ⟨ur, g0, Im.mono tall _ _ hur⟩, ⟨l, _, g2, upd_same, ?_⟩, tall _ _ hpt, tabs_upd (T5.ext s8) hl8⟩
      · rw [him.len, List.length_take]
        have := sz (min i res12.length + 1) (by have : res12.length = 5 := rfl; omega)
        omega
      · rw [take_snoc hres]
        refine ImAll.app (ImAll.mono tall _ _ him) (ImAll.one ?_)
        rw [← ey]
        exact hy _ (tm _ _ (by rw [upd_same, eus]))
    refine ⟨H6, _, [.im (rk12 k)], lam_env (by rw [List.length_set]; exact hlen) g0 (Im.mono (t5.trans (tp s6)) _ _ hur) g3, rfl, fun us H7 s7 v7 => ?_⟩
    rcases hans with ⟨n, er, ds, hds, hn⟩ | ⟨er, hcT⟩
    · refine .inl ⟨_, _, by rw [List.append_nil]; exact v7, hds, fun v H8 s8 v8 _ => ?_⟩
      obtain ⟨a, xs, e, ha, im⟩ := Im.tupInv v8
      subst e
      refine ⟨a, xs, rfl, .inr (SqT.of ha), hQn _ _ fun t ht => ?_⟩
      rw [im.len, hn]
      exact fin t H8 (told n) ((s6.trans s7).trans s8) ht (fun H9 h9 => told_im h9) er.symm _ rfl
    · exact .inr ⟨_, by rw [List.append_nil]; exact v7, hcT, fun d H8 s8 hd e => ⟨rfl, d, rfl, e, fun t ht => fin t H8 tg60 ((s6.trans s7).trans s8) ht (fun H9 h9 => told_im h9) er.symm _ rfl⟩⟩
  · have ei : i = 5 := by omega
    subst ei
    refine .inl ⟨⟨_, SqT.of hpt, by decide⟩, ?_⟩
    exact ⟨H3, _, .rt (.im (.bool true)), Same.refl H3, end_env hlen h2 hl him, by kernel_rfl, fun u H7 s7 v7 _ => by
      cases (Im.boolInv v7)
      exact hQ H7⟩
end
end Al
set_option Elab.async false
set_option linter.all false
set_option maxRecDepth 100000
set_option maxHeartbeats 4000000
/-! Al, part I: the drawing: law_begin, law_draw. -/
namespace Al
open PySem L2 Ai
/-! ### what is mixed -/
def mixI (a k : Int) : Int := (a % 2147483647 * (48271 + 2 * k * k) + 69621 * k + 11) % 2147483647 * 69621 % 2147483629
theorem gMul_l {a b : Int} (h1 : -1000000000000 ≤ a) (h2 : a ≤ 1000000000000) : gMul (.im (.int a)) (.im (.int b)) = some (.im (.int (a * b))) := by
  unfold gMul gI
  have : cMul a b = true := by
    unfold cMul
    simp only [Bool.or_eq_true, Bool.and_eq_true, decide_eq_true_eq]
    left
    omega
  simp [this]
theorem gMod_p {a b : Int} (h : 0 < b) : gMod (.im (.int a)) (.im (.int b)) = some (.im (.int (a % b))) := by
  unfold gMod gI
  have : cMod a b = true := decide_eq_true h
  simp [this]
theorem gAdd_i {a b : Int} : gAdd (.im (.int a)) (.im (.int b)) = some (.im (.int (a + b))) := by
  simp [gAdd, gI]
theorem mixed_eq {a k : Int} (h1 : 0 ≤ k) (h2 : k ≤ 100000) : g_law_mixed [.im (.int a), .im (.int k)] = some (.im (.int (mixI a k))) := by
  have ha : 0 ≤ a % 2147483647 ∧ a % 2147483647 < 2147483647 := by omega
  have e1 : g_law_mixed [.im (.int a), .im (.int k)] = (m_law_mixed [some (.im (.int a)), some (.im (.int k))]).bind fun o => match o with
    | .rt x => some x
    | .nx _ => some (.im .none)
    | _ => none := rfl
  rw [e1]
  unfold m_law_mixed sSeq sAsg sRet eBin eCall eVar eC aCons aNil gInt
  simp only [List.getElem?_cons_zero, List.getElem?_cons_succ, Val.ro, Option.bind_some, Option.map_some, List.set_cons_zero, List.set_cons_succ]
  rw [gMod_p (by decide)]
  simp only [Option.bind_some, List.set_cons_zero, List.getElem?_cons_zero, List.getElem?_cons_succ, Val.ro]
  rw [gMul_l (a := 2) (by decide) (by decide)]
  simp only [Option.bind_some]
  rw [gMul_l (a := 2 * k) (by omega) (by omega)]
  simp only [Option.bind_some]
  rw [gAdd_i]
  simp only [Option.bind_some]
  rw [gMul_l (a := a % 2147483647) (by omega) (by omega)]
  simp only [Option.bind_some]
  rw [gMul_l (a := 69621) (by decide) (by decide)]
  simp only [Option.bind_some]
  rw [gAdd_i]
  simp only [Option.bind_some]
  rw [gAdd_i]
  simp only [Option.bind_some]
  rw [gMod_p (by decide)]
  simp only [Option.bind_some]
  rw [gMul_l (by omega) (by omega)]
  simp only [Option.bind_some]
  rw [gMod_p (by decide)]
  rfl
theorem mixI_range (a k : Int) : 0 ≤ mixI a k ∧ mixI a k < 2147483629 := by
  unfold mixI
  omega
/-! ### the state -/
/-- the state's dict at d, its cells at c, what is left of them at l; at most b have been drawn -/
def StA (H : Hp) (d c l : Addr) (b : Int) : Prop := ∃ (cs ls : List Int) (n : Int), H d = some (.dK [(.inr "cells", .ref c), (.inr "lefts", .ref l), (.inr "at", .int n)]) ∧ H c = some (.lst (cs.map V.int)) ∧ H l = some (.lst (ls.map V.int)) ∧ c ≠ l ∧ ls.length = cs.length ∧ 0 < cs.length ∧ cs.length ≤ 1000 ∧ 0 ≤ n ∧ n ≤ b
/-- all but the state's dict and list stay -/
def Chg (d l : Addr) (H H' : Hp) : Prop := ∀ b o, H b = some o → b ≠ d → b ≠ l → H' b = some o
theorem Chg.of {d l : Addr} {H H' : Hp} (s : Same H H') : Chg d l H H' := fun b o h _ _ => s b o h
theorem Chg.trans {d l : Addr} {H H1 H2 : Hp} (a : Chg d l H H1) (b : Chg d l H1 H2) : Chg d l H H2 := fun x o h n1 n2 => b x o (a x o h n1 n2) n1 n2
theorem StA.same {H H' : Hp} {d c l : Addr} {b : Int} (s : StA H d c l b) (e : Same H H') : StA H' d c l b := by
  obtain ⟨cs, ls, n, h1, h2, h3, r⟩ := s
  exact ⟨cs, ls, n, e _ _ h1, e _ _ h2, e _ _ h3, r⟩
theorem StA.le {H : Hp} {d c l : Addr} {b b' : Int} (s : StA H d c l b) (e : b ≤ b') : StA H d c l b' := by
  obtain ⟨cs, ls, n, h1, h2, h3, h4, h5, h6, h7, h8, h9⟩ := s
  exact ⟨cs, ls, n, h1, h2, h3, h4, h5, h6, h7, h8, by omega⟩
theorem StA.tup {H : Hp} {d c l : Addr} {b : Int} (s : StA H d c l b) {a : Addr} {xs : List V} (h : H a = some (.tup xs)) : a ≠ d ∧ a ≠ l := by
  obtain ⟨cs, ls, n, h1, h2, h3, _⟩ := s
  constructor
  · intro z
    rw [z, h1] at h
    cases h
  · intro z
    rw [z, h3] at h
    cases h
theorem Chg.tp {H H' : Hp} {d c l : Addr} {b : Int} (e : Chg d l H H') (s : StA H d c l b) : Tp H H' := fun a xs h => e a _ h (s.tup h).1 (s.tup h).2
theorem atI_map {ns : List Int} {j : Nat} (h2 : j < ns.length) : atI (ns.map V.int) (j : Int) = some (.int ns[j]) := atI_nat (by simp [h2])
theorem ixN_map {n j : Nat} (h : j < n) : ixN n (j : Int) = some j := by
  unfold ixN
  rw [if_pos (by omega), if_pos (by omega)]
  simp
abbrev kvS (c l : Addr) (n : Int) : List (Key × V) := [(.inr "cells", .ref c), (.inr "lefts", .ref l), (.inr "at", .int n)]
theorem get_c {c l : Addr} {n : Int} : valV (kvS c l n) (.inr "cells") = some (.ref c) := by first | rfl | decide
theorem get_l {c l : Addr} {n : Int} : valV (kvS c l n) (.inr "lefts") = some (.ref l) := by first | rfl | decide
theorem get_a {c l : Addr} {n : Int} : valV (kvS c l n) (.inr "at") = some (.int n) := by first | rfl | decide
theorem put_a {c l : Addr} {n m : Int} : putK (kvS c l n) (.inr "at") (.int m) = kvS c l m := by first | rfl | decide
theorem dget_c {H : Hp} {d c l : Addr} {n : Int} (h : H d = some (.dK (kvS c l n))) : DGet H d (.str "cells") (some (.ref c)) := by
  have := DGet.k (k := .inr "cells") h
  rw [get_c] at this
  exact this
theorem dget_l {H : Hp} {d c l : Addr} {n : Int} (h : H d = some (.dK (kvS c l n))) : DGet H d (.str "lefts") (some (.ref l)) := by
  have := DGet.k (k := .inr "lefts") h
  rw [get_l] at this
  exact this
theorem dget_a {H : Hp} {d c l : Addr} {n : Int} (h : H d = some (.dK (kvS c l n))) : DGet H d (.str "at") (some (.int n)) := by
  have := DGet.k (k := .inr "at") h
  rw [get_a] at this
  exact this
theorem dput_a {H : Hp} {d c l : Addr} {n m : Int} (h : H d = some (.dK (kvS c l n))) : DPut H d (.str "at") (.int m) (upd H d (.dK (kvS c l m))) := by
  have := DPut.k (k := .inr "at") (v := .int m) h (by show 3 < sizeLine; rw [sizeLine_eq]; omega)
  rw [put_a] at this
  exact this
def spDraw : Sp := fun vs H Q _ => ∃ d c l lim b, vs = [.ref d, .int lim] ∧ 1 ≤ lim ∧ lim ≤ 1000 ∧ StA H d c l b ∧ b ≤ 1000 ∧ ∀ r H', 0 ≤ r → r < lim → StA H' d c l (b + 1) → Chg d l H H' → Q (.int r) H'
abbrev s_law_draw : Stmt := top 76
theorem sc_law_draw : FnScope ["_law_state", "_law_limit", "_law_at", "_law_place", "_law_left", "_law_number"] ["_law_state", "_law_limit"] (defScope s_law_draw) := ⟨rfl, rfl, rfl, by decide +kernel, rfl, by decide +kernel, by decide +kernel⟩
section
variable {P : Program} {w : World} {K : PySem.W.Frag} {mg : Str → Option Value} {base : Heap}
theorem ok_law_draw (B : Bi mg) (D_law_mixed : DG P w K mg base 2 "_law_mixed" g_law_mixed) {f : Addr} {fd : FuncData} (F : Fun K "_law_draw" "_law_draw" s_law_draw f fd) : FnOk P w K mg base CX0 3 f fd ["_law_state", "_law_limit"] spDraw := by
  have S := sc_law_draw
  obtain ⟨g, gd, gp, G, gm, gk, gb⟩ := D_law_mixed.ex
  refine F.ok S (fun vs H Q E ⟨d, c, l, lim, b, h, _⟩ => by rw [h]; rfl) fun cdv A outer s H vs Q E hr h => ⟨_,
    pss_cons (ps_set (i := 2) S.nd rfl (Or.inl rfl) (pe_dget (hu1 hr) (pv 0) pe_str (fun _ _ => rfl)))
    (pss_cons (ps_dput (hu1 hr) (pv 0) pe_str (pe_op op_add (pv 2) pe_int) rfl)
    (pss_cons (ps_set (i := 3) S.nd rfl (Or.inl rfl) (pe_op op_mod (pe_callTy call_int1 rfl B.int (by decide +kernel) (pa_cons (pv 2) pa_nil)) (pe_callB call_len_seq rfl B.len PySem.boot_len (pa_cons (pe_dget (hu1 hr) (pv 0) pe_str (fun _ _ => rfl)) pa_nil))))
    (pss_cons (ps_set (i := 4) S.nd rfl (Or.inl rfl) (pe_ix ix_list (pe_dget (hu1 hr) (pv 0) pe_str (fun _ _ => rfl)) (pv 3) (fun _ _ => rfl)))
    (pss_cons (ps_if (pt_cmpR op_gt (pv 4) pe_int (nomark _)) (pss_cons (ps_asg (pe_op op_fdiv (pv 4) (pv 1)) (pg_sub (pe_dget (hu1 hr) (pv 0) pe_str (fun _ _ => rfl)) (pv 3) set_list)) (pss_one (ps_ret (pe_op op_mod (pe_callTy call_int1 rfl B.int (by decide +kernel) (pa_cons (pv 4) pa_nil)) (pv 1))))) pss_nil)
    (pss_cons (ps_set (i := 5) S.nd rfl (Or.inl rfl) (pe_call (E := E0) G (hr.mono (by omega)) rfl gm gk gb .nil pass0 (pa_cons (pe_call (E := E0) G (hr.mono (by omega)) rfl gm gk gb .nil pass0 (pa_cons (pe_ix ix_list (pe_dget (hu1 hr) (pv 0) pe_str (fun _ _ => rfl)) (pv 3) (fun _ _ => rfl)) (pa_cons (pv 2) pa_nil))) (pa_cons (pe_op op_add pe_int (pv 2)) pa_nil))))
    (pss_one (ps_ret (pe_op op_mod (pe_op op_fdiv (pe_callTy call_int1 rfl B.int (by decide +kernel) (pa_cons (pe_op op_add (pe_op op_mul (pv 5) pe_int) (pe_call (E := E0) G (hr.mono (by omega)) rfl gm gk gb .nil pass0 (pa_cons (pv 5) (pa_cons (pe_op op_add pe_int (pv 2)) pa_nil)))) pa_nil)) pe_int) (pv 1)))))))))
    , ?_⟩
  obtain ⟨d, c, l, lim, b, rfl, h1, h2, ⟨cs, ls, n, hd, hc, hl, ne, e1, e2, e3, n0, nb⟩, hb, hQ⟩ := h
  have dl : d ≠ l := fun z => by rw [z, hl] at hd; cases hd
  have dc : d ≠ c := fun z => by rw [z, hc] at hd; cases hd
  have cl : cs.length ≤ ls.length := by omega
  -- at is counted on
  refine ⟨.ref d, rfl, d, .int n, rfl, dget_a hd, ?_⟩
  have hd1 : upd H d (.dK (kvS c l (n + 1))) d = some (.dK (kvS c l (n + 1))) := upd_same
  refine ⟨.int n, rfl, n, 1, rfl, rfl, .ref d, rfl, d, _, rfl, dput_a hd, ?_⟩
  have hc1 : upd H d (.dK (kvS c l (n + 1))) c = some (.lst (cs.map V.int)) := by rw [upd_ne (Ne.symm dc)]; exact hc
  have hl1 : upd H d (.dK (kvS c l (n + 1))) l = some (.lst (ls.map V.int)) := by rw [upd_ne (Ne.symm dl)]; exact hl
  have chg1 : Chg d l H (upd H d (.dK (kvS c l (n + 1)))) := fun x o e n1 _ => by rw [upd_ne n1]; exact e
  -- the place
  obtain ⟨j, hj⟩ : ∃ j : Nat, n % (cs.length : Int) = (j : Int) := ⟨(n % (cs.length : Int)).toNat, by
    rw [Int.toNat_of_nonneg (Int.emod_nonneg _ (by omega))]⟩
  have hjl : j < cs.length := by
    have := Int.emod_lt_of_pos n (show (0 : Int) < (cs.length : Int) by omega)
    omega
  refine ⟨.int n, rfl, .inl ⟨n, rfl, .ref d, rfl, d, .ref c, rfl, dget_c hd1, c, cs.map V.int, rfl, .inl (SqL.of hc1), n, _, rfl, rfl, ?_, ?_⟩⟩
  · rw [List.length_map]
    omega
  show gName 3 (V.int (n % (((cs.map V.int).length : Nat) : Int))) _ _ _
  rw [List.length_map, hj]
  -- what is left there
  refine ⟨.ref d, rfl, d, .ref l, rfl, dget_l hd1, .int j, rfl, l, ls.map V.int, j, .int ls[j], rfl, rfl, SqL.of hl1, atI_map (by omega), ?_⟩
  refine ⟨.int ls[j], rfl, _, 0, rfl, rfl, _, rfl, ?_⟩
  have rng : ∀ x : Int, 0 ≤ x % lim ∧ x % lim < lim := fun x => ⟨Int.emod_nonneg _ (by omega), Int.emod_lt_of_pos _ (by omega)⟩
  by_cases hpos : 0 < ls[j]
  · rw [decide_eq_true hpos]
    refine iteT ?_
    refine ⟨.int ls[j], rfl, .int lim, rfl, _, _, rfl, rfl, ⟨by omega, by omega⟩, ?_⟩
    refine ⟨.ref d, rfl, d, .ref l, rfl, dget_l hd1, .int j, rfl, l, ls.map V.int, j, j, rfl, rfl, hl1, by rw [List.length_map]; exact ixN_map (by omega), ?_⟩
    refine ⟨.int ls[j], rfl, .inl ⟨_, rfl, .int lim, rfl, _, _, rfl, rfl, by omega, ?_⟩⟩
    obtain ⟨r1, r2⟩ := rng ls[j]
    refine hQ _ _ r1 r2 ⟨cs, ls.set j (ls[j] / lim), n + 1, by rw [upd_ne dl]; exact hd1, by rw [upd_ne ne]; exact hc1, by rw [upd_same, List.map_set], ne, by rw [List.length_set]; exact e1, e2, e3, by omega, by omega⟩ fun x o e m1 m2 => by
      rw [upd_ne m2]
      exact chg1 x o e m1 m2
  · rw [decide_eq_false hpos]
    refine iteF ?_
    refine ⟨.ref d, rfl, d, .ref c, rfl, dget_c hd1, .int j, rfl, c, cs.map V.int, j, .int cs[j], rfl, rfl, SqL.of hc1, atI_map hjl, .int n, rfl, ?_⟩
    refine ⟨[.im (.int cs[j]), .im (.int n)], _, .cons (.int _) (.cons (.int _) .nil), mixed_eq n0 (by omega), fun v2 H2 s2 v2' _ => ?_⟩
    obtain rfl := Im.intInv v2'
    refine ⟨.int n, rfl, 40, n, rfl, rfl, ?_⟩
    refine ⟨[.im (.int _), .im (.int (40 + n))], _, .cons (.int _) (.cons (.int _) .nil), mixed_eq (by omega) (by omega), fun v3 H3 s3 v3' _ => ?_⟩
    obtain rfl := Im.intInv v3'
    obtain ⟨q1, q2⟩ := mixI_range (mixI cs[j] n) (40 + n)
    refine ⟨.int (mixI (mixI cs[j] n) (40 + n)), rfl, mixI (mixI cs[j] n) (40 + n), 2147483647, rfl, rfl, .inl ⟨by omega, by omega⟩, ?_⟩
    refine ⟨.int (mixI (mixI cs[j] n) (40 + n)), rfl, .int n, rfl, 7, n, rfl, rfl, ?_⟩
    refine ⟨[.im (.int _), .im (.int (7 + n))], _, .cons (.int _) (.cons (.int _) .nil), mixed_eq (by omega) (by omega), fun v4 H4 s4 v4' _ => ?_⟩
    obtain rfl := Im.intInv v4'
    refine ⟨_, _, rfl, rfl, .inl ⟨_, rfl, _, 64, rfl, rfl, ⟨by omega, by omega⟩, .int lim, rfl, _, _, rfl, rfl, by omega, ?_⟩⟩
    have same := (s2.trans s3).trans s4
    refine hQ _ _ (rng _).1 (rng _).2 ⟨cs, ls, n + 1, same _ _ hd1, same _ _ hc1, same _ _ hl1, ne, e1, e2, e3, by omega, by omega⟩ fun x o e m1 m2 => same _ _ (chg1 x o e m1 m2)
end
end Al
set_option Elab.async false
set_option linter.all false
set_option maxRecDepth 100000
set_option maxHeartbeats 4000000
/-! Al, part J: law_begin, law_marks. -/
namespace Al
open PySem L2 Ai
/-! ### a comprehension whose every turn is known -/
theorem mapO_eq {α β : Type} {g : α → Option β} {f : α → β} : ∀ {l : List α}, (∀ a ∈ l, g a = some (f a)) → mapO g l = some (l.map f)
  | [], _ => rfl
  | a :: l, h => by
    unfold mapO
    rw [h a (List.mem_cons_self ..), mapO_eq fun b hb => h b (List.mem_cons_of_mem _ hb)]
    rfl
theorem fm_map {α β : Type} (f : α → Option β) (l : List α) : (l.map f).filterMap id = l.filterMap f := by
  induction l with
  | nil => rfl
  | cons a l ih =>
    rw [List.map_cons]
    cases h : f a with
    | none => rw [List.filterMap_cons_none (by rfl), List.filterMap_cons_none h, ih]
    | some b => rw [List.filterMap_cons_some (by rfl), List.filterMap_cons_some h, ih]
theorem comp_eq {src : Src} {vs : List Nat} {b : En → PyData → Option En} {t : Te} {el : Xp} {ρ : En} {ds : List PyData} {f : PyData → Option PyData} (hs : src ρ = some ds) (h : ∀ d ∈ ds, turnC vs b t el ρ d = some (f d)) (hl : ds.length ≤ 1000000) :
    eComp src vs b t el ρ = some (.ls true (ds.filterMap f)) := by
  unfold eComp
  rw [hs, Option.bind_some, mapO_eq h, Option.bind_some, List.length_map, show lenOk ds.length = true from decide_eq_true hl, if_pos rfl, fm_map]
def cPow (i j : Int) : Bool := decide (0 ≤ j) && decide (j ≤ 1000000) && decide (i.natAbs < 2 ^ 64)
theorem cPow_ok {i j : Int} (h : cPow i j = true) : CPow i j := by
  unfold cPow at h
  simp only [Bool.and_eq_true, decide_eq_true_eq] at h
  exact ⟨h.1.1, h.1.2, h.2⟩
def gPow : Val → Val → Option Val := gI cPow fun i j => i ^ j.toNat
theorem d_pow {X : Cx} {a b : Expr} {fa fb : Xp} {pos : Pos} (ha : PE X a (tD fa)) (hb : PE X b (tD fb)) : PE X (.BinOp a .Pow b pos) (tD (eBin gPow fa fb)) := d_op op_pow (I_D fun _ _ h => cPow_ok h) ha hb
/-! ### law_begin -/
def lftI (i : Int) : Int := if decide ((10 : Int) ^ 18 ≤ i) = true then i else 0
def mLefts : Xp := eComp (srcL (eVar 1)) [2] (bName 2) tTrue (eIf (eB (eBin (gRel fGe) (eVar 2) (eBin gPow (eC (.int 10)) (eC (.int 18))))) (eVar 2) (eC (.int 0)))
theorem lefts_eq {ns : List Int} (hl : ns.length ≤ 1000) : mLefts [none, some (.ls false (ns.map PyData.int)), none] = some (.ls true ((ns.map lftI).map PyData.int)) := by
  unfold mLefts
  rw [comp_eq (ds := ns.map PyData.int) (f := fun d => match d with | .int i => some (.int (lftI i)) | _ => none) rfl (fun d hd => ?_) (by rw [List.length_map]; omega)]
  · congr 2
    rw [List.filterMap_map, List.map_map]
    induction ns with
    | nil => rfl
    | cons n ns ih =>
      rw [List.filterMap_cons_some (by rfl), List.map_cons, ih (by rw [List.length_cons] at hl; omega)]
      rfl
  · obtain ⟨i, _, rfl⟩ := List.mem_map.mp hd
    have e1 : gPow (.im (.int 10)) (.im (.int 18)) = some (.im (.int (10 ^ 18))) := by rfl
    have e2 : gRel fGe (.im (.int i)) (.im (.int (10 ^ 18))) = some (.im (.bool (decide ((10 : Int) ^ 18 ≤ i)))) := by
      simp [gRel, okD, SeqAt.shaped, PyData.canLay0, PyData.depth, ordD, fGe]
    unfold turnC eIf eB eBin eVar eC bName wipeE wipeE tTrue
    simp only [List.set_cons_zero, List.set_cons_succ, Option.bind_some, List.getElem?_cons_zero, List.getElem?_cons_succ, Val.ro, e1, e2]
    unfold lftI
    cases decide ((10 : Int) ^ 18 ≤ i) <;> rfl
theorem im_ints {H : Hp} : ∀ {is : List Int} {vs : List V}, ImAll H vs (is.map PyData.int) → vs = is.map V.int
  | [], _, h => by cases h; rfl
  | i :: is, _, h => by
    cases h with
    | cons a t => rw [Im.intInv a, im_ints t]; rfl
theorem ints_im {H : Hp} : ∀ is : List Int, ImAll H (is.map V.int) (is.map PyData.int)
  | [] => .nil
  | i :: is => .cons (.int i) (ints_im is)
def spBegin (K : PySem.W.Frag) : Sp := fun vs H Q _ => ∃ (a : Addr) (ns : List Int), vs = [.ref a] ∧ SqL K H a (ns.map V.int) ∧ ns.length ≤ 100 ∧ ∀ d c l H', Same H H' → StA H' d c l 0 → Q (.ref d) H'
abbrev s_law_begin : Stmt := top 75
theorem sc_law_begin : FnScope ["_law_script", "_law_cells_so", "_law_cell"] ["_law_script"] (defScope s_law_begin) := ⟨rfl, rfl, rfl, by decide +kernel, rfl, by decide +kernel, by decide +kernel⟩
theorem hu64 {k : Nat} {A : Around} (r : Room k A) : A.units + 64 < cLine := by have := r.un; omega
theorem merge_s {c l : Addr} : mergeK [] (kvS c l 0) = kvS c l 0 := by first | rfl | decide
section
variable {P : Program} {w : World} {K : PySem.W.Frag} {mg : Str → Option Value} {base : Heap}
theorem ok_law_begin (B : Bi mg) {f : Addr} {fd : FuncData} (F : Fun K "_law_begin" "_law_begin" s_law_begin f fd) : FnOk P w K mg base CX0 2 f fd ["_law_script"] (spBegin K) := by
  have S := sc_law_begin
  refine F.ok S (fun vs H Q E ⟨a, ns, h, _⟩ => by rw [h]; rfl) fun cdv A outer s H vs Q E hr h => ⟨_,
    pss_cons (ps_set (i := 1) S.nd rfl (Or.inl rfl) (pe_ifExp (pt_cmpR (op_neD (hu64 hr)) (pv 0) (pe_lst pa_nil) (nomark _)) (pe_callTy call_list_of rfl B.list (by decide +kernel) (pa_cons (pv 0) pa_nil)) (pe_lst (pa_cons pe_int pa_nil))))
    (pss_one (ps_ret (pe_disp (pps_cons pe_str (pv 1) (pps_cons pe_str (d_comp (src := srcL (eVar 1)) (b := bName 2) (t := tTrue) (el := eIf (eB (eBin (gRel fGe) (eVar 2) (eBin gPow (eC (.int 10)) (eC (.int 18))))) (eVar 2) (eC (.int 0))) (own := [("_law_cell", 2)]) rfl S.nd (i_lstC (d_var 1 (pv 1)))
      (blkOk_by (N := ["_law_script", "_law_cells_so", "_law_cell"]) (sc := defScope s_law_begin) (by decide +kernel)) (fun _ _ _ _ _ => g_name (pg_name (i := 2) S.nd rfl (by first | exact Or.inl rfl | exact Or.inr rfl))) (fun _ _ _ _ _ => pts_nilD)
      (fun _ _ _ _ _ => d_if (t_ge (hu100 hr) (d_var 2 (pv 2)) (d_pow d_int d_int)) (d_var 2 (pv 2)) d_int)) (pps_cons pe_str pe_int pps_nil))) rfl rfl (by simp) (by decide)))), ?_⟩
  obtain ⟨a, ns, rfl, ha, hn, hQ⟩ := h
  have fin : ∀ (c : Addr) (H2 : Hp) (cs : List Int), Same H H2 → H2 c = some (.lst (cs.map V.int)) → 0 < cs.length → cs.length ≤ 100 → tPairs [(tC (.str "cells"), tVar 1), (tC (.str "lefts"), tD mLefts), (tC (.str "at"), tC (.int 0))] = tPairs [(tC (.str "cells"), tVar 1), (tC (.str "lefts"), tD mLefts), (tC (.str "at"), tC (.int 0))] →
      tDisp [(tC (.str "cells"), tVar 1), (tC (.str "lefts"), tD mLefts), (tC (.str "at"), tC (.int 0))] [some (.ref a), some (.ref c), none] H2 Q := fun c H2 cs s2 hc h0 hcl _ p hp => by
    have s3 : Same H2 (upd H2 p (.dK [])) := same_new hp
    have hc3 := s3 _ _ hc
    have E : EnOk (upd H2 p (.dK [])) (upd H2 p (.dK [])) [some (.ref a), some (.ref c), none] [none, some (.ls false (cs.map PyData.int)), none] := by
      refine ⟨rfl, fun j x e => ?_, fun j ds l e => ?_, fun j m ds b es l e => ?_⟩
      · match j, e with
        | 0, e => cases e
        | 1, e => cases e; exact ⟨_, rfl, c, _, rfl, hc3, ints_im cs⟩
        | 2, e => cases e
        | n + 3, e => simp at e
      · match j, e with
        | 0, e => cases e
        | 1, e => cases e
        | 2, e => cases e
        | n + 3, e => simp at e
      · match j, e with
        | 0, e => cases e
        | 1, e => cases e
        | 2, e => cases e
        | n + 3, e => simp at e
    refine ⟨.ref c, rfl, _, _, _, E, lefts_eq (by omega), fun u H4 s4 v4 f4 => ?_⟩
    obtain ⟨l, vs, eu, hl, im⟩ := v4
    subst eu
    obtain rfl := im_ints im
    have hlf : upd H2 p (.dK []) l = none := f4 l rfl
    have hp4 : H4 p = some (.dK []) := s4 _ _ upd_same
    have hc4 := s4 _ _ hc3
    have lp : l ≠ p := fun z => by rw [z, upd_same] at hlf; cases hlf
    have cp : c ≠ p := fun z => by rw [z, hp] at hc; cases hc
    refine ⟨hp4, kvS c l 0, rfl, by show 3 ≤ 15; omega, ?_⟩
    rw [merge_s]
    refine hQ p c l _ (fun b o e => ?_) ⟨cs, cs.map lftI, 0, upd_same, by rw [upd_ne cp]; exact hc4, by rw [upd_ne lp]; exact hl, ne_of_none hc3 hlf, by rw [List.length_map], h0, by omega, by omega, by omega⟩
    have e2 := s2 _ _ e
    rw [upd_ne (ne_of_none e2 hp)]
    exact s4 _ _ (s3 _ _ e2)
  refine ⟨.ref a, rfl, Nat.zero_le _, fun p0 hp0 => ?_⟩
  have s1 : Same H (upd H p0 (.lst [])) := same_new hp0
  have dp : ∀ (is : List Int) (H : Hp), DpAll K H (is.map V.int) (is.map PyData.int) := fun is H => by
    induction is with
    | nil => exact .nil
    | cons i is ih => exact .cons (.int i) ih
  have lay : ∀ is : List Int, PyData.canLayAll0 (is.map PyData.int) = true := fun is => by
    induction is with
    | nil => rfl
    | cons i is ih => simp [PyData.canLayAll0, PyData.canLay0, ih]
  have dep : ∀ is : List Int, PyData.depthAll (is.map PyData.int) ≤ 1 := fun is => by
    induction is with
    | nil => simp [PyData.depthAll]
    | cons i is ih =>
      simp only [List.map_cons, PyData.depthAll, PyData.depth]
      omega
  refine ⟨.list (ns.map PyData.int), .list [], .lst (s1.seq ha) (dp ns _), .lst (SqL.of upd_same) .nil, ?_, by rfl, ?_⟩
  · unfold SeqAt.shaped
    have := dep ns
    simp only [PyData.canLay0, PyData.depth, lay, Bool.true_and]
    exact decide_eq_true (by omega)
  refine ⟨_, rfl, ?_⟩
  cases ns with
  | nil =>
    refine iteF ⟨by show 1 ≤ sizeLine; rw [sizeLine_eq]; omega, fun c hc => ?_⟩
    exact fin c _ [0] (s1.trans (same_new hc)) upd_same (by decide) (by decide) rfl
  | cons n ns =>
    refine iteT ?_
    refine ⟨.ref a, rfl, a, _, rfl, .inl (s1.seq ha), fun c hc => ?_⟩
    exact fin c _ (n :: ns) (s1.trans (same_new hc)) upd_same (by simp) hn rfl
end
end Al
set_option Elab.async false
set_option linter.all false
set_option maxRecDepth 100000
set_option maxHeartbeats 4000000
/-! Al, part K: law_marks. -/
namespace Al
open PySem L2 Ai
/-- strictly ascending places -/
def AscP (ps : List Pl) : Prop := ps.Pairwise fun a b => ltP a b = true
theorem ltP_tot {a b : Pl} (h : ltP b a = false) (n : a ≠ b) : ltP a b = true := by
  have h := SrtO.lexB_no.mp h
  refine SrtO.lexB_iff.mpr ?_
  have n' : ¬ (a.1 = b.1 ∧ a.2 = b.2) := fun z => n (Prod.ext z.1 z.2)
  omega
theorem putP_keys {kv : KV} {p : Pl} {d : PyData} : (putP kv p d).map (·.1) = if p ∈ kv.map (·.1) then kv.map (·.1) else kv.map (·.1) ++ [p] := by
  unfold putP
  have e : (kv.any fun q => decide (q.1 = p)) = decide (p ∈ kv.map (·.1)) := by
    rw [Bool.eq_iff_iff]
    simp only [List.any_eq_true, decide_eq_true_eq, List.mem_map]
  rw [e]
  by_cases h : p ∈ kv.map (·.1)
  · rw [if_pos (by simpa using h), if_pos h, List.map_map]
    refine List.map_congr_left fun q _ => ?_
    by_cases hq : q.1 = p
    · simp [hq]
    · simp [hq]
  · rw [if_neg (by simpa using h), if_neg h, List.map_append]
    rfl
theorem putP_nodup {kv : KV} {p : Pl} {d : PyData} (h : (kv.map (·.1)).Nodup) : ((putP kv p d).map (·.1)).Nodup := by
  rw [putP_keys]
  split
  · exact h
  · rename_i hn
    rw [List.nodup_append]
    exact ⟨h, by simp, fun a ha b hb => by
      rw [List.mem_singleton.mp hb]
      exact fun z => hn (z ▸ ha)⟩
theorem putP_mem {kv : KV} {p x : Pl} {d : PyData} (h : x ∈ (putP kv p d).map (·.1)) : x ∈ kv.map (·.1) ∨ x = p := by
  rw [putP_keys] at h
  split at h
  · exact .inl h
  · rcases List.mem_append.mp h with h | h
    · exact .inl h
    · exact .inr (List.mem_singleton.mp h)
theorem putP_len {kv : KV} {p : Pl} {d : PyData} : (putP kv p d).length ≤ kv.length + 1 := by
  have := congrArg List.length (putP_keys (kv := kv) (p := p) (d := d))
  rw [List.length_map] at this
  rw [this]
  split
  · rw [List.length_map]; omega
  · rw [List.length_append, List.length_map]; exact Nat.le_refl _
theorem isort_asc {l : List Pl} (h : l.Nodup) : AscP (isort ltP l) := by
  have h1 := isort_srtd swoP l
  have h2 : (isort ltP l).Nodup := (isort_perm l).nodup_iff.mpr h
  unfold AscP
  have h3 : (isort ltP l).Pairwise fun a b => ltP b a = false ∧ a ≠ b := by
    rw [List.pairwise_and_iff]
    exact ⟨h1, h2⟩
  exact h3.imp fun ⟨a, b⟩ => ltP_tot a b
def spMarks : Sp := fun vs H Q _ => ∃ d c l size many b, vs = [.ref d, .int size, .int many] ∧ 0 ≤ size ∧ size ≤ 100 ∧ 0 ≤ many ∧ many ≤ 100 ∧ StA H d c l b ∧ 0 ≤ b ∧ b + 1 + 2 * many ≤ 1000 ∧
  ∀ t H' ps, Im H' (.ref t) (nD ps) → AscP ps → (ps.length : Int) ≤ many → (∀ p ∈ ps, (-size ≤ p.1 ∧ p.1 ≤ size) ∧ -size ≤ p.2 ∧ p.2 ≤ size) → StA H' d c l (b + 1 + 2 * many) → Chg d l H H' → Q (.ref t) H'
abbrev s_law_marks : Stmt := top 77
abbrev N_mk : List Str := ["_law_state", "_law_size", "_law_many_so", "_law_found", "_law_step", "_law_x", "_law_y"]
theorem sc_law_marks : FnScope N_mk ["_law_state", "_law_size", "_law_many_so"] (defScope s_law_marks) := ⟨rfl, rfl, rfl, by decide +kernel, rfl, by decide +kernel, by decide +kernel⟩
section
variable {P : Program} {w : World} {K : PySem.W.Frag} {mg : Str → Option Value} {base : Heap}
/-- a def that may be called, by its promise -/
structure DS (P : Program) (w : World) (K : PySem.W.Frag) (mg : Str → Option Value) (base : Heap) (k : Nat) (x : Str) (sp : Sp) : Prop where
  ex : ∃ f fd ps, FnOk P w K mg base CX0 k f fd ps sp ∧ mg x = some (.ref f) ∧ PySem.W.keepIn K (.ref f) = true ∧ Binds K fd ps []
theorem ok_law_marks (B : Bi mg) (D_law_draw : DS P w K mg base 3 "_law_draw" spDraw) {f : Addr} {fd : FuncData} (F : Fun K "_law_marks" "_law_marks" s_law_marks f fd) : FnOk P w K mg base CX0 4 f fd ["_law_state", "_law_size", "_law_many_so"] spMarks := by
  have S := sc_law_marks
  obtain ⟨g, gd, gp, G, gm, gk, gb⟩ := D_law_draw.ex
  refine F.ok S (fun vs H Q E ⟨d, c, l, size, many, b, h, _⟩ => by rw [h]; rfl) fun cdv A outer s H vs Q E hr h => ?_
  refine ⟨_,
    pss_cons (ps_set (i := 3) S.nd rfl (Or.inl rfl) pe_dnewT)
    (pss_cons (ps_for PassesOwn.never rfl (pi_range1 rfl B.range (pa_cons (pe_call (E := E0) G (hr.mono (by omega)) rfl gm gk gb .nil pass0 (pa_cons (pv 0) (pa_cons (pe_op op_add (pv 2) pe_int) pa_nil))) pa_nil)) (pg_name (i := 4) S.nd rfl (Or.inl rfl))
      (pss_cons (ps_par (i := 5) (j := 6) (by rfl) S.nd rfl rfl (by decide) rfl rfl (pa_cons (pe_op op_sub (pe_call (E := E0) G (hr.mono (by omega)) rfl gm gk gb .nil pass0 (pa_cons (pv 0) (pa_cons (pe_op op_add (pe_op op_mul pe_int (pv 1)) pe_int) pa_nil))) (pv 1))
          (pa_cons (pe_op op_sub (pe_call (E := E0) G (hr.mono (by omega)) rfl gm gk gb .nil pass0 (pa_cons (pv 0) (pa_cons (pe_op op_add (pe_op op_mul pe_int (pv 1)) pe_int) pa_nil))) (pv 1)) pa_nil)) (by rfl))
      (pss_one (ps_dput (hu1 hr) (pv 3) (pe_tup (pa_cons (pv 5) (pa_cons (pv 6) pa_nil))) pe_bl rfl))))
    (pss_one (ps_ret (pe_callTy call_tuple_of rfl B.tuple (by decide +kernel) (pa_cons (pe_callB (cr_srtD rfl (hu120 hr)) rfl B.sorted (by decide +kernel) (pa_cons (pv 3) pa_nil)) pa_nil))))), ?_⟩
  obtain ⟨d, c, l, size, many, b, rfl, z0, z1, m0, m1, hS, b0, b1, hQ⟩ := h
  refine fun p hp => ?_
  have s1 : Same H (upd H p (.dT [])) := same_new hp
  have pd : p ≠ d ∧ p ≠ l := by
    obtain ⟨cs, ls, n, h1, h2, h3, _⟩ := hS
    exact ⟨Ne.symm (ne_of_none h1 hp), Ne.symm (ne_of_none h3 hp)⟩
  refine ⟨.ref d, rfl, .int many, rfl, many, 1, rfl, rfl, d, c, l, many + 1, b, rfl, by omega, by omega, hS.same s1, by omega, fun r H2 r0 r1 hS2 ch2 => ⟨r, rfl, by omega, by omega, ?_⟩⟩
  refine ⟨fun i m σ H' => m = r.toNat - i ∧ i ≤ r.toNat ∧ σ.length = 7 ∧ σ[0]? = some (some (.ref d)) ∧ σ[1]? = some (some (.int size)) ∧ σ[3]? = some (some (.ref p)) ∧
    (∃ kvs kv, H' p = some (.dT kvs) ∧ DKV H' kvs kv ∧ (kv.map (·.1)).Nodup ∧ kv.length ≤ i ∧ ∀ q ∈ kv.map (·.1), (-size ≤ q.1 ∧ q.1 ≤ size) ∧ -size ≤ q.2 ∧ q.2 ≤ size) ∧ StA H' d c l (b + 1 + 2 * i) ∧ Chg d l H H', ?_, ?_⟩
  · refine ⟨_, rfl, Nat.zero_le _, rfl, rfl, rfl, rfl, ⟨[], [], ch2 _ _ upd_same pd.1 pd.2, .nil, List.nodup_nil, Nat.le_refl _, fun q hq => by cases hq⟩, hS2.le (by omega), (Chg.of s1).trans ch2⟩
  rintro i m σ H3 ⟨rfl, hi, hlen, g0, g1, g3, ⟨kvs, kv, hpk, hdk, nd, hkl, hrg⟩, hS3, ch3⟩
  by_cases hlt : i < r.toNat
  · refine .inr ⟨hlt, fun σ H' => i + 1 ≤ r.toNat ∧ σ.length = 7 ∧ σ[0]? = some (some (.ref d)) ∧ σ[1]? = some (some (.int size)) ∧ σ[3]? = some (some (.ref p)) ∧
      (∃ kvs kv, H' p = some (.dT kvs) ∧ DKV H' kvs kv ∧ (kv.map (·.1)).Nodup ∧ kv.length ≤ i + 1 ∧ ∀ q ∈ kv.map (·.1), (-size ≤ q.1 ∧ q.1 ≤ size) ∧ -size ≤ q.2 ∧ q.2 ≤ size) ∧ StA H' d c l (b + 1 + 2 * (i + 1 : Nat)) ∧ Chg d l H H', fun σ' H' n => ⟨r.toNat - (i + 1), by omega, rfl, n⟩, fun x H4 y => ?_⟩
    obtain ⟨e4, y⟩ := y
    subst e4 y
    have k0 : (σ.set 4 (some (V.int (0 + (i : Int)))))[0]? = some (some (.ref d)) := by rw [List.getElem?_set_ne (by decide)]; exact g0
    have k1 : (σ.set 4 (some (V.int (0 + (i : Int)))))[1]? = some (some (.int size)) := by rw [List.getElem?_set_ne (by decide)]; exact g1
    have k3 : (σ.set 4 (some (V.int (0 + (i : Int)))))[3]? = some (some (.ref p)) := by rw [List.getElem?_set_ne (by decide)]; exact g3
    refine ⟨.ref d, k0, .int size, k1, 2, size, rfl, rfl, .inl ⟨by omega, by omega⟩, 2 * size, 1, rfl, rfl, d, c, l, 2 * size + 1, b + 1 + 2 * i, rfl, by omega, by omega, hS3, by omega, fun x1 H5 x10 x11 hS5 ch5 => ?_⟩
    refine ⟨.int size, k1, x1, size, rfl, rfl, ?_⟩
    refine ⟨.ref d, k0, .int size, k1, 2, size, rfl, rfl, .inl ⟨by omega, by omega⟩, 2 * size, 1, rfl, rfl, d, c, l, 2 * size + 1, b + 1 + 2 * i + 1, rfl, by omega, by omega, hS5, by omega, fun x2 H6 x20 x21 hS6 ch6 => ?_⟩
    refine ⟨.int size, k1, x2, size, rfl, rfl, _, _, rfl, ?_⟩
    have ch46 := ch5.trans ch6
    have hp6 : H6 p = some (.dT kvs) := ch46 _ _ hpk pd.1 pd.2
    have hd6 : DKV H6 kvs kv := hdk.mono (ch46.tp hS3)
    refine ⟨.ref p, ?_, .int (x1 - size), ?_, .int (x2 - size), ?_, by show 2 ≤ sizeLine; rw [sizeLine_eq]; omega, fun t ht => ?_⟩
    · rw [List.getElem?_set_ne (by decide), List.getElem?_set_ne (by decide)]; exact k3
    · rw [List.getElem?_set_ne (by decide), List.getElem?_set_self (by rw [List.length_set]; omega)]
    · rw [List.getElem?_set_self (by rw [List.length_set, List.length_set]; omega)]
    have s7 : Same H6 (upd H6 t (.tup [.int (x1 - size), .int (x2 - size)])) := same_new ht
    have hp7 := s7 _ _ hp6
    have hd7 : DKV _ kvs kv := hd6.mono (tp s7)
    refine ⟨p, _, rfl, DPut.t (k := kK (x1 - size, x2 - size)) hp7 upd_same ?_, ?_⟩
    · rw [dkv_len hdk, sizeLine_eq]
      omega
    have tm : Tp (upd H6 t (.tup [.int (x1 - size), .int (x2 - size)])) (upd (upd H6 t (.tup [.int (x1 - size), .int (x2 - size)])) p (.dT (putK kvs (kK (x1 - size, x2 - size)) (.bl true)))) := tp_mut hp7 fun _ z => by cases z
    refine ⟨by omega, by rw [List.length_set, List.length_set, List.length_set]; exact hlen, ?_, ?_, ?_, ⟨_, putP kv (x1 - size, x2 - size) (.bool true), upd_same, (dkv_put (.bl true) hd7).mono tm, putP_nodup nd, Nat.le_trans putP_len (by omega), fun q hq => ?_⟩, ?_, ?_⟩
    · rw [List.getElem?_set_ne (by decide), List.getElem?_set_ne (by decide)]; exact k0
    · rw [List.getElem?_set_ne (by decide), List.getElem?_set_ne (by decide)]; exact k1
    · rw [List.getElem?_set_ne (by decide), List.getElem?_set_ne (by decide)]; exact k3
    · rcases putP_mem hq with hq | hq
      · exact hrg q hq
      · subst hq
        dsimp only
        omega
    · obtain ⟨cs, ls, n, h1, h2, h3, h4, h5, h6, h7, h8, h9⟩ := hS6.same s7
      have n1 : d ≠ p := Ne.symm pd.1
      have n2 : l ≠ p := Ne.symm pd.2
      have n3 : c ≠ p := fun z => by rw [z, hp7] at h2; cases h2
      exact ⟨cs, ls, n, by rw [upd_ne n1]; exact h1, by rw [upd_ne n3]; exact h2, by rw [upd_ne n2]; exact h3, h4, h5, h6, h7, h8, by omega⟩
    · intro x o e m1 m2
      rw [upd_ne (ne_of_none e hp)]
      exact s7 _ _ (ch46 _ _ (ch3 _ _ e m1 m2) m1 m2)
  · have ei : i = r.toNat := by omega
    refine .inl ⟨by show r.toNat ≤ i; omega, ?_⟩
    refine ⟨.ref p, g3, p, kvs, kv, rfl, .inl hpk, hdk, fun q H7 s7 hq v7 => ?_⟩
    obtain ⟨q', vs, eq, hl, im⟩ := v7
    cases eq
    refine ⟨q, vs, rfl, .inl ⟨SqL.of hl, fun t ht => ?_⟩⟩
    have s8 : Same H7 (upd H7 t (.tup vs)) := same_new ht
    have s78 := s7.trans s8
    have hlen2 : ((isort ltP (kv.map (·.1))).length : Int) ≤ many := by
      rw [(isort_perm _).length_eq, List.length_map]
      omega
    exact hQ t _ (isort ltP (kv.map (·.1))) (.tup upd_same (ImAll.mono (tp s8) _ _ im)) (isort_asc nd) hlen2 (fun a ha => hrg a ((isort_perm _).mem_iff.mp ha)) ((hS3.same s78).le (by omega)) (ch3.trans (Chg.of s78))
end
end Al
set_option Elab.async false
set_option linter.all false
set_option maxRecDepth 100000
set_option maxHeartbeats 4000000
/-! Al, part L: law_as_all. -/
namespace Al
open PySem L2 Ai
abbrev s_law_as_all : Stmt := top 84
abbrev N_aa : List Str := ["_law_state", "_law_spots", "_law_least_so", "_law_sets_so", "_law_parts", "_law_spot", "_law_row"]
theorem sc_law_as_all : FnScope N_aa ["_law_state", "_law_spots"] (defScope s_law_as_all) := ⟨rfl, rfl, rfl, by decide +kernel, rfl, by decide +kernel, by decide +kernel⟩
/-- behind the drawing -/
def m_rest_as_all : Bk := (sSeq (sAsg 3 (eCall g_law_sets (aCons (eVar 1) (aCons (eVar 2) aNil)))) (sSeq (sAsg 4 (eCall gTuple (aCons (eComp (srcT (eVar 3)) [6] (bName 6) tTrue (eTup (aCons (eC (.str "least")) (aCons (eCall gTuple (aCons (eComp (srcT (eVar 6)) [5] (bName 5) tTrue (eTup (aCons (eC (.str "at")) (aCons (eVar 5) aNil)))) aNil)) aNil)))) aNil))) (sSeq (sIf (eB (eBin (gRel fGt) (eBin gAdd (eBin gMul (eCall gLen (aCons (eVar 3) aNil)) (eBin gAdd (eVar 2) (eC (.int 1)))) (eC (.int 1))) (eC (.int 20)))) (sRet (eC (.bool true))) sNext) (sRet (eBin (gIsB false) (eCall g_terms_alike (aCons (eTup (aCons (eC (.str "most")) (aCons (eVar 4) aNil))) (aCons (eTup (aCons (eC (.str "rank")) (aCons (eVar 2) (aCons (eVar 1) aNil)))) aNil))) (eC (.bool true)))))))
/-- the rest's environment -/
def envAA (spots : List Pl) (k : Int) : En := [none, some (.im (nD spots)), some (.im (.int k)), none, none, none, none]
theorem envAA_ok {H : Hp} {u v : V} {spots : List Pl} {k : Int} (h : Im H v (nD spots)) : EnOk H H [some u, some v, some (.int k), none, none, none, none] (envAA spots k) := by
  have no : ∀ (j : Nat) (es : List PyData), (envAA spots k)[j]? ≠ some (some (.ls true es)) := fun j es e => by
    match j, e with
    | 0, e => cases e
    | 1, e => cases e
    | 2, e => cases e
    | 3, e => cases e
    | 4, e => cases e
    | 5, e => cases e
    | 6, e => cases e
    | n + 7, e => simp [envAA] at e
  refine ⟨rfl, fun j x e => ?_, fun j ds l e _ => absurd e (no j ds), fun j m ds b es l e _ _ _ => absurd e (no j ds)⟩
  match j, e with
  | 0, e => cases e
  | 1, e => cases e; exact ⟨v, rfl, h⟩
  | 2, e => cases e; exact ⟨_, rfl, .int k⟩
  | 3, e => cases e
  | 4, e => cases e
  | 5, e => cases e
  | 6, e => cases e
  | n + 7, e => simp [envAA] at e
def spAsAll : Sp := fun vs H Q _ => ∃ d c l b v spots, vs = [.ref d, v] ∧ Im H v (nD spots) ∧ 1 ≤ spots.length ∧ spots.length ≤ 100 ∧ StA H d c l b ∧ b ≤ 1000 ∧ (∀ k : Nat, k < spots.length → m_rest_as_all (envAA spots (1 + (k : Int))) = some (.rt (.im (.bool true)))) ∧
  ∀ H', StA H' d c l (b + 1) → Chg d l H H' → Q (.bl true) H'
section
variable {P : Program} {w : World} {K : PySem.W.Frag} {mg : Str → Option Value} {base : Heap}
theorem ok_law_as_all (B : Bi mg) (D_law_draw : DS P w K mg base 3 "_law_draw" spDraw) (D_law_sets : DG P w K mg base 3 "_law_sets" g_law_sets) (D_terms_alike : DG P w K mg base 10 "terms_alike" g_terms_alike) {f : Addr} {fd : FuncData} (F : Fun K "_law_as_all" "_law_as_all" s_law_as_all f fd) : FnOk P w K mg base CX0 11 f fd ["_law_state", "_law_spots"] spAsAll := by
  have S := sc_law_as_all
  obtain ⟨g, gd, gp, G, gm, gk, gb⟩ := D_law_draw.ex
  refine F.ok S (fun vs H Q E ⟨d, c, l, b, v, spots, h, _⟩ => by rw [h]; rfl) fun cdv A outer s H vs Q E hr h => ?_
  refine ⟨_, pss_cons (ps_set (i := 2) S.nd rfl (Or.inl rfl) (pe_op op_add pe_int (pe_call (E := E0) G (hr.mono (by omega)) rfl gm gk gb .nil pass0 (pa_cons (pv 0) (pa_cons (pe_callB call_len_seq rfl B.len PySem.boot_len (pa_cons (pv 1) pa_nil)) pa_nil)))))
    (show PSs _ _ (tS m_rest_as_all) from (s_cons (s_asg (ps_set (i := 3) S.nd rfl (by first | exact Or.inl rfl | exact Or.inr rfl) (d_fn D_law_sets hr (by omega) rfl (a_cons (d_var 1 (pv 1)) (a_cons (d_var 2 (pv 2)) a_nil))))) (s_cons (s_asg (ps_set (i := 4) S.nd rfl (by first | exact Or.inl rfl | exact Or.inr rfl) (d_tupleOf rfl B.tuple (a_cons (d_comp (own := [("_law_row", 6)]) rfl S.nd (i_c (i_tup (d_var 3 (pv 3)))) (blkOk_by (N := N_aa) (sc := defScope s_law_as_all) (by decide +kernel)) (fun _ _ _ _ _ => (g_name (pg_name (i := 6) S.nd rfl (by first | exact Or.inl rfl | exact Or.inr rfl)))) (fun _ _ _ _ _ => pts_nilD) (fun _ _ _ _ _ => (d_tup (a_cons d_str (a_cons (d_tupleOf rfl B.tuple (a_cons (d_comp (own := [("_law_spot", 5)]) rfl S.nd (i_c (i_tup (d_var 6 (pv 6)))) (blkOk_by (N := N_aa) (sc := { kind := .function, names := [(".0", .local), ("_law_row", .local), ("tuple", .globalImplicit)], isGenerator := false, isCoroutine := false, more := [] }) (by decide +kernel)) (fun _ _ _ _ _ => (g_name (pg_name (i := 5) S.nd rfl (by first | exact Or.inl rfl | exact Or.inr rfl)))) (fun _ _ _ _ _ => pts_nilD) (fun _ _ _ _ _ => (d_tup (a_cons d_str (a_cons (d_var 5 (pv 5)) a_nil))))) a_nil)) a_nil))))) a_nil)))) (s_cons (s_if (t_gt (hu100 hr) (d_add (d_mul (d_len rfl B.len (a_cons (d_var 3 (pv 3)) a_nil)) (d_add (d_var 2 (pv 2)) d_int)) d_int) d_int) (s_one (s_ret d_bool)) s_nil) (s_one (s_ret (d_isB (d_fn D_terms_alike hr (by omega) rfl (a_cons (d_tup (a_cons d_str (a_cons (d_var 4 (pv 4)) a_nil))) (a_cons (d_tup (a_cons d_str (a_cons (d_var 2 (pv 2)) (a_cons (d_var 1 (pv 1)) a_nil)))) a_nil))) d_bool))))))), ?_⟩
  obtain ⟨d, c, l, b, v, spots, rfl, hv, n0, n1, hS, hb, hrest, hQ⟩ := h
  obtain ⟨a, xs, rfl, ha, im⟩ := Im.tupInv hv
  have hlen : xs.length = spots.length := by rw [im.len, List.length_map]
  refine ⟨.ref d, rfl, .ref a, rfl, a, xs, rfl, .inr (SqT.of ha), d, c, l, ((xs.length : Nat) : Int), b, rfl, by omega, by omega, hS, hb, fun r H2 r0 r1 hS2 ch2 => ⟨1, r, rfl, rfl, ?_⟩⟩
  obtain ⟨k, rfl⟩ := Int.eq_ofNat_of_zero_le r0
  refine ⟨H2, _, _, Same.refl H2, envAA_ok (Im.mono (ch2.tp hS) _ _ hv), hrest k (by omega), fun u H3 s3 v3 _ => ?_⟩
  cases (Im.boolInv v3)
  exact hQ H3 (hS2.same s3) (ch2.trans (Chg.of s3))
end
end Al
set_option Elab.async false
set_option linter.all false
set_option maxRecDepth 100000
set_option maxHeartbeats 4000000
/-! Al, part M: law. -/
namespace Al
open PySem L2 Ai
abbrev s_law : Stmt := top 86
abbrev N_law : List Str := ["_law_script", "_law_state", "_law_turn", "_law_spots"]
theorem sc_law : FnScope N_law ["_law_script"] (defScope s_law) := ⟨rfl, rfl, rfl, by decide +kernel, rfl, by decide +kernel, by decide +kernel⟩
def Within2 (n : Int) (ps : List Pl) : Prop := ∀ p ∈ ps, (-n ≤ p.1 ∧ p.1 ≤ n) ∧ -n ≤ p.2 ∧ p.2 ≤ n
/-- the plain law: what the defs compute answers as is asked -/
structure PlainLaw : Prop where
  right : ∀ spots marks : List Pl, AscP spots → 1 ≤ spots.length → spots.length ≤ 6 → Within2 2 spots → AscP marks → marks.length ≤ 10 → Within2 3 marks → g_law_right [.im (nD spots), .im (nD marks)] = some (.im (.bool true))
  asall : ∀ spots : List Pl, AscP spots → 1 ≤ spots.length → spots.length ≤ 6 → Within2 2 spots → ∀ k : Nat, k < spots.length → m_rest_as_all (envAA spots (1 + (k : Int))) = some (.rt (.im (.bool true)))
theorem tabs_chg {T : List (Addr × Str)} {H H' : Hp} {d c l : Addr} {b : Int} (t : LamX.Tabs T H) (s : StA H d c l b) (e : Chg d l H H') : LamX.Tabs T H' := fun p hp => by
  obtain ⟨cs, ls, n, q1, q2, q3, _⟩ := s
  obtain ⟨ps, h1, h2, h3⟩ := t p hp
  refine ⟨ps, e _ _ h1 (fun z => by rw [z, q1] at h1; cases h1) (fun z => by rw [z, q3] at h1; cases h1), h2, fun pos cv hc => ?_⟩
  obtain ⟨c0, e1, e2⟩ := h3 pos cv hc
  refine ⟨c0, e1, e _ _ e2 (fun z => ?_) fun z => ?_⟩
  · rw [z, q1] at e2
    have e2 : some (HO.dK _) = some (HO.ext _) := e2
    cases e2
  · rw [z, q3] at e2
    have e2 : some (HO.lst _) = some (HO.ext _) := e2
    cases e2
def spLaw (K : PySem.W.Frag) (T : List (Addr × Str)) : Sp := fun vs H Q _ => ∃ (a : Addr) (ns : List Int), vs = [.ref a] ∧ SqL K H a (ns.map V.int) ∧ ns.length ≤ 100 ∧ LamX.Tabs T H ∧ ∀ H', Q (.bl true) H'
/-- a def that may be called where no text is being made, by its promise -/
structure DSG (P : Program) (w : World) (K : PySem.W.Frag) (mg : Str → Option Value) (base : Heap) (k : Nat) (x : Str) (sp : Sp) : Prop where
  ex : ∃ f fd ps, FnG P w K mg base CX0 k f fd ps sp ∧ mg x = some (.ref f) ∧ PySem.W.keepIn K (.ref f) = true ∧ Binds K fd ps []
section
variable {P : Program} {w : World} {K : PySem.W.Frag} {mg : Str → Option Value} {base : Heap}
theorem shaped_nD (n : List Pl) : SeqAt.shaped (nD n) = true := by
  unfold SeqAt.shaped
  rw [lay_nD, Bool.true_and]
  have := depth_nD n
  exact decide_eq_true (by omega)
theorem ok_law (PL : PlainLaw) (B : Bi mg) {T : List (Addr × Str)} (D_begin : DS P w K mg base 2 "_law_begin" (spBegin K)) (D_marks : DS P w K mg base 4 "_law_marks" spMarks) (D_right : DSG P w K mg base 11 "_law_right" (spG g_law_right)) (D_asall : DS P w K mg base 11 "_law_as_all" spAsAll) (D_twelve : DSG P w K mg base 14 "_law_twelve" (spTw T))
    {f : Addr} {fd : FuncData} (F : Fun K "law" "law" s_law f fd) : FnG P w K mg base CX0 15 f fd ["_law_script"] (spLaw K T) := by
  have S := sc_law
  obtain ⟨f1, d1, p1, F1, m1, k1, b1⟩ := D_begin.ex
  obtain ⟨f2, d2, p2, F2, m2, k2, b2⟩ := D_marks.ex
  obtain ⟨f3, d3, p3, F3, m3, k3, b3⟩ := D_right.ex
  obtain ⟨f4, d4, p4, F4, m4, k4, b4⟩ := D_asall.ex
  obtain ⟨f5, d5, p5, F5, m5, k5, b5⟩ := D_twelve.ex
  refine fng_of F S (fun vs H Q E ⟨a, ns, h, _⟩ => by rw [h]; rfl) fun cdv ecd A outer s0 H vs Q E hA hr h => ?_
  refine ⟨_, PSs.nox (X := cxOf CX0 P w K mg base N_law "law" (defScope s_law) f cdv A outer s0 H E) (
    pss_cons (ps_set (i := 1) S.nd rfl (Or.inl rfl) (pe_call (E := E0) F1 (hr.mono (by omega)) rfl m1 k1 b1 .nil pass0 (pa_cons (pv 0) pa_nil)))
    (pss_cons (ps_for PassesOwn.never rfl (pi_range1 rfl B.range (pa_cons pe_int pa_nil)) (pg_name (i := 2) S.nd rfl (Or.inl rfl))
      (pss_cons (ps_set (i := 3) S.nd rfl (Or.inl rfl) (pe_call (E := E0) F2 (hr.mono (by omega)) rfl m2 k2 b2 .nil pass0 (pa_cons (pv 1) (pa_cons pe_int (pa_cons pe_int pa_nil)))))
      (pss_one (ps_if (pt_cmpR (op_neD (hu64 hr)) (pv 3) (pe_tup pa_nil) (nomark _))
        (pss_one (ps_if (PW.pt (pw_or (pt_not (pt_val (pe_callG (E := E0) F3 hA (hr.mono (by omega)) rfl m3 k3 b3 .nil pass0 (pa_cons (pv 3) (pa_cons (pe_call (E := E0) F2 (hr.mono (by omega)) rfl m2 k2 b2 .nil pass0 (pa_cons (pv 1) (pa_cons pe_int (pa_cons pe_int pa_nil)))) pa_nil)))))
            (pw_or1 (pt_not (pt_val (pe_call (E := E0) F4 (hr.mono (by omega)) rfl m4 k4 b4 .nil pass0 (pa_cons (pv 1) (pa_cons (pv 3) pa_nil)))))))) (pss_one (ps_ret pe_bl)) pss_nil)) pss_nil))))
    (pss_one (ps_ret (pe_callG0 (E := E0) F5 hA (hr.mono (by omega)) rfl m5 k5 b5 .nil pass0))))), ?_⟩
  obtain ⟨a, ns, rfl, ha, hn, hT, hQ⟩ := h
  refine ⟨.ref a, rfl, a, ns, rfl, ha, hn, fun d c l H1 s1 hS => ?_⟩
  refine ⟨2, rfl, by decide, by decide, fun i m σ H' => m = 2 - i ∧ i ≤ 2 ∧ σ.length = 4 ∧ σ[1]? = some (some (.ref d)) ∧ StA H' d c l (40 * i) ∧ LamX.Tabs T H', ⟨_, rfl, by omega, rfl, rfl, hS.le (by omega), hT.ext s1⟩, ?_⟩
  rintro i m σ H2 ⟨rfl, hi, hlen, g1, hS2, hT2⟩
  by_cases hlt : i < 2
  · refine .inr ⟨hlt, fun σ H' => i + 1 ≤ 2 ∧ σ.length = 4 ∧ σ[1]? = some (some (.ref d)) ∧ StA H' d c l (40 * (i + 1 : Nat)) ∧ LamX.Tabs T H', fun σ' H' n => ⟨2 - (i + 1), by omega, rfl, n⟩, fun x H3 y => ?_⟩
    obtain ⟨e3, y⟩ := y
    subst e3 y
    have k1' : (σ.set 2 (some (V.int (0 + (i : Int)))))[1]? = some (some (.ref d)) := by rw [List.getElem?_set_ne (by decide)]; exact g1
    refine ⟨.ref d, k1', d, c, l, 2, 6, _, rfl, by omega, by omega, by omega, by omega, hS2, by omega, by omega, fun t H4 spots im asc hl6 hr2 hS4 ch4 => ?_⟩
    have hT4 := tabs_chg hT2 hS2 ch4
    have w1 : ((σ.set 2 (some (V.int (0 + (i : Int))))).set 3 (some (V.ref t)))[1]? = some (some (.ref d)) := by rw [List.getElem?_set_ne (by decide)]; exact k1'
    have w3 : ((σ.set 2 (some (V.int (0 + (i : Int))))).set 3 (some (V.ref t)))[3]? = some (some (.ref t)) := List.getElem?_set_self (by rw [List.length_set]; omega)
    have wl : ((σ.set 2 (some (V.int (0 + (i : Int))))).set 3 (some (V.ref t))).length = 4 := by rw [List.length_set, List.length_set]; exact hlen
    refine ⟨.ref t, w3, Nat.zero_le _, fun p hp => ?_⟩
    have s5 : Same H4 (upd H4 p (.tup [])) := same_new hp
    have im5 := Im.mono (tp s5) _ _ im
    refine ⟨nD spots, .tuple [], Im.dp _ _ im5, .tup (SqT.of upd_same) .nil, shaped_nD _, rfl, _, rfl, ?_⟩
    have fin : ∀ H', StA H' d c l (40 * (i : Int) + 40) → LamX.Tabs T H' → i + 1 ≤ 2 ∧ ((σ.set 2 (some (V.int (0 + (i : Int))))).set 3 (some (V.ref t))).length = 4 ∧ ((σ.set 2 (some (V.int (0 + (i : Int))))).set 3 (some (V.ref t)))[1]? = some (some (.ref d)) ∧ StA H' d c l (40 * (i + 1 : Nat)) ∧ LamX.Tabs T H' :=
      fun H' h1 h2 => ⟨by omega, wl, w1, h1.le (by omega), h2⟩
    cases spots with
    | nil => exact iteF (fin _ ((hS4.same s5).le (by omega)) (hT4.ext s5))
    | cons q qs =>
      refine iteT ?_
      have n1 : 1 ≤ (q :: qs).length := by simp
      refine ⟨.ref t, w3, .ref d, w1, d, c, l, 3, 10, _, rfl, by omega, by omega, by omega, by omega, hS4.same s5, by omega, by omega, fun t2 H6 marks im2 asc2 hl10 hr3 hS6 ch6 => ?_⟩
      have hT6 := tabs_chg (hT4.ext s5) (hS4.same s5) ch6
      have im6 := Im.mono (ch6.tp (hS4.same s5)) _ _ im5
      refine ⟨[.im (nD (q :: qs)), .im (nD marks)], _, .cons im6 (.cons im2 .nil), PL.right (q :: qs) marks asc n1 (by omega) hr2 asc2 (by omega) hr3, fun v H7 s7 v7 _ => ⟨true, Im.boolInv v7, ?_⟩⟩
      refine iteF ?_
      refine ⟨.ref d, w1, .ref t, w3, d, c, l, _, .ref t, q :: qs, rfl, Im.mono (tp s7) _ _ im6, n1, by omega, hS6.same s7, by omega, fun k hk => PL.asall (q :: qs) asc n1 (by omega) hr2 k hk, fun H8 hS8 ch8 => ⟨true, rfl, ?_⟩⟩
      refine iteF ?_
      exact fin _ (hS8.le (by omega)) (tabs_chg (hT6.ext s7) (hS6.same s7) ch8)
  · have ei : i = 2 := by omega
    subst ei
    exact .inl ⟨Nat.le_refl _, rfl, hT2, fun H' => hQ H'⟩
end
end Al
set_option Elab.async false
set_option linter.all false
set_option maxRecDepth 100000
set_option maxHeartbeats 4000000
/-! Ai, part Q: the law's end where texts are made and one table of code objects is written. -/
namespace Ai
open PySem PySem.Spec PyProof.Rows L2
abbrev tabO : Obj := { cls := .none, data := .fields #[] }
abbrev scrO (vs : List Value) : Obj := { cls := .type "list", data := .seq vs.toArray }
/-- what the law starts with: the table at T, the script at a where the written part does not hold it -/
def hp0 (K : PySem.W.Frag) (a T : Addr) (o : Obj) (us : List V) : Hp := fun b => if b = T then some (.tbl #[]) else if b = a ∧ (K.lookup a).isNone = true then some (.frz o (.lst us)) else none
section
variable {K : PySem.W.Frag} {a T b : Addr} {o : Obj} {us : List V} {u : HO}
theorem hp0_T : hp0 K a T o us T = some (.tbl #[]) := if_pos rfl
theorem hp0_a (n : a ≠ T) (h : K.lookup a = none) : hp0 K a T o us a = some (.frz o (.lst us)) := by
  unfold hp0
  rw [if_neg n, if_pos ⟨rfl, by rw [h]; rfl⟩]
theorem hp0_some (h : hp0 K a T o us b = some u) : (b = T ∧ u = .tbl #[]) ∨ (b = a ∧ b ≠ T ∧ K.lookup a = none ∧ u = .frz o (.lst us)) := by
  unfold hp0 at h
  by_cases hT : b = T
  · rw [if_pos hT] at h
    exact .inl ⟨hT, (Option.some.inj h).symm⟩
  · rw [if_neg hT] at h
    by_cases ha : b = a ∧ (K.lookup a).isNone = true
    · rw [if_pos ha] at h
      exact .inr ⟨ha.1, hT, Option.isNone_iff_eq_none.mp ha.2, (Option.some.inj h).symm⟩
    · rw [if_neg ha] at h
      cases h
theorem hp0_none (n1 : b ≠ T) (n2 : b = a → K.lookup a ≠ none) : hp0 K a T o us b = none := by
  cases q : hp0 K a T o us b with
  | none => rfl
  | some u =>
    rcases hp0_some q with ⟨e, _⟩ | ⟨e, _, h, _⟩
    · exact absurd e n1
    · exact absurd h (n2 e)
end
section
variable {P : Program} {w : World} {K : PySem.W.Frag} {mg mb : Str → Option Value} {k : Nat} {fa a c T : Addr} {fd : FuncData} {x : Str} {sp : Sp} {s₁ : Shared} {vs : List Value} {ns : List Int}
theorem law_end (KX : K.In s₁.heap) (hns : s₁.heap.Ns mainGlobals mg) (hb : s₁.heap.Ns builtinsNs mb) (hbb : ∀ x : Str, x ≠ "__name__" → mb x = bootBuiltins x) (hlim : s₁.heap.NoLimit) (hg : s₁.gens = #[])
    (hT : s₁.heap.get? T = some tabO) (nT : K.lookup T = none) (hC : PySem.W.CodeHd s₁.heap c T)
    (hbm : ∃ (bm : Addr) (ob : Obj), mg "__builtins__" = some (.ref bm) ∧ bm ≠ builtinsNs ∧ s₁.heap.get? bm = some ob ∧ ob.cls = .type "module" ∧ ob.dict = some builtinsNs ∧ ob.data = .plain)
    (ha : s₁.heap.get? a = some (scrO vs)) (hi : IntsAre vs ns) (hl : ns.length ≤ sizeLine) (hr : Room k callerA)
    (F : ∀ base : Heap, K.In base → base.Ns mainGlobals mg → LamX.TabB base mg c T → FnG P w K mg base CX0 k fa fd [x] sp) (hbind : ∀ (s : Shared) (u : Value), BindsTo s fd ⟨[u], []⟩ [(x, u)])
    (hsp : ∀ H : Hp, H T = some (.tbl #[]) → SqL K H a (ns.map V.int) → sp [.ref a] H (fun v _ => v = .bl true) fun _ _ _ => False) :
    codeAny (model P w) callerA (.call (.ref fa) ⟨[.ref a], []⟩) (fun r s' => r = .ok (.ret (.bool true)) ∧ OldK s₁.heap s'.heap ∧ s'.os = s₁.os ∧ AllBare s'.gens) s₁ := by
  have rv : Vals (ns.map V.int) vs := vals_ints hi
  have vl : vs.length = ns.length := hi.length
  have aT : a ≠ T := by
    intro z
    rw [z, hT] at ha
    cases (congrArg Obj.data (Option.some.inj ha))
  -- the start
  obtain ⟨H, eH⟩ : ∃ H, H = hp0 K a T (scrO vs) (ns.map V.int) := ⟨_, rfl⟩
  have HT : H T = some (.tbl #[]) := by rw [eH]; exact hp0_T
  have Hs : ∀ {b u}, H b = some u → (b = T ∧ u = .tbl #[]) ∨ (b = a ∧ b ≠ T ∧ K.lookup a = none ∧ u = .frz (scrO vs) (.lst (ns.map V.int))) := fun {b u} h => by rw [eH] at h; exact hp0_some h
  have lenU : (ns.map V.int).length ≤ sizeLine := by rw [List.length_map]; exact hl
  have hS : SqL K H a (ns.map V.int) := by
    cases q : K.lookup a with
    | none => exact .inl (.inr ⟨scrO vs, by rw [eH]; exact hp0_a aT q⟩)
    | some o =>
      have e := KX a o q
      rw [ha] at e
      cases e
      exact .inr ⟨_, vs.toArray, _, q, rfl, rfl, rfl, by rw [List.size_toArray, vl]; exact hl, by simpa using rv⟩
  have hok : HOk P w H s₁.heap := fun b u h => by
    rcases Hs h with ⟨rfl, rfl⟩ | ⟨rfl, _, _, rfl⟩
    · exact hT
    · exact ⟨ha, lenU, vs, _, rv, ha⟩
  -- what is neither stands in the ground
  have free : ∀ {b ob}, s₁.heap.get? b = some ob → ob.data ≠ .fields #[] → (∀ us n, ob.data ≠ .seq us n) → H b = none := fun {b ob} e n1 n2 => by
    cases q : H b with
    | none => rfl
    | some u =>
      rcases Hs q with ⟨rfl, _⟩ | ⟨rfl, _⟩
      · rw [hT] at e
        cases e
        exact absurd rfl n1
      · rw [ha] at e
        cases e
        exact absurd rfl (n2 _ _)
  have ground : ∀ {b ob}, s₁.heap.get? b = some ob → ob.data ≠ .fields #[] → (∀ us n, ob.data ≠ .seq us n) → (hidT s₁.heap H).get? b = some ob := fun {b ob} e n1 n2 => hidT_get e (free e n1 n2)
  have nsG : ∀ {b m}, s₁.heap.Ns b m → (hidT s₁.heap H).Ns b m := fun {b m} ⟨ob, es, ep, e, d, r⟩ => ⟨ob, es, ep, ground e (fun z => by rw [d] at z; cases z) (fun us n z => by rw [d] at z; cases z), d, r⟩
  have kin : K.In (hidT s₁.heap H) := fun b ob e => by
    refine hidT_get (KX b ob e) ?_
    cases q : H b with
    | none => rfl
    | some u =>
      rcases Hs q with ⟨rfl, _⟩ | ⟨rfl, _, z, _⟩
      · rw [nT] at e; cases e
      · rw [z] at e; cases e
  have md : L2.Mod K mg (hidT s₁.heap H) := by
    obtain ⟨mc, l1, l2⟩ := hlim
    exact ⟨kin, nsG hns, ⟨mb, nsG hb, hbb⟩, ⟨mc, nsG l1, l2⟩⟩
  obtain ⟨og, eg, pg, gg, dg, rg⟩ := id hns
  have TB : LamX.TabB (hidT s₁.heap H) mg c T := by
    refine ⟨?_, ?_, fun z => by rw [z, hT] at gg; cases gg; cases dg⟩
    · obtain ⟨oc, us, file, tf, fl, tg, inF, text, tt, e1, e2, e3, e4, r⟩ := hC
      refine ⟨oc, us, file, tf, fl, tg, inF, text, tt, ground e1 (fun z => ?_) (fun us n z => ?_), e2, e3, e4, r⟩
      · rw [e3] at z
        cases z
        simp at e4
      · rw [e3] at z
        cases z
    · obtain ⟨bm, ob, b1, b2, b3, b4, b5, b6⟩ := hbm
      refine ⟨bm, ob, b1, b2, fun z => ?_, fun z => ?_, ground b3 (fun z => by rw [b6] at z; cases z) (fun us n z => by rw [b6] at z; cases z), b4, b5, b6⟩
      · rw [z, gg] at b3
        cases b3
        rw [dg] at b6
        cases b6
      · rw [z, hT] at b3
        cases b3
        cases b6
  have e0 : Env0 P w K mg (hidT s₁.heap H) callerA [] s₁ H := ⟨rfl, md, fun b ob e => of_hidT e, Nat.le_of_eq (hidT_size _ _), trivial, (fun b hb => by cases hb), hok, .of_eq hg⟩
  -- the call
  refine codeAny_mono ((F _ kin (nsG hns) TB).told callerA rfl [] s₁ H ⟨[.ref a], []⟩ [.ref a] [.ref a] _ _ hr e0 (hbind s₁ (.ref a)) (.cons rfl .nil) (hsp H HT hS)) fun r s' h => ?_
  cases r with
  | error e => exact False.elim h
  | ok fl =>
    cases fl with
    | next => exact False.elim h
    | brk => exact False.elim h
    | cont => exact False.elim h
    | ret u =>
      obtain ⟨v, H', os, bare, un, hok', ru, ev⟩ := h
      have ev : v = .bl true := ev
      subst ev
      obtain rfl : u = Value.bool true := ru
      obtain ⟨more, hm⟩ := un.tbls T #[] HT
      have hT' : s'.heap.get? T = some { cls := .none, data := .fields (#[] ++ more) } := hok' T _ hm
      have kept : ∀ b ob, b ≠ T → s₁.heap.get? b = some ob → s'.heap.get? b = some ob := fun b ob n e => by
        cases q : H b with
        | none => exact un.keep b ob e q (by intro z; cases z) (by intro z; cases z)
        | some u =>
          rcases Hs q with ⟨z, _⟩ | ⟨_, _, _, rfl⟩
          · exact absurd z n
          · obtain ⟨e1, _⟩ := hok b _ q
            obtain ⟨e2, _⟩ := hok' b _ (un.frzs b _ _ q)
            rw [e] at e1
            cases e1
            exact e2
      refine ⟨rfl, ⟨fun b ob e => ?_, fun b ob e => ?_⟩, os, bare⟩
      · by_cases hbT : b = T
        · subst hbT
          rw [hT] at e
          cases e
          exact .inr (.inl ⟨(hC.tab (ps := #[]) hT).isCodeTable, rfl, #[], more, rfl, hT'⟩)
        · exact .inl (kept b ob hbT e)
      · by_cases hbT : b = T
        · rw [hbT]
          exact ⟨_, hT'⟩
        · exact ⟨ob, kept b ob hbT e⟩
end
theorem walk_end {l : PySem.W.OpenLaw} {n k : Nat} {q : Program} {loose : List Str} {XP : (Str → Option Value) → Heap → Prop} {YP : World → Heap → Prop} {d : DefRec} {x : Str}
    (hn : l.most = some n) (hn2 : n ≤ sizeLine) (hdf : d.params.defaults = []) (hr : Room k callerA)
    (F : ∀ (w : World) (mg : Str → Option Value) (fa : Addr) (h : Heap), YP w h → h.Ns mainGlobals mg → mg d.name = some (.ref fa) →
      ∃ (K : PySem.W.Frag) (fd : FuncData) (c T : Addr) (sp : Sp), K.In h ∧ h.get? T = some tabO ∧ K.lookup T = none ∧ PySem.W.CodeHd h c T ∧ (∀ (s : Shared) (u : Value), BindsTo s fd ⟨[u], []⟩ [(x, u)]) ∧
        (∀ (H : Hp) (a : Addr) (ns : List Int), ns.length ≤ n → H T = some (.tbl #[]) → SqL K H a (ns.map V.int) → sp [.ref a] H (fun v _ => v = .bl true) fun _ _ _ => False) ∧
        ∀ base : Heap, K.In base → base.Ns mainGlobals mg → LamX.TabB base mg c T → FnG l.prog w K mg base CX0 k fa fd [x] sp) :
    PySem.W.WalkO q loose XP YP l.row.toRowW d [] (fun f vs => PySem.call f vs) :=
  Att.attach_callB hn hdf fun w s₀ s₁ mg mb fa o pm cd doc a vs ns G Y ho hd hcd hmg hobj hints hlen _ hg => by
    obtain ⟨K, fd, c, T, sp, KX, hT, nT, hC, hb, hsp, hF⟩ := F w mg fa _ Y G.T.g hmg
    exact law_end KX G.T.g G.T.b G.T.builtins G.T.nolimit hg hT nT hC G.T.bmain hobj hints (Nat.le_trans hlen hn2) hr hF hb fun H hH hS => hsp H a ns hlen hH hS
end Ai
set_option Elab.async false
set_option linter.all false
set_option maxRecDepth 100000
set_option maxHeartbeats 0
/-! Al, part N: the head: what stands behind the top. -/
namespace Al
open PySem PySem.Spec PyProof.Rows L2 Ai
def dd (x : Str) (i : Nat) : He.DefD := ⟨(x, none), x, x, defArgs (top i), defBody (top i), defScope (top i), [], []⟩
def fa0 : List He.Fa := [.glo "is_from", .glo "is_pair_from", .glo "is_place", .glo "taken_off", .glo "is_island", .glo "need_island", .glo "is_need", .glo "odd_set", .glo "has_all", .glo "need_rule", .glo "holds_one", .glo "least_of", .glo "counted", .glo "is_lesser", .glo "joined_need", .glo "either_so", .glo "both_so", .glo "bars_so", .glo "is_spread", .glo "has_form", .glo "parts_of", .glo "need_term", .glo "need_spread", .glo "grown", .glo "eaten", .glo "chosen_sets", .glo "count_sets", .glo "rank_rule", .glo "rule_so", .glo "joined_rules"]
def fa1 : List He.Fa := [.glo "term_rule", .glo "terms_alike", .glo "check_again", .glo "_law_mixed", .glo "_law_subsets", .glo "_law_sets", .glo "table_of", .glo "check_odd", .glo "ranked_picture", .glo "picture_behind", .glo "term_stepped", .glo "_law_counted_marks", .glo "_law_like", .glo "_law_right", .glo "_law_refusal", .glo "_law_twelve", .glo "_law_begin", .glo "_law_draw", .glo "_law_marks", .glo "_law_as_all", .glo "law", .glo "TooGreat", .glo "BadTerm", .glo "BadRule", .glo "BadIsland", .free "isinstance", .free "int", .free "bool", .free "str", .free "tuple"]
def fa2 : List He.Fa := [.free "list", .free "set", .free "len", .free "sorted", .free "zip", .free "range", .free "enumerate", .free "repr", .free "super", .int "MOST_PLACE" 1000000000, .int "MOST_MARKS" 400, .int "MOST_NEEDS_rules" 60, .int "MOST_PLACES" 12, .int "MOST_SIZE" 20, .int "MOST_DEEP" 6, .int "MOST_PARTS" 20, .int "MOST_TERMS" 60, .int "MOST_TIMES" 1000000000000000000000000000000, .int "MOST_SPREAD" 12, .int "MOST_NEAR" 20, .int "MOST_NEEDS_termwork" 60, .int "MOST_STEPS" 60, .exm "TooGreat" "BadTerm" false, .exm "TooGreat" "BadRule" false, .exm "TooGreat" "BadIsland" false, .exm "TooGreat" "TooGreat" true, .noat "TooGreat" "most"]
def faL : List He.Fa := fa0 ++ fa1 ++ fa2
def fn0 : List He.DefD := [dd "is_from" 9, dd "is_pair_from" 10, dd "is_place" 11, dd "taken_off" 13, dd "is_island" 16, dd "need_island" 17, dd "is_need" 23, dd "odd_set" 24, dd "has_all" 25, dd "need_rule" 26, dd "holds_one" 29, dd "least_of" 27, dd "counted" 28, dd "is_lesser" 30, dd "joined_need" 32, dd "either_so" 33, dd "both_so" 34, dd "bars_so" 38, dd "is_spread" 46, dd "has_form" 47, dd "parts_of" 48, dd "need_term" 49, dd "need_spread" 50, dd "grown" 51, dd "eaten" 52, dd "chosen_sets" 56, dd "count_sets" 57, dd "rank_rule" 58, dd "rule_so" 61, dd "joined_rules" 60]
def fn1 : List He.DefD := [dd "term_rule" 62, dd "terms_alike" 72, dd "check_again" 63, dd "_law_mixed" 74, dd "_law_subsets" 78, dd "_law_sets" 82, dd "table_of" 64, dd "check_odd" 65, dd "ranked_picture" 68, dd "picture_behind" 70, dd "term_stepped" 71, dd "_law_counted_marks" 81, dd "_law_like" 79, dd "_law_right" 83, dd "_law_refusal" 80, dd "_law_twelve" 85, dd "_law_begin" 75, dd "_law_draw" 76, dd "_law_marks" 77, dd "_law_as_all" 84, dd "law" 86]
def fnL : List He.DefD := fn0 ++ fn1
def ln0 : List Str := ["IslandError", "BadIsland", "BadRule", "BadTerm", "NoRow", "TooGreat", "MOST_PLACE", "is_from", "is_pair_from", "is_place", "added", "taken_off", "MOST_MARKS", "is_island", "need_island", "MOST_NEEDS_rules", "MOST_PLACES", "MOST_SIZE", "STILL", "is_need", "odd_set", "has_all", "need_rule", "least_of", "counted", "holds_one", "is_lesser", "moved_need", "joined_need", "either_so", "both_so", "behind_so"]
def ln1 : List Str := ["power_so", "bars_so", "MOST_DEEP", "MOST_PARTS", "MOST_TERMS", "MOST_TIMES", "MOST_SPREAD", "MOST_NEAR", "is_spread", "has_form", "parts_of", "need_term", "need_spread", "grown", "eaten", "MOST_NEEDS_termwork", "MOST_STEPS", "chosen_sets", "count_sets", "rank_rule", "power_rule", "joined_rules", "rule_so", "term_rule", "check_again", "table_of", "check_odd", "turned_picture", "any_picture", "ranked_picture", "joined_picture", "picture_behind"]
def ln2 : List Str := ["term_stepped", "terms_alike", "_law_mixed", "_law_begin", "_law_draw", "_law_marks", "_law_subsets", "_law_like", "_law_refusal", "_law_counted_marks", "_law_sets", "_law_right", "_law_as_all", "_law_twelve"]
def looseL : List Str := ln0 ++ ln1 ++ ln2
/-- the __init__ of TooGreat -/
def tgInit : Stmt := match top 6 with
  | .ClassDef (body := b) .. => b.getD 0 (.Pass ⟨0, 0, 0, 0⟩)
  | _ => .Pass ⟨0, 0, 0, 0⟩
def aC (K : PySem.W.Frag) : Addr := He.ga K "TooGreat"
def aI (K : PySem.W.Frag) : Addr := He.ma K (aC K) "__init__"
/-! ### the class -/
def clsB (K : PySem.W.Frag) (C : Addr) : Bool := match K.lookup C with
  | some ⟨.type t, _, .cls cd, sl⟩ => (match cd.mro, sl.toList with
    | .ref C' :: bm, [_, _, _, _, some (.builtin n), _] => decide (t = "type") && decide (C' = C) && decide (n = "ValueError.__new__") && !cd.hasDel && cd.hasDict && PySem.HandSPX.refsVE bm
    | _, _ => false)
  | _ => false
theorem clsB_ok {K : PySem.W.Frag} {C : Addr} (h : clsB K C = true) : ∃ nm q N bs bm sn sub ab col dd k0 k1 k2 k3 k5, K.lookup C = some (excClassObj nm q C N bs bm true sn sub ab col dd k0 k1 k2 k3 k5 "ValueError.__new__") ∧ PySem.HandSPX.refsVE bm = true := by
  unfold clsB at h
  split at h
  · rename_i t od cd sl e
    split at h
    · rename_i C' bm k0 k1 k2 k3 n k5 hm hs
      simp only [Bool.and_eq_true, decide_eq_true_eq, Bool.not_eq_true'] at h
      obtain ⟨⟨⟨⟨⟨h1, h2⟩, h3⟩, h4⟩, h5⟩, h6⟩ := h
      obtain ⟨nm, bs, mro, N, q, hd, sn, sub, ab, col, del⟩ := cd
      obtain ⟨sl⟩ := sl
      dsimp only at hm h4 h5 hs
      subst h1 h2 h3 h4 h5 hm hs
      exact ⟨nm, q, N, bs, bm, sn, sub, ab, col, od, k0, k1, k2, k3, k5, e, h6⟩
    · cases h
  · cases h
abbrev InW : Type := Option (Str × Str × Arguments × FuncBody × Scope × Addr × List Str × Addr)
def inW (K : PySem.W.Frag) : InW := match K.lookup (aI K) with
  | some ⟨_, _, .func fd, _⟩ => some (fd.name, fd.qualname, fd.params, fd.body, fd.scope, fd.globals, fd.closure.map (·.1), fd.builtins)
  | _ => none
def inV : InW := some ("__init__", "TooGreat.__init__", defArgs tgInit, .stmts (defBody tgInit), defScope tgInit, mainGlobals, ["__class__"], builtinsNs)
/-- the object that the __init__'s cell holds; its code's file -/
def cellB (K : PySem.W.Frag) (C cc : Addr) : Bool := match K.lookup cc with
  | some ⟨_, _, .cell (some (.ref D)), _⟩ => decide (D = C)
  | _ => false
def fileB (P : Program) (K : PySem.W.Frag) (cda : Addr) : Bool := match K.lookup cda with
  | some ⟨_, _, .fields vs, _⟩ => (match (vs[2]? : Option Value) with
    | some (.str file _) => (P.main.file : Str) == file
    | _ => false)
  | _ => false
def iniB (P : Program) (K : PySem.W.Frag) : Bool := match K.lookup (aI K) with
  | some ⟨_, _, .func fd, _⟩ => PySem.W.codeIn K fd.code "TooGreat.__init__" && (match fd.defaults with
      | .none => true
      | _ => false) && (match fd.closure with
      | [(_, cc)] => cellB K (aC K) cc
      | _ => false) && (match fd.code with
      | .ref cda => fileB P K cda
      | _ => false)
  | _ => false
def exB (P : Program) (K : PySem.W.Frag) : Bool := clsB K (aC K) && (He.eqO (PySem.W.findIn K (.ref (aC K)) "__setattr__") (some (some (.builtin "object.__setattr__"))) && (decide (PySem.W.subIn K (.ref (aC K)) (.type "BaseException") = some true) && (decide (PySem.W.typeIn K (.ref (aC K)) = some (.type "type")) &&
  (PySem.W.keepIn K (.ref (aC K)) && (He.eqO (PySem.W.nsIn K cStatics "thirdparty.any") (some none) && (decide (PySem.W.mroIn K (aC K) (.ref (aC K)) = some true) && (decide (PySem.W.subIn K (.ref (aC K)) (.type "ValueError") = some true) &&
  (He.eqO (PySem.W.findIn K (.ref (aC K)) "__init__") (some (some (.ref (aI K)))) && (decide (PySem.W.typeIn K (.ref (aI K)) = some (.type "function")) && (He.eqO (PySem.W.ks_superIn K (aC K) (aC K) "__init__") (some (some (.builtin "ValueError.__init__"))) && (xfB K (aC K) && iniB P K)))))))))))
abbrev Pg : Program := PySem.Challenge.pw_allislands_k16_whole_ranks
theorem xci_of {K : PySem.W.Frag} {mg : Str → Option Value} (hx : exB Pg K = true) (hw : inW K = inV) (sup : mg "super" = none) (nof : PySem.W.findIn K (.ref (aC K)) "most" = some none) : (∃ fd, XcI Pg K mg (aC K) (aI K) fd) ∧ XfC K (aC K) := by
  unfold exB at hx
  simp only [Bool.and_eq_true, decide_eq_true_eq] at hx
  obtain ⟨h1, h2, h3, h4, h5, h6, h7, h8, h9, h10, h11, h12, h13⟩ := hx
  refine ⟨?_, xfB_ok h12⟩
  unfold inW at hw
  unfold iniB at h13
  split at hw
  · rename_i oc od fd osl e
    rw [e] at h13
    obtain ⟨n1, n2, n3, n4, n5, n6, n7, n8, n9, n10, n11, n12, n13, n14, n15⟩ := fd
    unfold inV at hw
    simp only [Option.some.injEq, Prod.mk.injEq] at hw
    obtain ⟨w1, w2, w3, w4, w5, w6, w7, w8⟩ := hw
    subst w1 w2 w3 w4 w5 w6 w8
    simp only [Bool.and_eq_true] at h13
    obtain ⟨⟨⟨q1, q2⟩, q3⟩, q4⟩ := h13
    split at q2
    · split at q3
      · rename_i nn cc
        split at q4
        · rename_i cda
          simp only [List.map_cons, List.map_nil, List.cons.injEq, and_true] at w7
          subst w7
          unfold cellB at q3
          split at q3
          · rename_i cl cld D csl ec
            have := of_decide_eq_true q3
            subst this
            unfold fileB at q4
            split at q4
            · rename_i ccl cdd vs ccs ek
              split at q4
              · rename_i file tf ev
                refine ⟨⟨"__init__", "TooGreat.__init__", defArgs tgInit, .stmts (defBody tgInit), defScope tgInit, mainGlobals, [("__class__", cc)], .none, n9, n10, n11, n12, .ref cda, n14, builtinsNs⟩, { T := ⟨clsB_ok h1, He.eqO_ok h2, h3, h4, h5⟩, sup := sup, nof := nof, opq := He.eqO_ok h6, top := by decide +kernel, sub := h7, subV := h8, iC := He.eqO_ok h9, tI := h10, bi := ?_, ini := He.eqO_ok h11, ex := ?_ }⟩
                rotate_left
                · exact ⟨_, _, _, _, _, _, _, _, _, _, _, _, _, _, _, _, _, cc, cda, vs, file, tf, _, _, _, _, _, _, _, _, _, _, _, rfl, e, q1, ek, ev, q4, ec, rfl, rfl⟩
                · exact .all fun us hl => match us, hl with | [_, _], _ => rfl
              · cases q4
            · cases q4
          · cases q3
        · cases q4
      · cases q3
    · cases q2
  · cases hw
/-! ### the Hook -/
def tfL : List He.Defn := [("_law_twelve", none)]
def KY (g : Addr → Option Obj) : PySem.W.Frag := He.frT g (He.asD g 5 ++ [cStatics])
structure SaysYG (fa : List He.Fa) (fn : List He.DefD) (ex : PySem.W.Frag → Bool) (iw : PySem.W.Frag → InW) (iv : InW) (w : World) (h : Heap) (K : PySem.W.Frag) : Prop where
  d : He.SaysD fa fn K
  more : ex K = true
  ini : iw K = iv
  hd : PySem.W.codeHdIn K (He.cT K ("_law_twelve", none)).1 (He.cT K ("_law_twelve", none)).2 = true
  out : K.lookup (He.cT K ("_law_twelve", none)).2 = none
  empty : h.get? (He.cT K ("_law_twelve", none)).2 = some tabO
abbrev AlY : Type := He.AlD × Bool × InW
def obsYG (fa : List He.Fa) (fn : List He.DefD) (ex : PySem.W.Frag → Bool) (iw : PySem.W.Frag → InW) (g : Addr → Option Obj) : AlY := (He.obsD fa fn (KY g), ex (KY g) && He.tabsB g tfL (KY g), iw (KY g))
section
variable {fa : List He.Fa} {fn : List He.DefD} {ex : PySem.W.Frag → Bool} {iw : PySem.W.Frag → InW} {iv : InW}
theorem says_of {w : World} {h : Heap} (e : obsYG fa fn ex iw h.get? = (He.valD fn, true, iv)) : SaysYG fa fn ex iw iv w h (KY h.get?) := by
  unfold obsYG at e
  obtain ⟨e1, e2⟩ := Prod.mk.inj e
  obtain ⟨e2, e3⟩ := Prod.mk.inj e2
  obtain ⟨h1, h2⟩ := He.ba e2
  unfold He.tabsB at h2
  have h3 := List.all_eq_true.mp h2 ("_law_twelve", none) (List.mem_singleton.mpr rfl)
  obtain ⟨h4, h5⟩ := He.ba h3
  cases q : h.get? (He.cT (KY h.get?) ("_law_twelve", none)).2 with
  | none =>
    rw [q] at h5
    cases h5
  | some o =>
    rw [q] at h5
    exact ⟨e1, h1, e3, h4, He.frT_none q h5, by rw [q, He.emptyTab_eq h5]⟩
end
def hookY (fa : List He.Fa) (fn : List He.DefD) (ex : PySem.W.Frag → Bool) (iw : PySem.W.Frag → InW) (iv : InW) : PySem.W.Hook where
  α := AlY
  obs := fun s => obsYG fa fn ex iw s.heap.get?
  val := fun _ => (He.valD fn, true, iv)
  says := fun w h => ∃ K : PySem.W.Frag, K.In h ∧ SaysYG fa fn ex iw iv w h K
  of := fun _ _ e => ⟨_, He.frT_in, says_of e⟩
  keeps := fun _ _ _ ⟨K, hK, c⟩ k => ⟨K, PySem.W.Frag.In.keeps hK k, ⟨c.d, c.more, c.ini, c.hd, c.out, k _ _ c.empty⟩⟩
theorem obsYG_eq {fa : List He.Fa} {fn : List He.DefD} {ex : PySem.W.Frag → Bool} {iw : PySem.W.Frag → InW} {iv : InW} {g : Addr → Option Obj} {s : Shared} (h : ∀ a, g a = s.heap.get? a) : obsYG fa fn ex iw g = (hookY fa fn ex iw iv).obs s := by
  have e : g = s.heap.get? := funext h
  rw [e] <;> rfl
abbrev SaysY (w : World) (h : Heap) (K : PySem.W.Frag) : Prop := SaysYG faL fnL (exB Pg) inW inV w h K
abbrev hkY : PySem.W.Hook := hookY faL fnL (exB Pg) inW inV
def obY (s : PySem.W.SharedT) : AlY := obsYG faL fnL (exB Pg) inW (HandSHeadRun.getT s)
theorem obY_eq (s : PySem.W.SharedT) : obY s = hkY.obs s.abs := obsYG_eq (HandSHeadRun.getT_eq s)
abbrev RR : PySem.W.OpenRow := PySem.W.OpenLaw.row PySem.Challenge.rw_allislands_k16_whole_ranks
end Al
set_option Elab.async false
set_option linter.all false
set_option maxRecDepth 100000
set_option maxHeartbeats 0
/-! Al, part O: the top's run. -/
namespace Al
open PySem PySem.Spec PyProof.Rows L2 Ai
theorem runY (w : World) : HandSHeadRun.RunEq RR (PySem.W.view RR.prog [86]) hkY obY 20000 looseL w := by
  intro os
  kernel_rfl
end Al
set_option Elab.async false
set_option linter.all false
set_option maxRecDepth 100000
set_option maxHeartbeats 0
/-! Al, part P: all defs together, over the plain law. -/
namespace Al
open PySem PySem.Spec PyProof.Rows L2 Ai
theorem fun_of {K : PySem.W.Frag} {x : Str} {i : Nat} {f : Addr} {fd : FuncData} (F : FunD K (dd x i).name (dd x i).qual (dd x i).params (dd x i).body (dd x i).scope ((dd x i).dvs K) ((dd x i).kws K) f fd) : Fun K x x (top i) f fd := by
  obtain ⟨⟨oc, od, dV, kV, doc, pm, an, cdv, ct, osl, e, lk, hc, hd, _⟩, kp⟩ := F
  rcases hd with ⟨_, hd⟩ | ⟨hd, _⟩
  · subst hd
    exact ⟨⟨oc, od, kV, doc, pm, an, cdv, ct, osl, e, lk, hc⟩, kp⟩
  · exact absurd rfl hd
theorem law_facts (PL : PlainLaw) (TW : Tw) {w : World} {K : PySem.W.Frag} {h : Heap} {mg : Str → Option Value} {fa : Addr} (X : K.In h) (G : h.Ns mainGlobals mg) (hfa : mg ("law" : Str) = some (.ref fa)) (c : SaysY w h K) :
    ∃ (fd : FuncData) (cc T : Addr) (sp : Sp), h.get? T = some tabO ∧ K.lookup T = none ∧ PySem.W.CodeHd h cc T ∧ (∀ (s : Shared) (u : Value), BindsTo s fd ⟨[u], []⟩ [("_law_script", u)]) ∧
      (∀ (H : Hp) (a : Addr) (ns : List Int), ns.length ≤ 63 → H T = some (.tbl #[]) → SqL K H a (ns.map V.int) → sp [.ref a] H (fun v _ => v = .bl true) fun _ _ _ => False) ∧
      ∀ base : Heap, K.In base → base.Ns mainGlobals mg → LamX.TabB base mg cc T → FnG Pg w K mg base CX0 15 fa fd ["_law_script"] sp := by
  have B : Bi mg := ⟨He.free_ok X G (c.d.fact 55 (f := .free "isinstance") rfl), He.free_ok X G (c.d.fact 56 (f := .free "int") rfl), He.free_ok X G (c.d.fact 57 (f := .free "bool") rfl), He.free_ok X G (c.d.fact 58 (f := .free "str") rfl), He.free_ok X G (c.d.fact 59 (f := .free "tuple") rfl), He.free_ok X G (c.d.fact 60 (f := .free "list") rfl), He.free_ok X G (c.d.fact 61 (f := .free "set") rfl), He.free_ok X G (c.d.fact 62 (f := .free "len") rfl), He.free_ok X G (c.d.fact 63 (f := .free "sorted") rfl), He.free_ok X G (c.d.fact 64 (f := .free "zip") rfl), He.free_ok X G (c.d.fact 65 (f := .free "range") rfl), He.free_ok X G (c.d.fact 66 (f := .free "enumerate") rfl), He.free_ok X G (c.d.fact 67 (f := .free "repr") rfl)⟩
  have Gc0 : Gc mg := ⟨He.int_ok X G (c.d.fact 69 (f := .int "MOST_PLACE" 1000000000) rfl), He.int_ok X G (c.d.fact 70 (f := .int "MOST_MARKS" 400) rfl), He.int_ok X G (c.d.fact 71 (f := .int "MOST_NEEDS_rules" 60) rfl), He.int_ok X G (c.d.fact 72 (f := .int "MOST_PLACES" 12) rfl), He.int_ok X G (c.d.fact 73 (f := .int "MOST_SIZE" 20) rfl), He.int_ok X G (c.d.fact 74 (f := .int "MOST_DEEP" 6) rfl), He.int_ok X G (c.d.fact 75 (f := .int "MOST_PARTS" 20) rfl), He.int_ok X G (c.d.fact 76 (f := .int "MOST_TERMS" 60) rfl), He.int_ok X G (c.d.fact 77 (f := .int "MOST_TIMES" 1000000000000000000000000000000) rfl), He.int_ok X G (c.d.fact 78 (f := .int "MOST_SPREAD" 12) rfl), He.int_ok X G (c.d.fact 79 (f := .int "MOST_NEAR" 20) rfl), He.int_ok X G (c.d.fact 80 (f := .int "MOST_NEEDS_termwork" 60) rfl), He.int_ok X G (c.d.fact 81 (f := .int "MOST_STEPS" 60) rfl)⟩
  have hsup : mg "super" = none := He.free_ok X G (c.d.fact 68 (f := .free "super") rfl)
  have hnof : PySem.W.findIn K (.ref (aC K)) "most" = some none := He.eqO_ok (c.d.fact 86 (f := .noat "TooGreat" "most") rfl)
  obtain ⟨⟨fdI, Z⟩, XF⟩ := xci_of c.more c.ini hsup hnof
  have hTG : mg "TooGreat" = some (.ref (aC K)) := (He.glo_ok X G (c.d.fact 51 (f := .glo "TooGreat") rfl))
  have R : Ers K mg (aC K) := ⟨⟨_, (He.glo_ok X G (c.d.fact 52 (f := .glo "BadTerm") rfl)), He.exm_ok (c.d.fact 82 (f := .exm "TooGreat" "BadTerm" false) rfl)⟩, ⟨_, (He.glo_ok X G (c.d.fact 53 (f := .glo "BadRule") rfl)), He.exm_ok (c.d.fact 83 (f := .exm "TooGreat" "BadRule" false) rfl)⟩, ⟨_, (He.glo_ok X G (c.d.fact 54 (f := .glo "BadIsland") rfl)), He.exm_ok (c.d.fact 84 (f := .exm "TooGreat" "BadIsland" false) rfl)⟩, hTG, He.exm_ok (c.d.fact 85 (f := .exm "TooGreat" "TooGreat" true) rfl), XF, hnof⟩
  obtain ⟨fd_is_from, F_is_from⟩ : ∃ fd, Fun K "is_from" "is_from" (top 9) (He.ga K "is_from") fd := by
    obtain ⟨fd, F⟩ := c.d.def_ 0 (d := dd "is_from" 9) rfl
    exact ⟨fd, fun_of F⟩
  obtain ⟨fd_is_pair_from, F_is_pair_from⟩ : ∃ fd, Fun K "is_pair_from" "is_pair_from" (top 10) (He.ga K "is_pair_from") fd := by
    obtain ⟨fd, F⟩ := c.d.def_ 1 (d := dd "is_pair_from" 10) rfl
    exact ⟨fd, fun_of F⟩
  obtain ⟨fd_is_place, F_is_place⟩ : ∃ fd, Fun K "is_place" "is_place" (top 11) (He.ga K "is_place") fd := by
    obtain ⟨fd, F⟩ := c.d.def_ 2 (d := dd "is_place" 11) rfl
    exact ⟨fd, fun_of F⟩
  obtain ⟨fd_taken_off, F_taken_off⟩ : ∃ fd, Fun K "taken_off" "taken_off" (top 13) (He.ga K "taken_off") fd := by
    obtain ⟨fd, F⟩ := c.d.def_ 3 (d := dd "taken_off" 13) rfl
    exact ⟨fd, fun_of F⟩
  obtain ⟨fd_is_island, F_is_island⟩ : ∃ fd, Fun K "is_island" "is_island" (top 16) (He.ga K "is_island") fd := by
    obtain ⟨fd, F⟩ := c.d.def_ 4 (d := dd "is_island" 16) rfl
    exact ⟨fd, fun_of F⟩
  obtain ⟨fd_need_island, F_need_island⟩ : ∃ fd, Fun K "need_island" "need_island" (top 17) (He.ga K "need_island") fd := by
    obtain ⟨fd, F⟩ := c.d.def_ 5 (d := dd "need_island" 17) rfl
    exact ⟨fd, fun_of F⟩
  obtain ⟨fd_is_need, F_is_need⟩ : ∃ fd, Fun K "is_need" "is_need" (top 23) (He.ga K "is_need") fd := by
    obtain ⟨fd, F⟩ := c.d.def_ 6 (d := dd "is_need" 23) rfl
    exact ⟨fd, fun_of F⟩
  obtain ⟨fd_odd_set, F_odd_set⟩ : ∃ fd, Fun K "odd_set" "odd_set" (top 24) (He.ga K "odd_set") fd := by
    obtain ⟨fd, F⟩ := c.d.def_ 7 (d := dd "odd_set" 24) rfl
    exact ⟨fd, fun_of F⟩
  obtain ⟨fd_has_all, F_has_all⟩ : ∃ fd, Fun K "has_all" "has_all" (top 25) (He.ga K "has_all") fd := by
    obtain ⟨fd, F⟩ := c.d.def_ 8 (d := dd "has_all" 25) rfl
    exact ⟨fd, fun_of F⟩
  obtain ⟨fd_need_rule, F_need_rule⟩ : ∃ fd, Fun K "need_rule" "need_rule" (top 26) (He.ga K "need_rule") fd := by
    obtain ⟨fd, F⟩ := c.d.def_ 9 (d := dd "need_rule" 26) rfl
    exact ⟨fd, fun_of F⟩
  obtain ⟨fd_holds_one, F_holds_one⟩ : ∃ fd, Fun K "holds_one" "holds_one" (top 29) (He.ga K "holds_one") fd := by
    obtain ⟨fd, F⟩ := c.d.def_ 10 (d := dd "holds_one" 29) rfl
    exact ⟨fd, fun_of F⟩
  obtain ⟨fd_least_of, F_least_of⟩ : ∃ fd, Fun K "least_of" "least_of" (top 27) (He.ga K "least_of") fd := by
    obtain ⟨fd, F⟩ := c.d.def_ 11 (d := dd "least_of" 27) rfl
    exact ⟨fd, fun_of F⟩
  obtain ⟨fd_counted, F_counted⟩ : ∃ fd, Fun K "counted" "counted" (top 28) (He.ga K "counted") fd := by
    obtain ⟨fd, F⟩ := c.d.def_ 12 (d := dd "counted" 28) rfl
    exact ⟨fd, fun_of F⟩
  obtain ⟨fd_is_lesser, F_is_lesser⟩ : ∃ fd, Fun K "is_lesser" "is_lesser" (top 30) (He.ga K "is_lesser") fd := by
    obtain ⟨fd, F⟩ := c.d.def_ 13 (d := dd "is_lesser" 30) rfl
    exact ⟨fd, fun_of F⟩
  obtain ⟨fd_joined_need, F_joined_need⟩ : ∃ fd, Fun K "joined_need" "joined_need" (top 32) (He.ga K "joined_need") fd := by
    obtain ⟨fd, F⟩ := c.d.def_ 14 (d := dd "joined_need" 32) rfl
    exact ⟨fd, fun_of F⟩
  obtain ⟨fd_either_so, F_either_so⟩ : ∃ fd, Fun K "either_so" "either_so" (top 33) (He.ga K "either_so") fd := by
    obtain ⟨fd, F⟩ := c.d.def_ 15 (d := dd "either_so" 33) rfl
    exact ⟨fd, fun_of F⟩
  obtain ⟨fd_both_so, F_both_so⟩ : ∃ fd, Fun K "both_so" "both_so" (top 34) (He.ga K "both_so") fd := by
    obtain ⟨fd, F⟩ := c.d.def_ 16 (d := dd "both_so" 34) rfl
    exact ⟨fd, fun_of F⟩
  obtain ⟨fd_bars_so, F_bars_so⟩ : ∃ fd, Fun K "bars_so" "bars_so" (top 38) (He.ga K "bars_so") fd := by
    obtain ⟨fd, F⟩ := c.d.def_ 17 (d := dd "bars_so" 38) rfl
    exact ⟨fd, fun_of F⟩
  obtain ⟨fd_is_spread, F_is_spread⟩ : ∃ fd, Fun K "is_spread" "is_spread" (top 46) (He.ga K "is_spread") fd := by
    obtain ⟨fd, F⟩ := c.d.def_ 18 (d := dd "is_spread" 46) rfl
    exact ⟨fd, fun_of F⟩
  obtain ⟨fd_has_form, F_has_form⟩ : ∃ fd, Fun K "has_form" "has_form" (top 47) (He.ga K "has_form") fd := by
    obtain ⟨fd, F⟩ := c.d.def_ 19 (d := dd "has_form" 47) rfl
    exact ⟨fd, fun_of F⟩
  obtain ⟨fd_parts_of, F_parts_of⟩ : ∃ fd, Fun K "parts_of" "parts_of" (top 48) (He.ga K "parts_of") fd := by
    obtain ⟨fd, F⟩ := c.d.def_ 20 (d := dd "parts_of" 48) rfl
    exact ⟨fd, fun_of F⟩
  obtain ⟨fd_need_term, F_need_term⟩ : ∃ fd, Fun K "need_term" "need_term" (top 49) (He.ga K "need_term") fd := by
    obtain ⟨fd, F⟩ := c.d.def_ 21 (d := dd "need_term" 49) rfl
    exact ⟨fd, fun_of F⟩
  obtain ⟨fd_need_spread, F_need_spread⟩ : ∃ fd, Fun K "need_spread" "need_spread" (top 50) (He.ga K "need_spread") fd := by
    obtain ⟨fd, F⟩ := c.d.def_ 22 (d := dd "need_spread" 50) rfl
    exact ⟨fd, fun_of F⟩
  obtain ⟨fd_grown, F_grown⟩ : ∃ fd, Fun K "grown" "grown" (top 51) (He.ga K "grown") fd := by
    obtain ⟨fd, F⟩ := c.d.def_ 23 (d := dd "grown" 51) rfl
    exact ⟨fd, fun_of F⟩
  obtain ⟨fd_eaten, F_eaten⟩ : ∃ fd, Fun K "eaten" "eaten" (top 52) (He.ga K "eaten") fd := by
    obtain ⟨fd, F⟩ := c.d.def_ 24 (d := dd "eaten" 52) rfl
    exact ⟨fd, fun_of F⟩
  obtain ⟨fd_chosen_sets, F_chosen_sets⟩ : ∃ fd, Fun K "chosen_sets" "chosen_sets" (top 56) (He.ga K "chosen_sets") fd := by
    obtain ⟨fd, F⟩ := c.d.def_ 25 (d := dd "chosen_sets" 56) rfl
    exact ⟨fd, fun_of F⟩
  obtain ⟨fd_count_sets, F_count_sets⟩ : ∃ fd, Fun K "count_sets" "count_sets" (top 57) (He.ga K "count_sets") fd := by
    obtain ⟨fd, F⟩ := c.d.def_ 26 (d := dd "count_sets" 57) rfl
    exact ⟨fd, fun_of F⟩
  obtain ⟨fd_rank_rule, F_rank_rule⟩ : ∃ fd, Fun K "rank_rule" "rank_rule" (top 58) (He.ga K "rank_rule") fd := by
    obtain ⟨fd, F⟩ := c.d.def_ 27 (d := dd "rank_rule" 58) rfl
    exact ⟨fd, fun_of F⟩
  obtain ⟨fd_rule_so, F_rule_so⟩ : ∃ fd, Fun K "rule_so" "rule_so" (top 61) (He.ga K "rule_so") fd := by
    obtain ⟨fd, F⟩ := c.d.def_ 28 (d := dd "rule_so" 61) rfl
    exact ⟨fd, fun_of F⟩
  obtain ⟨fd_joined_rules, F_joined_rules⟩ : ∃ fd, Fun K "joined_rules" "joined_rules" (top 60) (He.ga K "joined_rules") fd := by
    obtain ⟨fd, F⟩ := c.d.def_ 29 (d := dd "joined_rules" 60) rfl
    exact ⟨fd, fun_of F⟩
  obtain ⟨fd_term_rule, F_term_rule⟩ : ∃ fd, Fun K "term_rule" "term_rule" (top 62) (He.ga K "term_rule") fd := by
    obtain ⟨fd, F⟩ := c.d.def_ 30 (d := dd "term_rule" 62) rfl
    exact ⟨fd, fun_of F⟩
  obtain ⟨fd_terms_alike, F_terms_alike⟩ : ∃ fd, Fun K "terms_alike" "terms_alike" (top 72) (He.ga K "terms_alike") fd := by
    obtain ⟨fd, F⟩ := c.d.def_ 31 (d := dd "terms_alike" 72) rfl
    exact ⟨fd, fun_of F⟩
  obtain ⟨fd_check_again, F_check_again⟩ : ∃ fd, Fun K "check_again" "check_again" (top 63) (He.ga K "check_again") fd := by
    obtain ⟨fd, F⟩ := c.d.def_ 32 (d := dd "check_again" 63) rfl
    exact ⟨fd, fun_of F⟩
  obtain ⟨fd__law_mixed, F__law_mixed⟩ : ∃ fd, Fun K "_law_mixed" "_law_mixed" (top 74) (He.ga K "_law_mixed") fd := by
    obtain ⟨fd, F⟩ := c.d.def_ 33 (d := dd "_law_mixed" 74) rfl
    exact ⟨fd, fun_of F⟩
  obtain ⟨fd__law_subsets, F__law_subsets⟩ : ∃ fd, Fun K "_law_subsets" "_law_subsets" (top 78) (He.ga K "_law_subsets") fd := by
    obtain ⟨fd, F⟩ := c.d.def_ 34 (d := dd "_law_subsets" 78) rfl
    exact ⟨fd, fun_of F⟩
  obtain ⟨fd__law_sets, F__law_sets⟩ : ∃ fd, Fun K "_law_sets" "_law_sets" (top 82) (He.ga K "_law_sets") fd := by
    obtain ⟨fd, F⟩ := c.d.def_ 35 (d := dd "_law_sets" 82) rfl
    exact ⟨fd, fun_of F⟩
  obtain ⟨fd_table_of, F_table_of⟩ : ∃ fd, Fun K "table_of" "table_of" (top 64) (He.ga K "table_of") fd := by
    obtain ⟨fd, F⟩ := c.d.def_ 36 (d := dd "table_of" 64) rfl
    exact ⟨fd, fun_of F⟩
  obtain ⟨fd_check_odd, F_check_odd⟩ : ∃ fd, Fun K "check_odd" "check_odd" (top 65) (He.ga K "check_odd") fd := by
    obtain ⟨fd, F⟩ := c.d.def_ 37 (d := dd "check_odd" 65) rfl
    exact ⟨fd, fun_of F⟩
  obtain ⟨fd_ranked_picture, F_ranked_picture⟩ : ∃ fd, Fun K "ranked_picture" "ranked_picture" (top 68) (He.ga K "ranked_picture") fd := by
    obtain ⟨fd, F⟩ := c.d.def_ 38 (d := dd "ranked_picture" 68) rfl
    exact ⟨fd, fun_of F⟩
  obtain ⟨fd_picture_behind, F_picture_behind⟩ : ∃ fd, Fun K "picture_behind" "picture_behind" (top 70) (He.ga K "picture_behind") fd := by
    obtain ⟨fd, F⟩ := c.d.def_ 39 (d := dd "picture_behind" 70) rfl
    exact ⟨fd, fun_of F⟩
  obtain ⟨fd_term_stepped, F_term_stepped⟩ : ∃ fd, Fun K "term_stepped" "term_stepped" (top 71) (He.ga K "term_stepped") fd := by
    obtain ⟨fd, F⟩ := c.d.def_ 40 (d := dd "term_stepped" 71) rfl
    exact ⟨fd, fun_of F⟩
  obtain ⟨fd__law_counted_marks, F__law_counted_marks⟩ : ∃ fd, Fun K "_law_counted_marks" "_law_counted_marks" (top 81) (He.ga K "_law_counted_marks") fd := by
    obtain ⟨fd, F⟩ := c.d.def_ 41 (d := dd "_law_counted_marks" 81) rfl
    exact ⟨fd, fun_of F⟩
  obtain ⟨fd__law_like, F__law_like⟩ : ∃ fd, Fun K "_law_like" "_law_like" (top 79) (He.ga K "_law_like") fd := by
    obtain ⟨fd, F⟩ := c.d.def_ 42 (d := dd "_law_like" 79) rfl
    exact ⟨fd, fun_of F⟩
  obtain ⟨fd__law_right, F__law_right⟩ : ∃ fd, Fun K "_law_right" "_law_right" (top 83) (He.ga K "_law_right") fd := by
    obtain ⟨fd, F⟩ := c.d.def_ 43 (d := dd "_law_right" 83) rfl
    exact ⟨fd, fun_of F⟩
  obtain ⟨fd__law_refusal, F__law_refusal⟩ : ∃ fd, Fun K "_law_refusal" "_law_refusal" (top 80) (He.ga K "_law_refusal") fd := by
    obtain ⟨fd, F⟩ := c.d.def_ 44 (d := dd "_law_refusal" 80) rfl
    exact ⟨fd, fun_of F⟩
  obtain ⟨fd__law_twelve, F__law_twelve⟩ : ∃ fd, Fun K "_law_twelve" "_law_twelve" (top 85) (He.ga K "_law_twelve") fd := by
    obtain ⟨fd, F⟩ := c.d.def_ 45 (d := dd "_law_twelve" 85) rfl
    exact ⟨fd, fun_of F⟩
  obtain ⟨fd__law_begin, F__law_begin⟩ : ∃ fd, Fun K "_law_begin" "_law_begin" (top 75) (He.ga K "_law_begin") fd := by
    obtain ⟨fd, F⟩ := c.d.def_ 46 (d := dd "_law_begin" 75) rfl
    exact ⟨fd, fun_of F⟩
  obtain ⟨fd__law_draw, F__law_draw⟩ : ∃ fd, Fun K "_law_draw" "_law_draw" (top 76) (He.ga K "_law_draw") fd := by
    obtain ⟨fd, F⟩ := c.d.def_ 47 (d := dd "_law_draw" 76) rfl
    exact ⟨fd, fun_of F⟩
  obtain ⟨fd__law_marks, F__law_marks⟩ : ∃ fd, Fun K "_law_marks" "_law_marks" (top 77) (He.ga K "_law_marks") fd := by
    obtain ⟨fd, F⟩ := c.d.def_ 48 (d := dd "_law_marks" 77) rfl
    exact ⟨fd, fun_of F⟩
  obtain ⟨fd__law_as_all, F__law_as_all⟩ : ∃ fd, Fun K "_law_as_all" "_law_as_all" (top 84) (He.ga K "_law_as_all") fd := by
    obtain ⟨fd, F⟩ := c.d.def_ 49 (d := dd "_law_as_all" 84) rfl
    exact ⟨fd, fun_of F⟩
  obtain ⟨fd_law, F_law⟩ : ∃ fd, Fun K "law" "law" (top 86) (He.ga K "law") fd := by
    obtain ⟨fd, F⟩ := c.d.def_ 50 (d := dd "law" 86) rfl
    exact ⟨fd, fun_of F⟩
  have b_is_from : Binds K fd_is_from ["value", "low", "high"] [] := F_is_from.binds fun _ _ _ _ _ _ us hl => match us, hl with | [_, _, _], _ => rfl
  have m_is_from : mg "is_from" = some (.ref (He.ga K "is_from")) := (He.glo_ok X G (c.d.fact 0 (f := .glo "is_from") rfl))
  have b_is_pair_from : Binds K fd_is_pair_from ["value", "most"] [] := F_is_pair_from.binds fun _ _ _ _ _ _ us hl => match us, hl with | [_, _], _ => rfl
  have m_is_pair_from : mg "is_pair_from" = some (.ref (He.ga K "is_pair_from")) := (He.glo_ok X G (c.d.fact 1 (f := .glo "is_pair_from") rfl))
  have b_is_place : Binds K fd_is_place ["value"] [] := F_is_place.binds fun _ _ _ _ _ _ us hl => match us, hl with | [_], _ => rfl
  have m_is_place : mg "is_place" = some (.ref (He.ga K "is_place")) := (He.glo_ok X G (c.d.fact 2 (f := .glo "is_place") rfl))
  have b_taken_off : Binds K fd_taken_off ["one", "other"] [] := F_taken_off.binds fun _ _ _ _ _ _ us hl => match us, hl with | [_, _], _ => rfl
  have m_taken_off : mg "taken_off" = some (.ref (He.ga K "taken_off")) := (He.glo_ok X G (c.d.fact 3 (f := .glo "taken_off") rfl))
  have b_is_island : Binds K fd_is_island ["value"] [] := F_is_island.binds fun _ _ _ _ _ _ us hl => match us, hl with | [_], _ => rfl
  have m_is_island : mg "is_island" = some (.ref (He.ga K "is_island")) := (He.glo_ok X G (c.d.fact 4 (f := .glo "is_island") rfl))
  have b_need_island : Binds K fd_need_island ["value"] [] := F_need_island.binds fun _ _ _ _ _ _ us hl => match us, hl with | [_], _ => rfl
  have m_need_island : mg "need_island" = some (.ref (He.ga K "need_island")) := (He.glo_ok X G (c.d.fact 5 (f := .glo "need_island") rfl))
  have b_is_need : Binds K fd_is_need ["value"] [] := F_is_need.binds fun _ _ _ _ _ _ us hl => match us, hl with | [_], _ => rfl
  have m_is_need : mg "is_need" = some (.ref (He.ga K "is_need")) := (He.glo_ok X G (c.d.fact 6 (f := .glo "is_need") rfl))
  have b_odd_set : Binds K fd_odd_set ["value"] [] := F_odd_set.binds fun _ _ _ _ _ _ us hl => match us, hl with | [_], _ => rfl
  have m_odd_set : mg "odd_set" = some (.ref (He.ga K "odd_set")) := (He.glo_ok X G (c.d.fact 7 (f := .glo "odd_set") rfl))
  have b_has_all : Binds K fd_has_all ["need", "other"] [] := F_has_all.binds fun _ _ _ _ _ _ us hl => match us, hl with | [_, _], _ => rfl
  have m_has_all : mg "has_all" = some (.ref (He.ga K "has_all")) := (He.glo_ok X G (c.d.fact 8 (f := .glo "has_all") rfl))
  have b_need_rule : Binds K fd_need_rule ["rule"] [] := F_need_rule.binds fun _ _ _ _ _ _ us hl => match us, hl with | [_], _ => rfl
  have m_need_rule : mg "need_rule" = some (.ref (He.ga K "need_rule")) := (He.glo_ok X G (c.d.fact 9 (f := .glo "need_rule") rfl))
  have b_holds_one : Binds K fd_holds_one ["need", "rule"] [] := F_holds_one.binds fun _ _ _ _ _ _ us hl => match us, hl with | [_, _], _ => rfl
  have m_holds_one : mg "holds_one" = some (.ref (He.ga K "holds_one")) := (He.glo_ok X G (c.d.fact 10 (f := .glo "holds_one") rfl))
  have b_least_of : Binds K fd_least_of ["needs"] [] := F_least_of.binds fun _ _ _ _ _ _ us hl => match us, hl with | [_], _ => rfl
  have m_least_of : mg "least_of" = some (.ref (He.ga K "least_of")) := (He.glo_ok X G (c.d.fact 11 (f := .glo "least_of") rfl))
  have b_counted : Binds K fd_counted ["needs"] [] := F_counted.binds fun _ _ _ _ _ _ us hl => match us, hl with | [_], _ => rfl
  have m_counted : mg "counted" = some (.ref (He.ga K "counted")) := (He.glo_ok X G (c.d.fact 12 (f := .glo "counted") rfl))
  have b_is_lesser : Binds K fd_is_lesser ["one", "other"] [] := F_is_lesser.binds fun _ _ _ _ _ _ us hl => match us, hl with | [_, _], _ => rfl
  have m_is_lesser : mg "is_lesser" = some (.ref (He.ga K "is_lesser")) := (He.glo_ok X G (c.d.fact 13 (f := .glo "is_lesser") rfl))
  have b_joined_need : Binds K fd_joined_need ["one", "other"] [] := F_joined_need.binds fun _ _ _ _ _ _ us hl => match us, hl with | [_, _], _ => rfl
  have m_joined_need : mg "joined_need" = some (.ref (He.ga K "joined_need")) := (He.glo_ok X G (c.d.fact 14 (f := .glo "joined_need") rfl))
  have b_either_so : Binds K fd_either_so ["one", "other"] [] := F_either_so.binds fun _ _ _ _ _ _ us hl => match us, hl with | [_, _], _ => rfl
  have m_either_so : mg "either_so" = some (.ref (He.ga K "either_so")) := (He.glo_ok X G (c.d.fact 15 (f := .glo "either_so") rfl))
  have b_both_so : Binds K fd_both_so ["one", "other"] [] := F_both_so.binds fun _ _ _ _ _ _ us hl => match us, hl with | [_, _], _ => rfl
  have m_both_so : mg "both_so" = some (.ref (He.ga K "both_so")) := (He.glo_ok X G (c.d.fact 16 (f := .glo "both_so") rfl))
  have b_bars_so : Binds K fd_bars_so ["needs"] [] := F_bars_so.binds fun _ _ _ _ _ _ us hl => match us, hl with | [_], _ => rfl
  have m_bars_so : mg "bars_so" = some (.ref (He.ga K "bars_so")) := (He.glo_ok X G (c.d.fact 17 (f := .glo "bars_so") rfl))
  have b_is_spread : Binds K fd_is_spread ["value"] [] := F_is_spread.binds fun _ _ _ _ _ _ us hl => match us, hl with | [_], _ => rfl
  have m_is_spread : mg "is_spread" = some (.ref (He.ga K "is_spread")) := (He.glo_ok X G (c.d.fact 18 (f := .glo "is_spread") rfl))
  have b_has_form : Binds K fd_has_form ["term"] [] := F_has_form.binds fun _ _ _ _ _ _ us hl => match us, hl with | [_], _ => rfl
  have m_has_form : mg "has_form" = some (.ref (He.ga K "has_form")) := (He.glo_ok X G (c.d.fact 19 (f := .glo "has_form") rfl))
  have b_parts_of : Binds K fd_parts_of ["term"] [] := F_parts_of.binds fun _ _ _ _ _ _ us hl => match us, hl with | [_], _ => rfl
  have m_parts_of : mg "parts_of" = some (.ref (He.ga K "parts_of")) := (He.glo_ok X G (c.d.fact 20 (f := .glo "parts_of") rfl))
  have b_need_term : Binds K fd_need_term ["term"] [] := F_need_term.binds fun _ _ _ _ _ _ us hl => match us, hl with | [_], _ => rfl
  have m_need_term : mg "need_term" = some (.ref (He.ga K "need_term")) := (He.glo_ok X G (c.d.fact 21 (f := .glo "need_term") rfl))
  have b_need_spread : Binds K fd_need_spread ["places"] [] := F_need_spread.binds fun _ _ _ _ _ _ us hl => match us, hl with | [_], _ => rfl
  have m_need_spread : mg "need_spread" = some (.ref (He.ga K "need_spread")) := (He.glo_ok X G (c.d.fact 22 (f := .glo "need_spread") rfl))
  have b_grown : Binds K fd_grown ["places"] [] := F_grown.binds fun _ _ _ _ _ _ us hl => match us, hl with | [_], _ => rfl
  have m_grown : mg "grown" = some (.ref (He.ga K "grown")) := (He.glo_ok X G (c.d.fact 23 (f := .glo "grown") rfl))
  have b_eaten : Binds K fd_eaten ["places"] [] := F_eaten.binds fun _ _ _ _ _ _ us hl => match us, hl with | [_], _ => rfl
  have m_eaten : mg "eaten" = some (.ref (He.ga K "eaten")) := (He.glo_ok X G (c.d.fact 24 (f := .glo "eaten") rfl))
  have b_chosen_sets : Binds K fd_chosen_sets ["places", "many"] [] := F_chosen_sets.binds fun _ _ _ _ _ _ us hl => match us, hl with | [_, _], _ => rfl
  have m_chosen_sets : mg "chosen_sets" = some (.ref (He.ga K "chosen_sets")) := (He.glo_ok X G (c.d.fact 25 (f := .glo "chosen_sets") rfl))
  have b_count_sets : Binds K fd_count_sets ["size", "many"] [] := F_count_sets.binds fun _ _ _ _ _ _ us hl => match us, hl with | [_, _], _ => rfl
  have m_count_sets : mg "count_sets" = some (.ref (He.ga K "count_sets")) := (He.glo_ok X G (c.d.fact 26 (f := .glo "count_sets") rfl))
  have b_rank_rule : Binds K fd_rank_rule ["term"] [] := F_rank_rule.binds fun _ _ _ _ _ _ us hl => match us, hl with | [_], _ => rfl
  have m_rank_rule : mg "rank_rule" = some (.ref (He.ga K "rank_rule")) := (He.glo_ok X G (c.d.fact 27 (f := .glo "rank_rule") rfl))
  have b_rule_so : Binds K fd_rule_so ["term"] [] := F_rule_so.binds fun _ _ _ _ _ _ us hl => match us, hl with | [_], _ => rfl
  have m_rule_so : mg "rule_so" = some (.ref (He.ga K "rule_so")) := (He.glo_ok X G (c.d.fact 28 (f := .glo "rule_so") rfl))
  have b_joined_rules : Binds K fd_joined_rules ["term"] [] := F_joined_rules.binds fun _ _ _ _ _ _ us hl => match us, hl with | [_], _ => rfl
  have m_joined_rules : mg "joined_rules" = some (.ref (He.ga K "joined_rules")) := (He.glo_ok X G (c.d.fact 29 (f := .glo "joined_rules") rfl))
  have b_term_rule : Binds K fd_term_rule ["term"] [] := F_term_rule.binds fun _ _ _ _ _ _ us hl => match us, hl with | [_], _ => rfl
  have m_term_rule : mg "term_rule" = some (.ref (He.ga K "term_rule")) := (He.glo_ok X G (c.d.fact 30 (f := .glo "term_rule") rfl))
  have b_terms_alike : Binds K fd_terms_alike ["one", "other"] [] := F_terms_alike.binds fun _ _ _ _ _ _ us hl => match us, hl with | [_, _], _ => rfl
  have m_terms_alike : mg "terms_alike" = some (.ref (He.ga K "terms_alike")) := (He.glo_ok X G (c.d.fact 31 (f := .glo "terms_alike") rfl))
  have b_check_again : Binds K fd_check_again ["term"] [] := F_check_again.binds fun _ _ _ _ _ _ us hl => match us, hl with | [_], _ => rfl
  have m_check_again : mg "check_again" = some (.ref (He.ga K "check_again")) := (He.glo_ok X G (c.d.fact 32 (f := .glo "check_again") rfl))
  have b__law_mixed : Binds K fd__law_mixed ["_law_cell", "_law_k"] [] := F__law_mixed.binds fun _ _ _ _ _ _ us hl => match us, hl with | [_, _], _ => rfl
  have m__law_mixed : mg "_law_mixed" = some (.ref (He.ga K "_law_mixed")) := (He.glo_ok X G (c.d.fact 33 (f := .glo "_law_mixed") rfl))
  have b__law_subsets : Binds K fd__law_subsets ["_law_things"] [] := F__law_subsets.binds fun _ _ _ _ _ _ us hl => match us, hl with | [_], _ => rfl
  have m__law_subsets : mg "_law_subsets" = some (.ref (He.ga K "_law_subsets")) := (He.glo_ok X G (c.d.fact 34 (f := .glo "_law_subsets") rfl))
  have b__law_sets : Binds K fd__law_sets ["_law_spots", "_law_many"] [] := F__law_sets.binds fun _ _ _ _ _ _ us hl => match us, hl with | [_, _], _ => rfl
  have m__law_sets : mg "_law_sets" = some (.ref (He.ga K "_law_sets")) := (He.glo_ok X G (c.d.fact 35 (f := .glo "_law_sets") rfl))
  have b_table_of : Binds K fd_table_of ["places"] [] := F_table_of.binds fun _ _ _ _ _ _ us hl => match us, hl with | [_], _ => rfl
  have m_table_of : mg "table_of" = some (.ref (He.ga K "table_of")) := (He.glo_ok X G (c.d.fact 36 (f := .glo "table_of") rfl))
  have b_check_odd : Binds K fd_check_odd ["picture"] [] := F_check_odd.binds fun _ _ _ _ _ _ us hl => match us, hl with | [_], _ => rfl
  have m_check_odd : mg "check_odd" = some (.ref (He.ga K "check_odd")) := (He.glo_ok X G (c.d.fact 37 (f := .glo "check_odd") rfl))
  have b_ranked_picture : Binds K fd_ranked_picture ["term", "picture"] [] := F_ranked_picture.binds fun _ _ _ _ _ _ us hl => match us, hl with | [_, _], _ => rfl
  have m_ranked_picture : mg "ranked_picture" = some (.ref (He.ga K "ranked_picture")) := (He.glo_ok X G (c.d.fact 38 (f := .glo "ranked_picture") rfl))
  have b_picture_behind : Binds K fd_picture_behind ["term", "picture"] [] := F_picture_behind.binds fun _ _ _ _ _ _ us hl => match us, hl with | [_, _], _ => rfl
  have m_picture_behind : mg "picture_behind" = some (.ref (He.ga K "picture_behind")) := (He.glo_ok X G (c.d.fact 39 (f := .glo "picture_behind") rfl))
  have b_term_stepped : Binds K fd_term_stepped ["term", "island"] [] := F_term_stepped.binds fun _ _ _ _ _ _ us hl => match us, hl with | [_, _], _ => rfl
  have m_term_stepped : mg "term_stepped" = some (.ref (He.ga K "term_stepped")) := (He.glo_ok X G (c.d.fact 40 (f := .glo "term_stepped") rfl))
  have b__law_counted_marks : Binds K fd__law_counted_marks ["_law_spots", "_law_least_so", "_law_marks_so"] [] := F__law_counted_marks.binds fun _ _ _ _ _ _ us hl => match us, hl with | [_, _, _], _ => rfl
  have m__law_counted_marks : mg "_law_counted_marks" = some (.ref (He.ga K "_law_counted_marks")) := (He.glo_ok X G (c.d.fact 41 (f := .glo "_law_counted_marks") rfl))
  have b__law_like : Binds K fd__law_like ["_law_got", "_law_due"] [] := F__law_like.binds fun _ _ _ _ _ _ us hl => match us, hl with | [_, _], _ => rfl
  have m__law_like : mg "_law_like" = some (.ref (He.ga K "_law_like")) := (He.glo_ok X G (c.d.fact 42 (f := .glo "_law_like") rfl))
  have b__law_right : Binds K fd__law_right ["_law_spots", "_law_marks_so"] [] := F__law_right.binds fun _ _ _ _ _ _ us hl => match us, hl with | [_, _], _ => rfl
  have m__law_right : mg "_law_right" = some (.ref (He.ga K "_law_right")) := (He.glo_ok X G (c.d.fact 43 (f := .glo "_law_right") rfl))
  have b__law_refusal : Binds K fd__law_refusal ["_law_tell"] [] := F__law_refusal.binds fun _ _ _ _ _ _ us hl => match us, hl with | [_], _ => rfl
  have m__law_refusal : mg "_law_refusal" = some (.ref (He.ga K "_law_refusal")) := (He.glo_ok X G (c.d.fact 44 (f := .glo "_law_refusal") rfl))
  have b__law_twelve : Binds K fd__law_twelve [] [] := F__law_twelve.binds fun _ _ _ _ _ _ us hl => match us, hl with | [], _ => rfl
  have m__law_twelve : mg "_law_twelve" = some (.ref (He.ga K "_law_twelve")) := (He.glo_ok X G (c.d.fact 45 (f := .glo "_law_twelve") rfl))
  have b__law_begin : Binds K fd__law_begin ["_law_script"] [] := F__law_begin.binds fun _ _ _ _ _ _ us hl => match us, hl with | [_], _ => rfl
  have m__law_begin : mg "_law_begin" = some (.ref (He.ga K "_law_begin")) := (He.glo_ok X G (c.d.fact 46 (f := .glo "_law_begin") rfl))
  have b__law_draw : Binds K fd__law_draw ["_law_state", "_law_limit"] [] := F__law_draw.binds fun _ _ _ _ _ _ us hl => match us, hl with | [_, _], _ => rfl
  have m__law_draw : mg "_law_draw" = some (.ref (He.ga K "_law_draw")) := (He.glo_ok X G (c.d.fact 47 (f := .glo "_law_draw") rfl))
  have b__law_marks : Binds K fd__law_marks ["_law_state", "_law_size", "_law_many_so"] [] := F__law_marks.binds fun _ _ _ _ _ _ us hl => match us, hl with | [_, _, _], _ => rfl
  have m__law_marks : mg "_law_marks" = some (.ref (He.ga K "_law_marks")) := (He.glo_ok X G (c.d.fact 48 (f := .glo "_law_marks") rfl))
  have b__law_as_all : Binds K fd__law_as_all ["_law_state", "_law_spots"] [] := F__law_as_all.binds fun _ _ _ _ _ _ us hl => match us, hl with | [_, _], _ => rfl
  have m__law_as_all : mg "_law_as_all" = some (.ref (He.ga K "_law_as_all")) := (He.glo_ok X G (c.d.fact 49 (f := .glo "_law_as_all") rfl))
  have b_law : Binds K fd_law ["_law_script"] [] := F_law.binds fun _ _ _ _ _ _ us hl => match us, hl with | [_], _ => rfl
  have e := hfa.symm.trans (He.glo_ok X G (c.d.fact 50 (f := .glo "law") rfl))
  cases e
  obtain ⟨oc, od, kV, doc, pm, an, cdv, ct, osl, efd, lk, hcd⟩ := F__law_twelve.ex
  obtain ⟨cc, ecc⟩ := He.codeIn_ref hcd
  have ecode : fd__law_twelve.code = .ref cc := by rw [efd]; exact ecc
  have ecT : (He.cT K ("_law_twelve", none)).1 = cc := He.codeOf_eq (p := ("_law_twelve", none)) lk ecode
  have hC : PySem.W.CodeHd h cc (He.cT K ("_law_twelve", none)).2 := by
    have := c.hd
    rw [ecT] at this
    exact PySem.W.codeHd_of_K X this
  refine ⟨fd_law, cc, (He.cT K ("_law_twelve", none)).2, spLaw K [((He.cT K ("_law_twelve", none)).2, ("_law_twelve.<locals>.<lambda>" : Str))], c.empty, c.out, hC, ?_, ?_, ?_⟩
  · intro s u
    obtain ⟨oc, od, kV, doc, pm, an, cdv, ct, osl, e, _, _⟩ := F_law.ex
    rw [e]
    exact .of_eq rfl
  · exact fun H a ns hl hT hS => ⟨a, ns, rfl, hS, by omega, fun p hp => by rw [List.mem_singleton.mp hp]; exact LamX.TabS.nil hT, fun _ => rfl⟩
  intro base Kb nb TB
  have D_is_from : DG Pg w K mg base 2 "is_from" g_is_from := ⟨_, _, _, ok_is_from B F_is_from, m_is_from, F_is_from.kp, b_is_from⟩
  have D_is_pair_from : DG Pg w K mg base 3 "is_pair_from" g_is_pair_from := ⟨_, _, _, ok_is_pair_from B D_is_from F_is_pair_from, m_is_pair_from, F_is_pair_from.kp, b_is_pair_from⟩
  have D_is_place : DG Pg w K mg base 4 "is_place" g_is_place := ⟨_, _, _, ok_is_place Gc0 D_is_pair_from F_is_place, m_is_place, F_is_place.kp, b_is_place⟩
  have D_taken_off : DG Pg w K mg base 2 "taken_off" g_taken_off := ⟨_, _, _, ok_taken_off  F_taken_off, m_taken_off, F_taken_off.kp, b_taken_off⟩
  have D_is_island : DG Pg w K mg base 5 "is_island" g_is_island := ⟨_, _, _, ok_is_island B Gc0 D_is_place F_is_island, m_is_island, F_is_island.kp, b_is_island⟩
  have D_need_island : DG Pg w K mg base 6 "need_island" g_need_island := ⟨_, _, _, ok_need_island D_is_island F_need_island, m_need_island, F_need_island.kp, b_need_island⟩
  have D_is_need : DG Pg w K mg base 4 "is_need" g_is_need := ⟨_, _, _, ok_is_need B Gc0 D_is_pair_from F_is_need, m_is_need, F_is_need.kp, b_is_need⟩
  have D_odd_set : DG Pg w K mg base 5 "odd_set" g_odd_set := ⟨_, _, _, ok_odd_set B Gc0 D_is_need F_odd_set, m_odd_set, F_odd_set.kp, b_odd_set⟩
  have D_has_all : DG Pg w K mg base 2 "has_all" g_has_all := ⟨_, _, _, ok_has_all  F_has_all, m_has_all, F_has_all.kp, b_has_all⟩
  have D_need_rule : DG Pg w K mg base 6 "need_rule" g_need_rule := ⟨_, _, _, ok_need_rule B D_odd_set D_has_all F_need_rule, m_need_rule, F_need_rule.kp, b_need_rule⟩
  have D_holds_one : DG Pg w K mg base 3 "holds_one" g_holds_one := ⟨_, _, _, ok_holds_one D_has_all F_holds_one, m_holds_one, F_holds_one.kp, b_holds_one⟩
  have D_least_of : DG Pg w K mg base 4 "least_of" g_least_of := ⟨_, _, _, ok_least_of B D_holds_one F_least_of, m_least_of, F_least_of.kp, b_least_of⟩
  have D_counted : DG Pg w K mg base 2 "counted" g_counted := ⟨_, _, _, ok_counted B Gc0 F_counted, m_counted, F_counted.kp, b_counted⟩
  have D_is_lesser : DG Pg w K mg base 7 "is_lesser" g_is_lesser := ⟨_, _, _, ok_is_lesser D_need_rule D_holds_one F_is_lesser, m_is_lesser, F_is_lesser.kp, b_is_lesser⟩
  have D_joined_need : DG Pg w K mg base 2 "joined_need" g_joined_need := ⟨_, _, _, ok_joined_need B F_joined_need, m_joined_need, F_joined_need.kp, b_joined_need⟩
  have D_either_so : DG Pg w K mg base 5 "either_so" g_either_so := ⟨_, _, _, ok_either_so D_counted D_least_of F_either_so, m_either_so, F_either_so.kp, b_either_so⟩
  have D_both_so : DG Pg w K mg base 5 "both_so" g_both_so := ⟨_, _, _, ok_both_so D_joined_need D_counted D_least_of F_both_so, m_both_so, F_both_so.kp, b_both_so⟩
  have D_bars_so : DG Pg w K mg base 5 "bars_so" g_bars_so := ⟨_, _, _, ok_bars_so B D_counted D_least_of F_bars_so, m_bars_so, F_bars_so.kp, b_bars_so⟩
  have D_is_spread : DG Pg w K mg base 4 "is_spread" g_is_spread := ⟨_, _, _, ok_is_spread B Gc0 D_is_pair_from F_is_spread, m_is_spread, F_is_spread.kp, b_is_spread⟩
  have D_has_form : DG Pg w K mg base 5 "has_form" g_has_form := ⟨_, _, _, ok_has_form B Gc0 D_is_pair_from D_is_from D_is_spread F_has_form, m_has_form, F_has_form.kp, b_has_form⟩
  have D_parts_of : DG Pg w K mg base 2 "parts_of" g_parts_of := ⟨_, _, _, ok_parts_of  F_parts_of, m_parts_of, F_parts_of.kp, b_parts_of⟩
  have D_need_term : DG Pg w K mg base 6 "need_term" g_need_term := ⟨_, _, _, ok_need_term B Gc0 D_has_form D_parts_of F_need_term, m_need_term, F_need_term.kp, b_need_term⟩
  have D_need_spread : DG Pg w K mg base 5 "need_spread" g_need_spread := ⟨_, _, _, ok_need_spread D_is_spread F_need_spread, m_need_spread, F_need_spread.kp, b_need_spread⟩
  have D_grown : DG Pg w K mg base 6 "grown" g_grown := ⟨_, _, _, ok_grown B D_need_spread F_grown, m_grown, F_grown.kp, b_grown⟩
  have D_eaten : DG Pg w K mg base 6 "eaten" g_eaten := ⟨_, _, _, ok_eaten B D_need_spread F_eaten, m_eaten, F_eaten.kp, b_eaten⟩
  have D_chosen_sets : DG Pg w K mg base 2 "chosen_sets" g_chosen_sets := ⟨_, _, _, ok_chosen_sets B F_chosen_sets, m_chosen_sets, F_chosen_sets.kp, b_chosen_sets⟩
  have D_count_sets : DG Pg w K mg base 2 "count_sets" g_count_sets := ⟨_, _, _, ok_count_sets B F_count_sets, m_count_sets, F_count_sets.kp, b_count_sets⟩
  have D_rank_rule : DG Pg w K mg base 3 "rank_rule" g_rank_rule := ⟨_, _, _, ok_rank_rule B Gc0 D_count_sets D_chosen_sets F_rank_rule, m_rank_rule, F_rank_rule.kp, b_rank_rule⟩
  have D_rule_so0 : DG Pg w K mg base 4 "rule_so" g_rule_so0 := ⟨_, _, _, ok_rule_so0 D_rank_rule F_rule_so, m_rule_so, F_rule_so.kp, b_rule_so⟩
  have D_joined_rules0 : DG Pg w K mg base 6 "joined_rules" g_joined_rules0 := ⟨_, _, _, ok_joined_rules0 D_rule_so0 D_either_so D_both_so F_joined_rules, m_joined_rules, F_joined_rules.kp, b_joined_rules⟩
  have D_rule_so1 : DG Pg w K mg base 7 "rule_so" g_rule_so1 := ⟨_, _, _, ok_rule_so1 D_rank_rule D_joined_rules0 D_bars_so D_rule_so0 F_rule_so, m_rule_so, F_rule_so.kp, b_rule_so⟩
  have D_joined_rules1 : DG Pg w K mg base 8 "joined_rules" g_joined_rules1 := ⟨_, _, _, ok_joined_rules1 D_rule_so1 D_either_so D_both_so F_joined_rules, m_joined_rules, F_joined_rules.kp, b_joined_rules⟩
  have D_rule_so2 : DG Pg w K mg base 9 "rule_so" g_rule_so2 := ⟨_, _, _, ok_rule_so2 D_rank_rule D_joined_rules1 D_bars_so D_rule_so1 F_rule_so, m_rule_so, F_rule_so.kp, b_rule_so⟩
  have D_term_rule : DG Pg w K mg base 7 "term_rule" g_term_rule := ⟨_, _, _, ok_term_rule D_rule_so0 D_need_term F_term_rule, m_term_rule, F_term_rule.kp, b_term_rule⟩
  have D_terms_alike : DG Pg w K mg base 10 "terms_alike" g_terms_alike := ⟨_, _, _, ok_terms_alike D_need_term D_rule_so2 F_terms_alike, m_terms_alike, F_terms_alike.kp, b_terms_alike⟩
  have D_check_again : DG Pg w K mg base 3 "check_again" g_check_again := ⟨_, _, _, ok_check_again Gc0 D_parts_of F_check_again, m_check_again, F_check_again.kp, b_check_again⟩
  have D_law_mixed : DG Pg w K mg base 2 "_law_mixed" g_law_mixed := ⟨_, _, _, ok_law_mixed B F__law_mixed, m__law_mixed, F__law_mixed.kp, b__law_mixed⟩
  have D_law_subsets : DG Pg w K mg base 2 "_law_subsets" g_law_subsets := ⟨_, _, _, ok_law_subsets  F__law_subsets, m__law_subsets, F__law_subsets.kp, b__law_subsets⟩
  have D_law_sets : DG Pg w K mg base 3 "_law_sets" g_law_sets := ⟨_, _, _, ok_law_sets B D_law_subsets F__law_sets, m__law_sets, F__law_sets.kp, b__law_sets⟩
  have D_table_of : DG Pg w K mg base 2 "table_of" g_table_of := ⟨_, _, _, ok_table_of  F_table_of, m_table_of, F_table_of.kp, b_table_of⟩
  have D_check_odd : DG Pg w K mg base 2 "check_odd" g_check_odd := ⟨_, _, _, ok_check_odd B Gc0 F_check_odd, m_check_odd, F_check_odd.kp, b_check_odd⟩
  have D_ranked_picture : DG Pg w K mg base 3 "ranked_picture" g_ranked_picture := ⟨_, _, _, ok_ranked_picture B D_taken_off D_table_of F_ranked_picture, m_ranked_picture, F_ranked_picture.kp, b_ranked_picture⟩
  have D_picture_behind : DG Pg w K mg base 4 "picture_behind" g_picture_behind := ⟨_, _, _, ok_picture_behind D_check_odd D_ranked_picture F_picture_behind, m_picture_behind, F_picture_behind.kp, b_picture_behind⟩
  have D_term_stepped : DG Pg w K mg base 7 "term_stepped" g_term_stepped := ⟨_, _, _, ok_term_stepped B D_need_term D_need_island D_check_again D_picture_behind D_table_of F_term_stepped, m_term_stepped, F_term_stepped.kp, b_term_stepped⟩
  have D_law_counted_marks : DG Pg w K mg base 2 "_law_counted_marks" g_law_counted_marks := ⟨_, _, _, ok_law_counted_marks B F__law_counted_marks, m__law_counted_marks, F__law_counted_marks.kp, b__law_counted_marks⟩
  have D_law_like : DGG Pg w K mg base 2 "_law_like" g_law_like := ⟨_, _, _, ok_law_like B F__law_like, m__law_like, F__law_like.kp, b__law_like⟩
  have D_law_right : DGG Pg w K mg base 11 "_law_right" g_law_right := ⟨_, _, _, ok_law_right B D_law_sets D_law_like D_law_counted_marks D_term_stepped D_term_rule D_terms_alike D_is_lesser D_eaten D_grown F__law_right, m__law_right, F__law_right.kp, b__law_right⟩
  have X_rank : DX Pg w K mg base (aC K) 4 "rank_rule" (spX (aC K) cRank) := ⟨_, _, _, okX_rank_rule B Gc0 D_count_sets Z hTG F_rank_rule, m_rank_rule, F_rank_rule.kp, b_rank_rule⟩
  have X_so : DX Pg w K mg base (aC K) 5 "rule_so" (spX (aC K) cSo) := ⟨_, _, _, okX_rule_so X_rank F_rule_so, m_rule_so, F_rule_so.kp, b_rule_so⟩
  have X_tr : DX Pg w K mg base (aC K) 10 "term_rule" (spTR (aC K)) := ⟨_, _, _, FnOk.orX (ok_term_rule D_rule_so0 D_need_term F_term_rule) (okX_term_rule D_need_term X_so F_term_rule) (by omega) (by omega), m_term_rule, F_term_rule.kp, b_term_rule⟩
  have D_tw : DSG Pg w K mg base 14 "_law_twelve" (spTw [((He.cT K ("_law_twelve", none)).2, ("_law_twelve.<locals>.<lambda>" : Str))]) := ⟨_, _, _, ok_law_twelve TW B X_tr D_law_like R TB rfl F__law_refusal m__law_refusal b__law_refusal F__law_twelve ecode, m__law_twelve, F__law_twelve.kp, b__law_twelve⟩
  have D_draw : DS Pg w K mg base 3 "_law_draw" spDraw := ⟨_, _, _, ok_law_draw B D_law_mixed F__law_draw, m__law_draw, F__law_draw.kp, b__law_draw⟩
  have D_begin : DS Pg w K mg base 2 "_law_begin" (spBegin K) := ⟨_, _, _, ok_law_begin B F__law_begin, m__law_begin, F__law_begin.kp, b__law_begin⟩
  have D_marks : DS Pg w K mg base 4 "_law_marks" spMarks := ⟨_, _, _, ok_law_marks B D_draw F__law_marks, m__law_marks, F__law_marks.kp, b__law_marks⟩
  have D_asall : DS Pg w K mg base 11 "_law_as_all" spAsAll := ⟨_, _, _, ok_law_as_all B D_draw D_law_sets D_terms_alike F__law_as_all, m__law_as_all, F__law_as_all.kp, b__law_as_all⟩
  have D_right : DSG Pg w K mg base 11 "_law_right" (spG g_law_right) := by
    obtain ⟨f, fd, ps, Fn, m1, m2, m3⟩ := D_law_right.ex
    exact ⟨f, fd, ps, Fn, m1, m2, m3⟩
  exact ok_law PL B D_begin D_marks D_right D_asall D_tw F_law
end Al
set_option Elab.async false
set_option linter.all false
set_option maxRecDepth 100000
set_option maxHeartbeats 0
open PySem PySem.W PySem.Calls PyProof.Rows
theorem Al.law_holds (PL : Al.PlainLaw) (TW : Al.Tw) : PySem.Challenge.rw_allislands_k16_whole_ranks.Holds := by
  w_on; o_law
  refine HandSHeadRun.head_any (r := OpenLaw.row PySem.Challenge.rw_allislands_k16_whole_ranks) (q := view (OpenLaw.row PySem.Challenge.rw_allislands_k16_whole_ranks).prog [86]) (H := Al.hkY) (ob := Al.obY) (M := 20000) (loose := Al.looseL) (d := HandSHeadRun.topDef (OpenLaw.row PySem.Challenge.rw_allislands_k16_whole_ranks).prog 86) (kwd := []) Al.obY_eq
    (by kernel_rfl) (fun s => by kernel_rfl) Al.runY (by kernel_rfl) (by kernel_rfl) (by kernel_rfl) (by rfl) (by first | assumption | decide +kernel) (by decide +kernel) ⟨rfl, rfl, rfl, rfl, rfl, by decide +kernel⟩ ?hw ?hc
  case hw => w_witness2
  case hc =>
    refine Ai.walk_end (l := PySem.Challenge.rw_allislands_k16_whole_ranks) (n := 63) (k := 15) (x := "_law_script") rfl (by decide) (by kernel_rfl) ⟨rfl, by decide, by decide⟩ ?F
    intro w mg fa h Y G hmg0
    obtain ⟨K, KX, c⟩ := Y
    have hmg : mg ("law" : PySem.Str) = some (.ref fa) := by
      have e : (HandSHeadRun.topDef (OpenLaw.row PySem.Challenge.rw_allislands_k16_whole_ranks).prog 86).name = ("law" : PySem.Str) := by kernel_rfl
      rw [← e]
      exact hmg0
    obtain ⟨fd, cc, T, sp, h1, h2, h3, h4, h5, h6⟩ := Al.law_facts PL TW (w := w) KX G hmg c
    exact ⟨K, fd, cc, T, sp, KX, h1, h2, h3, h4, h5, h6⟩
set_option Elab.async false
set_option linter.all false
set_option maxRecDepth 100000
set_option maxHeartbeats 4000000
/-! Al, plain part B: the mirrors of has_all, holds_one, least_of, counted, joined_need, either_so, both_so, bars_so. -/
namespace Al
open PySem Ai
def retO : Out → Option Val
  | .rt x => some x
  | .nx _ => some (.im .none)
  | _ => none
/-! ### data -/
def rD (r : List Nd) : PyData := .tuple (r.map nD)
theorem lay_rAll : ∀ r : List Nd, PyData.canLayAll0 (r.map nD) = true
  | [] => rfl
  | n :: r => by simp only [List.map_cons, PyData.canLayAll0, lay_nD, lay_rAll r, Bool.and_self]
theorem depth_rAll : ∀ r : List Nd, PyData.depthAll (r.map nD) ≤ 2
  | [] => by simp [PyData.depthAll]
  | n :: r => by
    have h1 := depth_nD n
    have h2 := depth_rAll r
    simp only [List.map_cons, PyData.depthAll]
    omega
theorem shaped_pD (p : Pl) : SeqAt.shaped (pD p) = true := by
  unfold SeqAt.shaped
  rw [lay_pD, depth_pD]
  rfl
theorem shaped_rD (r : List Nd) : SeqAt.shaped (rD r) = true := by
  unfold SeqAt.shaped rD
  have := depth_rAll r
  simp only [PyData.canLay0, lay_rAll, Bool.true_and, PyData.depth]
  exact decide_eq_true (by omega)
theorem shaped_ones : ∀ n : Nat, SeqAt.shaped (.list (List.replicate n (.int 1))) = true := fun n => by
  have h1 : ∀ n, PyData.canLayAll0 (List.replicate n (.int 1)) = true := fun n => by
    induction n with
    | zero => rfl
    | succ n ih => simp [List.replicate_succ, PyData.canLayAll0, PyData.canLay0, ih]
  have h2 : ∀ n, PyData.depthAll (List.replicate n (.int 1)) ≤ 1 := fun n => by
    induction n with
    | zero => simp [PyData.depthAll]
    | succ n ih =>
      simp only [List.replicate_succ, PyData.depthAll, PyData.depth]
      omega
  unfold SeqAt.shaped
  have := h2 n
  simp only [PyData.canLay0, h1, Bool.true_and, PyData.depth]
  exact decide_eq_true (by omega)
theorem gEq_im {d e : PyData} (hd : SeqAt.shaped d = true) (he : SeqAt.shaped e = true) : gEq (.im d) (.im e) = some (.im (.bool (PyData.eqv d e))) := by
  simp [gEq, isD, toD, hd, he]
theorem gNe_im {d e : PyData} (hd : SeqAt.shaped d = true) (he : SeqAt.shaped e = true) : gNe (.im d) (.im e) = some (.im (.bool (!PyData.eqv d e))) := by
  simp [gNe, isD, toD, hd, he]
theorem gIn_im {neg : Bool} {d : PyData} {ds : List PyData} (hd : SeqAt.shaped d = true) (he : SeqAt.shaped (.tuple ds) = true) : gIn neg (.im d) (.im (.tuple ds)) = some (.im (.bool (if neg then !(ds.any fun z => PyData.eqv z d) else ds.any fun z => PyData.eqv z d))) := by
  simp [gIn, hd, he]
theorem any_pD (p : Pl) (n : Nd) {i : Decidable (p ∈ n)} : ((n.map pD).any fun z => PyData.eqv z (pD p)) = decide (p ∈ n) := by
  rw [Bool.eq_iff_iff]
  simp only [List.any_eq_true, List.mem_map, decide_eq_true_eq]
  constructor
  · rintro ⟨_, ⟨q, hq, rfl⟩, e⟩
    rw [eqv_pD, decide_eq_true_eq] at e
    exact e ▸ hq
  · exact fun h => ⟨_, ⟨p, h, rfl⟩, by rw [eqv_pD]; simp⟩
theorem eqvAll_nD : ∀ n m : List Nd, PyData.eqvAll (n.map nD) (m.map nD) = decide (n = m)
  | [], [] => by simp [PyData.eqvAll]
  | [], _ :: _ => by simp [PyData.eqvAll]
  | _ :: _, [] => by simp [PyData.eqvAll]
  | a :: n, b :: m => by
    rw [List.map_cons, List.map_cons, PyData.eqvAll, eqv_nD, eqvAll_nD n m]
    by_cases h : a = b
    · subst h; simp
    · simp [h]
theorem eqv_rD (r q : List Nd) : PyData.eqv (rD r) (rD q) = decide (r = q) := by
  unfold rD PyData.eqv
  exact eqvAll_nD r q
/-! ### [1 for x in .. if ..] == [], != [] -/
theorem ones_of (f : PyData → Bool) : ∀ ds : List PyData, ∃ n, ds.filterMap (fun d => if f d then some (PyData.int 1) else none) = List.replicate n (.int 1) ∧ (n = 0 ↔ ds.any f = false)
  | [] => ⟨0, rfl, by simp⟩
  | d :: ds => by
    obtain ⟨n, h1, h2⟩ := ones_of f ds
    cases h : f d with
    | true => exact ⟨n + 1, by rw [List.filterMap_cons_some (by rw [h]; rfl), h1]; rfl, by simp [h]⟩
    | false => exact ⟨n, by rw [List.filterMap_cons_none (by rw [h]; rfl), h1], by simp [h, h2]⟩
theorem comp1 {src : Src} {vs : List Nat} {b : En → PyData → Option En} {t : Te} {ρ : En} {ds : List PyData} {f : PyData → Bool} (hs : src ρ = some ds) (h : ∀ d ∈ ds, (b (wipeE ρ vs) d).bind t = some (f d)) (hl : ds.length ≤ 1000000) :
    ∃ n, eComp src vs b t (eC (.int 1)) ρ = some (.ls true (List.replicate n (.int 1))) ∧ (n = 0 ↔ ds.any f = false) := by
  obtain ⟨n, h1, h2⟩ := ones_of f ds
  refine ⟨n, ?_, h2⟩
  rw [comp_eq (f := fun d => if f d then some (PyData.int 1) else none) hs (fun d hd => ?_) hl, h1]
  have := h d hd
  unfold turnC
  obtain ⟨ρ', e1, e2⟩ := bindS this
  rw [e1, Option.bind_some, e2, Option.bind_some]
  cases f d <;> rfl
theorem none_of {src : Src} {vs : List Nat} {b : En → PyData → Option En} {t : Te} {ρ : En} {ds : List PyData} {f : PyData → Bool} (hs : src ρ = some ds) (h : ∀ d ∈ ds, (b (wipeE ρ vs) d).bind t = some (f d)) (hl : ds.length ≤ 1000000) :
    eBin gEq (eComp src vs b t (eC (.int 1))) (eLst aNil) ρ = some (.im (.bool (!ds.any f))) := by
  obtain ⟨n, h1, h2⟩ := comp1 hs h hl
  unfold eBin
  rw [h1]
  show gEq (.ls true (List.replicate n (.int 1))) (.ls true []) = _
  have e : PyData.eqv (.list (List.replicate n (.int 1))) (.list []) = !ds.any f := by
    cases n with
    | zero => rw [h2.mp rfl]; rfl
    | succ n =>
      have : ds.any f = true := by
        cases q : ds.any f with
        | true => rfl
        | false => exact absurd (h2.mpr q) (by omega)
      rw [this]
      rfl
  have s0 : SeqAt.shaped (.list []) = true := shaped_ones 0
  simp [gEq, isD, toD, shaped_ones, s0, e]
theorem some_of {src : Src} {vs : List Nat} {b : En → PyData → Option En} {t : Te} {ρ : En} {ds : List PyData} {f : PyData → Bool} (hs : src ρ = some ds) (h : ∀ d ∈ ds, (b (wipeE ρ vs) d).bind t = some (f d)) (hl : ds.length ≤ 1000000) :
    eBin gNe (eComp src vs b t (eC (.int 1))) (eLst aNil) ρ = some (.im (.bool (ds.any f))) := by
  obtain ⟨n, h1, h2⟩ := comp1 hs h hl
  unfold eBin
  rw [h1]
  show gNe (.ls true (List.replicate n (.int 1))) (.ls true []) = _
  have e : PyData.eqv (.list (List.replicate n (.int 1))) (.list []) = !ds.any f := by
    cases n with
    | zero => rw [h2.mp rfl]; rfl
    | succ n =>
      have : ds.any f = true := by
        cases q : ds.any f with
        | true => rfl
        | false => exact absurd (h2.mpr q) (by omega)
      rw [this]
      rfl
  have s0 : SeqAt.shaped (.list []) = true := shaped_ones 0
  simp [gNe, isD, toD, shaped_ones, s0, e]
/-! ### has_all, holds_one -/
theorem has_all_eq (n m : Nd) (hl : m.length ≤ 1000000) : g_has_all [.im (nD n), .im (nD m)] = some (.im (.bool (hasAll n m))) := by
  show (m_has_all [some (.im (nD n)), some (.im (nD m)), none]).bind retO = _
  unfold m_has_all sRet
  rw [none_of (ds := m.map pD) (f := fun d => !((n.map pD).any fun z => PyData.eqv z d)) rfl (fun d hd => ?_) (by rw [List.length_map]; exact hl)]
  · show some (Val.im (.bool _)) = _
    congr 3
    rw [hasAll, List.any_map, List.all_eq_not_any_not]
    exact congrArg _ (List.any_congr rfl fun x => congrArg (!·) (any_pD x n))
  · obtain ⟨p, _, rfl⟩ := List.mem_map.mp hd
    show eB (eBin (gIn true) (eVar 2) (eVar 0)) [some (.im (nD n)), some (.im (nD m)), some (.im (pD p))] = _
    unfold eB eBin eVar
    simp only [List.getElem?_cons_zero, List.getElem?_cons_succ, Val.ro, Option.bind_some]
    rw [show gIn true (.im (pD p)) (.im (nD n)) = _ from gIn_im (shaped_pD p) (shaped_nD n)]
    rfl
theorem holds_one_tl {v : Val} {ds : List PyData} {n : Nd} {r : List Nd} (hv : srcTL (eVar 1) [some (.im (nD n)), some v.ro, none] = some ds) (hds : ds = r.map nD) (hl : r.length ≤ 1000000) (hr : ∀ m ∈ r, m.length ≤ 1000000) :
    g_holds_one [.im (nD n), v] = some (.im (.bool (holdsOne n r))) := by
  show (m_holds_one [some (.im (nD n)), some v.ro, none]).bind retO = _
  unfold m_holds_one sRet
  subst hds
  rw [some_of (f := fun d => match dN d with | some m => hasAll n m | none => false) hv (fun d hd => ?_) (by rw [List.length_map]; exact hl)]
  · show some (Val.im (.bool _)) = _
    congr 3
    unfold holdsOne
    rw [List.any_map]
    refine List.any_congr rfl fun m => ?_
    simp only [Function.comp_def, dN_nD]
  · obtain ⟨m, hm, rfl⟩ := List.mem_map.mp hd
    show eB (eCall g_has_all (aCons (eVar 0) (aCons (eVar 2) aNil))) [some (.im (nD n)), some v.ro, some (.im (nD m))] = _
    unfold eB eCall aCons aNil eVar
    simp only [List.getElem?_cons_zero, List.getElem?_cons_succ, Val.ro, Option.bind_some, has_all_eq n m (hr m hm), dN_nD]
theorem holds_one_ls {b : Bool} {n : Nd} {r : List Nd} (hl : r.length ≤ 1000000) (hr : ∀ m ∈ r, m.length ≤ 1000000) : g_holds_one [.im (nD n), .ls b (r.map nD)] = some (.im (.bool (holdsOne n r))) := holds_one_tl (ds := r.map nD) rfl rfl hl hr
theorem holds_one_rD {n : Nd} {r : List Nd} (hl : r.length ≤ 1000000) (hr : ∀ m ∈ r, m.length ≤ 1000000) : g_holds_one [.im (nD n), .im (rD r)] = some (.im (.bool (holdsOne n r))) := holds_one_tl (ds := r.map nD) rfl rfl hl hr
end Al
set_option Elab.async false
set_option linter.all false
set_option maxRecDepth 100000
set_option maxHeartbeats 4000000
/-! Al, plain part C: least_of, counted, joined_need, either_so, both_so. -/
namespace Al
open PySem Ai
theorem forL_cons {b : En → PyData → Option En} {body : Bk} {d : PyData} {ds : List PyData} {ρ ρ1 ρ2 : En} (h1 : b ρ d = some ρ1) (h2 : body ρ1 = some (.nx ρ2)) : forL b body (d :: ds) ρ = forL b body ds ρ2 := by
  simp [forL, h1, h2]
theorem lenOk_le {n : Nat} (h : n ≤ 1000000) : lenOk n = true := decide_eq_true h
/-! ### sorted -/
theorem lenD_nD (n : Nd) : lenD (nD n) = n.length := by
  show (n.map pD).length = n.length
  simp
theorem sortL_nD (ns : List Nd) : isort ltL (ns.map nD) = (isort ltLen ns).map nD := isort_map (fun a b => by unfold ltL ltLen; rw [lenD_nD, lenD_nD]) ns
theorem gSort_nD {ns : List Nd} (h : ∀ n ∈ ns, 0 < n.length) (hl : ns.length ≤ 1000000) : gSort (ns.map nD) = some ((isort ltN ns).map nD) := by
  cases ns with
  | nil => rfl
  | cons n ns =>
    have hn := h n (List.mem_cons_self ..)
    have e1 : mapO dP ((n :: ns).map nD) = none := by
      cases n with
      | nil => simp at hn
      | cons p n => rfl
    have e2 : mapO dN ((n :: ns).map nD) = some (n :: ns) := mapO_map dN_nD _
    unfold gSort
    rw [e1, e2]
    have e3 : (lenOk (n :: ns).length && (decide ((n :: ns).length ≤ 1) || (n :: ns).all fun n => !n.isEmpty)) = true := by
      rw [lenOk_le hl, Bool.true_and, Bool.or_eq_true]
      right
      rw [List.all_eq_true]
      intro m hm
      have := h m hm
      cases m with
      | nil => simp at this
      | cons _ _ => rfl
    dsimp only
    rw [if_pos e3]
theorem gSort_pD {ps : List Pl} (hl : ps.length ≤ 1000000) : gSort (ps.map pD) = some ((isort ltP ps).map pD) := by
  unfold gSort
  rw [mapO_map dP_pD]
  dsimp only
  rw [lenOk_le hl, if_pos rfl]
/-! ### least_of -/
theorem keep_loop {v : Val} : ∀ (l kept : List Nd) (x : Option Val), l.length + kept.length ≤ 1000000 → (∀ m ∈ l, m.length ≤ 1000000) → (∀ m ∈ kept, m.length ≤ 1000000) →
    ∃ y, forL (bName 2) (sIf (tNotE (eB (eCall g_holds_one (aCons (eVar 2) (aCons (eVar 1) aNil))))) (sApp 1 (eVar 2)) sNext) (l.map nD) [some v, some (.ls true (kept.map nD)), x] = some (.nx [some v, some (.ls true ((l.foldl keep1 kept).map nD)), y]) ∧ (l.foldl keep1 kept).length ≤ l.length + kept.length
  | [], kept, x, _, _, _ => ⟨x, rfl, by simp⟩
  | n :: l, kept, x, h1, h2, h3 => by
    rw [List.length_cons] at h1
    have hho : g_holds_one [.im (nD n), .ls false (kept.map nD)] = some (.im (.bool (holdsOne n kept))) := holds_one_ls (by omega) h3
    have ht : tNotE (eB (eCall g_holds_one (aCons (eVar 2) (aCons (eVar 1) aNil)))) [some v, some (.ls true (kept.map nD)), some (.im (nD n))] = some (!holdsOne n kept) := by
      unfold tNotE eB eCall aCons aNil eVar
      simp only [List.getElem?_cons_zero, List.getElem?_cons_succ, Val.ro, Option.bind_some, hho, Option.map_some]
    have hk : (keep1 kept n).length ≤ kept.length + 1 := by
      unfold keep1
      split
      · omega
      · simp
    obtain ⟨y, e1, e2⟩ := keep_loop (v := v) l (keep1 kept n) (some (.im (nD n))) (by omega) (fun m hm => h2 m (List.mem_cons_of_mem _ hm)) (fun m hm => by
      unfold keep1 at hm
      split at hm
      · exact h3 m hm
      · rcases List.mem_append.mp hm with hm | hm
        · exact h3 m hm
        · rw [List.mem_singleton.mp hm]; exact h2 n (List.mem_cons_self ..))
    refine ⟨y, ?_, by rw [List.foldl_cons, List.length_cons]; omega⟩
    rw [List.map_cons, List.foldl_cons, ← e1]
    refine forL_cons (ρ1 := [some v, some (.ls true (kept.map nD)), some (.im (nD n))]) rfl ?_
    unfold sIf
    rw [ht, Option.bind_some]
    unfold keep1
    cases holdsOne n kept with
    | true => rfl
    | false =>
      show sApp 1 (eVar 2) [some v, some (.ls true (kept.map nD)), some (.im (nD n))] = _
      unfold sApp eVar
      simp only [List.getElem?_cons_zero, List.getElem?_cons_succ, Val.ro, Option.bind_some, List.length_map, lenOk_le (show kept.length ≤ 1000000 by omega), if_true, List.set_cons_zero, List.set_cons_succ, Bool.false_eq_true, if_false, List.map_append, List.map_cons, List.map_nil]
theorem okNs_iff {ns : List Nd} (h : okNs ns = true) : ns.length ≤ 1000 ∧ ∀ n ∈ ns, 0 < n.length ∧ n.length ≤ 30 := by
  unfold okNs at h
  simp only [Bool.and_eq_true, decide_eq_true_eq, List.all_eq_true] at h
  exact h
theorem isort_mem {α : Type} {l : α → α → Bool} {x : α} {xs : List α} : x ∈ isort l xs ↔ x ∈ xs := (isort_perm xs).mem_iff
theorem keep_sub : ∀ (l kept : List Nd) (m : Nd), m ∈ l.foldl keep1 kept → m ∈ l ∨ m ∈ kept
  | [], kept, m, h => .inr h
  | n :: l, kept, m, h => by
    rcases keep_sub l (keep1 kept n) m h with h | h
    · exact .inl (List.mem_cons_of_mem _ h)
    · unfold keep1 at h
      split at h
      · exact .inr h
      · rcases List.mem_append.mp h with h | h
        · exact .inr h
        · rw [List.mem_singleton.mp h]; exact .inl (List.mem_cons_self ..)
theorem leastOf_sub {ns : List Nd} {m : Nd} (h : m ∈ leastOf ltP ns) : m ∈ ns := by
  unfold leastOf at h
  rcases keep_sub _ _ _ (isort_mem.mp h) with h | h
  · exact isort_mem.mp h
  · cases h
theorem least_of_eq {v : Val} {ns : List Nd} (hv : itemsV v.ro = some (ns.map nD)) (h : okNs ns = true) : g_least_of [v] = some (.im (rD (leastOf ltP ns))) := by
  obtain ⟨h1, h2⟩ := okNs_iff h
  show (m_least_of [some v.ro, none, none]).bind retO = _
  have hs : gSortL [v.ro.ro] = some (.ls true ((isort ltLen ns).map nD)) := by
    have : v.ro.ro = v.ro := by cases v <;> rfl
    rw [this]
    show (itemsV v.ro).bind _ = _
    rw [hv, Option.bind_some, show (ns.map nD).all isT = true from by rw [List.all_eq_true]; intro d hd; obtain ⟨n, _, rfl⟩ := List.mem_map.mp hd; rfl, if_pos rfl, sortL_nD]
  have hlen : (isort ltLen ns).length = ns.length := (isort_perm ns).length_eq
  obtain ⟨y, e1, e2⟩ := keep_loop (v := v.ro) (isort ltLen ns) [] none (by rw [hlen]; simp; omega) (fun m hm => by have := (h2 m (isort_mem.mp hm)).2; omega) (fun m hm => by cases hm)
  have e0 : m_least_of [some v.ro, none, none] = sSeq (sFor (srcN (eCall gSortL (aCons (eVar 0) aNil))) (bName 2) (sIf (tNotE (eB (eCall g_holds_one (aCons (eVar 2) (aCons (eVar 1) aNil))))) (sApp 1 (eVar 2)) sNext)) (sRet (eCall gTuple (aCons (eCall gSorted (aCons (eVar 1) aNil)) aNil))) [some v.ro, some (.ls true []), none] := rfl
  rw [e0]
  have e3 : srcN (eCall gSortL (aCons (eVar 0) aNil)) [some v.ro, some (.ls true []), none] = some ((isort ltLen ns).map nD) := by
    show (match gSortL [v.ro.ro] with | some (.ls true ds) => some ds | _ => none) = _
    rw [hs]
  unfold sSeq sFor
  rw [e3, Option.bind_some]
  have e1' : forL (bName 2) (sIf (tNotE (eB (eCall g_holds_one (aCons (eVar 2) (aCons (eVar 1) aNil))))) (sApp 1 (eVar 2)) sNext) ((isort ltLen ns).map nD) [some v.ro, some (.ls true []), none] = _ := e1
  rw [e1', Option.bind_some]
  dsimp only
  have e4 : gSorted [.ls false (((isort ltLen ns).foldl keep1 []).map nD)] = some (.ls true ((leastOf ltP ns).map nD)) := by
    show (gSort (((isort ltLen ns).foldl keep1 []).map nD)).map _ = _
    rw [gSort_nD (fun n hn => ?_) (by rw [hlen] at e2; simp at e2; omega)]
    · rfl
    · rcases keep_sub _ _ _ hn with hn | hn
      · exact (h2 n (isort_mem.mp hn)).1
      · cases hn
  show ((eCall gTuple (aCons (eCall gSorted (aCons (eVar 1) aNil)) aNil) [some v.ro, some (.ls true (((isort ltLen ns).foldl keep1 []).map nD)), y]).map Out.rt).bind retO = _
  show ((((gSorted [.ls false (((isort ltLen ns).foldl keep1 []).map nD)]).bind fun x => some [x]).bind gTuple).map Out.rt).bind retO = _
  rw [e4]
  rfl
/-! ### counted -/
theorem gRel_int {f : Int → Int → Bool} {a b : Int} : gRel f (.im (.int a)) (.im (.int b)) = some (.im (.bool (f a b))) := by
  simp [gRel, okD, SeqAt.shaped, PyData.canLay0, PyData.depth, ordD]
theorem counted_eq {r : List Nd} (h : r.length ≤ 60) : g_counted [.im (rD r)] = some (.im (rD r)) := by
  show (m_counted [some (.im (rD r))]).bind retO = _
  have e : eB (eBin (gRel fGt) (eCall gLen (aCons (eVar 0) aNil)) (eC (.int 60))) [some (.im (rD r))] = some false := by
    show (match gRel fGt (.im (.int (((r.map nD).length : Nat) : Int))) (.im (.int 60)) with | some (.im (.bool b)) => some b | _ => none) = _
    rw [gRel_int, List.length_map]
    simp only [fGt, Option.some.injEq, decide_eq_false_iff_not]
    omega
  unfold m_counted sSeq sIf
  rw [e]
  rfl
/-- counted(least_of(..)) -/
theorem leastC_eq {v : Val} {ns r : List Nd} (hv : itemsV v.ro = some (ns.map nD)) (h : leastC ltP ns = some r) : ((g_least_of [v]).bind fun x => some [x]).bind g_counted = some (.im (rD r)) := by
  unfold leastC at h
  split at h
  · rename_i ho
    rw [least_of_eq hv ho]
    unfold cnt at h
    split at h
    · rename_i hc
      cases h
      exact counted_eq (of_decide_eq_true hc)
    · cases h
  · cases h
theorem leastC_len {ns r : List Nd} (h : leastC ltP ns = some r) : r.length ≤ 60 ∧ okNs ns = true ∧ ∀ n ∈ r, 0 < n.length ∧ n.length ≤ 30 := by
  unfold leastC at h
  split at h
  · rename_i ho
    unfold cnt at h
    split at h
    · rename_i hc
      cases h
      exact ⟨of_decide_eq_true hc, ho, fun n hn => (okNs_iff ho).2 n (leastOf_sub hn)⟩
    · cases h
  · cases h
/-! ### either_so, joined_need, both_so -/
theorem gAdd_tup {a b : List PyData} (h : a.length + b.length ≤ 1000000) : gAdd (.im (.tuple a)) (.im (.tuple b)) = some (.im (.tuple (a ++ b))) := by
  simp [gAdd, gI, gCatT, lenOk_le h]
theorem either_so_eq {a b r : List Nd} (ha : a.length + b.length ≤ 1000000) (h : eitherT ltP a b = some r) : g_either_so [.im (rD a), .im (rD b)] = some (.im (rD r)) := by
  show ((((((gAdd (.im (rD a)) (.im (rD b))).bind fun x => some [x]).bind g_least_of).bind fun x => some [x]).bind g_counted).map Out.rt).bind retO = _
  rw [show gAdd (.im (rD a)) (.im (rD b)) = some (.im (rD (a ++ b))) from by unfold rD; rw [gAdd_tup (by simpa using ha), List.map_append]]
  have := leastC_eq (v := .im (rD (a ++ b))) rfl h
  show ((((g_least_of [.im (rD (a ++ b))]).bind fun x => some [x]).bind g_counted).map Out.rt).bind retO = _
  rw [this]
  rfl
theorem joined_need_eq {a b : Nd} (h : a.length + b.length < 64) : g_joined_need [.im (nD a), .im (nD b)] = some (.im (nD (joinN ltP a b))) := by
  show ((((((gAdd (.im (nD a)) (.im (nD b))).bind fun x => some [x]).bind gSortSet).bind fun x => some [x]).bind gTuple).map Out.rt).bind retO = _
  rw [show gAdd (.im (nD a)) (.im (nD b)) = some (.im (nD (a ++ b))) from by unfold nD; rw [gAdd_tup (by simp; omega), List.map_append]]
  show ((((gSortSet [.im (nD (a ++ b))]).bind fun x => some [x]).bind gTuple).map Out.rt).bind retO = _
  rw [show gSortSet [.im (nD (a ++ b))] = some (.ls true ((isort ltP (ddp (a ++ b))).map pD)) from by
    show (mapO dP ((a ++ b).map pD)).bind _ = _
    rw [mapO_map dP_pD, Option.bind_some, if_pos (decide_eq_true (by rw [List.length_append]; exact h))]]
  rfl
end Al
set_option Elab.async false
set_option linter.all false
set_option maxRecDepth 100000
set_option maxHeartbeats 4000000
/-! Al, plain part D: both_so, bars_so. -/
namespace Al
open PySem Ai
/-! ### both_so -/
def bothBody : Bk := sExt 2 (eComp (srcT (eVar 1)) [4] (bName 4) tTrue (eCall g_joined_need (aCons (eVar 3) (aCons (eVar 4) aNil))))
theorem both_comp {a : Val} {b : List Nd} {f : Val} {x : Nd} {z : Option Val} (hl : b.length ≤ 1000000) (h : ∀ y ∈ b, x.length + y.length < 64) :
    eComp (srcT (eVar 1)) [4] (bName 4) tTrue (eCall g_joined_need (aCons (eVar 3) (aCons (eVar 4) aNil))) [some a, some (.im (rD b)), some f, some (.im (nD x)), z] = some (.ls true ((b.map (joinN ltP x)).map nD)) := by
  rw [comp_eq (ds := b.map nD) (f := fun d => match dN d with | some m => some (nD (joinN ltP x m)) | none => none) rfl (fun d hd => ?_) (by rw [List.length_map]; exact hl)]
  · congr 2
    rw [List.filterMap_map, List.map_map]
    clear h hl
    induction b with
    | nil => rfl
    | cons y b ih => rw [List.filterMap_cons_some (by simp only [Function.comp_def, dN_nD]; rfl), List.map_cons, ih]; rfl
  · obtain ⟨m, hm, rfl⟩ := List.mem_map.mp hd
    show ((g_joined_need [.im (nD x), .im (nD m)]).bind fun x => match x with | .im y => some (some y) | _ => none) = _
    rw [joined_need_eq (h m hm), dN_nD]
    rfl
theorem both_loop {a : Val} {b : List Nd} (hb : b.length ≤ 1000) : ∀ (l f : List Nd) (y z : Option Val), f.length + l.length * b.length ≤ 1000000 → (∀ x ∈ l, ∀ y ∈ b, x.length + y.length < 64) →
    ∃ y' z', forL (bName 3) bothBody (l.map nD) [some a, some (.im (rD b)), some (.ls true (f.map nD)), y, z] = some (.nx [some a, some (.im (rD b)), some (.ls true ((f ++ l.flatMap fun x => b.map fun y => joinN ltP x y).map nD)), y', z'])
  | [], f, y, z, _, _ => ⟨y, z, by rw [List.flatMap_nil, List.append_nil]; rfl⟩
  | x :: l, f, y, z, h1, h2 => by
    rw [List.length_cons, Nat.add_mul, Nat.one_mul] at h1
    obtain ⟨y', z', e⟩ := both_loop hb l (f ++ b.map (joinN ltP x)) (some (.im (nD x))) z (by rw [List.length_append, List.length_map]; omega) fun w hw => h2 w (List.mem_cons_of_mem _ hw)
    refine ⟨y', z', ?_⟩
    rw [List.map_cons, List.flatMap_cons, ← List.append_assoc]
    refine (forL_cons (ρ1 := [some a, some (.im (rD b)), some (.ls true (f.map nD)), some (.im (nD x)), z]) rfl ?_).trans e
    unfold bothBody sExt
    rw [both_comp (by omega) (h2 x (List.mem_cons_self ..)), Option.bind_some]
    simp only [List.getElem?_cons_zero, List.getElem?_cons_succ, List.length_map, lenOk_le (show f.length + b.length ≤ 1000000 by omega), if_true, List.set_cons_zero, List.set_cons_succ, List.map_append]
theorem both_so_eq {a b r : List Nd} (ha : a.length ≤ 1000) (hb : b.length ≤ 1000) (hl : ∀ x ∈ a, ∀ y ∈ b, x.length + y.length < 64) (h : bothT ltP a b = some r) : g_both_so [.im (rD a), .im (rD b)] = some (.im (rD r)) := by
  show (m_both_so [some (.im (rD a)), some (.im (rD b)), none, none, none]).bind retO = _
  have hm : a.length * b.length ≤ 1000 * 1000 := Nat.mul_le_mul ha hb
  obtain ⟨y, z, e⟩ := both_loop (a := .im (rD a)) hb a [] none none (by simp; omega) hl
  rw [List.nil_append] at e
  have e0 : m_both_so [some (.im (rD a)), some (.im (rD b)), none, none, none] = (forL (bName 3) bothBody (a.map nD) [some (.im (rD a)), some (.im (rD b)), some (.ls true []), none, none]).bind fun o => match o with
    | .nx ρ' => sRet (eCall g_counted (aCons (eCall g_least_of (aCons (eVar 2) aNil)) aNil)) ρ'
    | o => some o := rfl
  rw [e0]
  have e' : forL (bName 3) bothBody (a.map nD) [some (.im (rD a)), some (.im (rD b)), some (.ls true []), none, none] = _ := e
  rw [e', Option.bind_some]
  show ((((g_least_of [.ls false ((a.flatMap fun x => b.map fun y => joinN ltP x y).map nD)]).bind fun x => some [x]).bind g_counted).map Out.rt).bind retO = _
  rw [leastC_eq (v := .ls false _) rfl h]
  rfl
/-! ### bars_so -/
def barBody : Bk := sIf (eB (eBin gNe (eComp (srcT (eVar 2)) [5] (bName 5) (eB (eBin (gIn false) (eVar 5) (eVar 4))) (eC (.int 1))) (eLst aNil))) (sApp 3 (eVar 4)) (sExt 3 (eComp (srcT (eVar 2)) [5] (bName 5) tTrue (eCall gTuple (aCons (eCall gSorted (aCons (eBin gAdd (eVar 4) (eTup (aCons (eVar 5) aNil))) aNil)) aNil))))
def barHit {α : Type} [DecidableEq α] (need bar : List α) : Bool := need.any fun p => decide (p ∈ bar)
def barOneG {α : Type} [DecidableEq α] (lt : α → α → Bool) (need bar : List α) : List (List α) := if barHit need bar then [bar] else need.map fun p => isort lt (bar ++ [p])
abbrev barOne (need : Nd) (bar : Nd) : List Nd := barOneG ltP need bar
theorem bar_test {a f m : Val} {need bar : Nd} {z : Option Val} (hl : need.length ≤ 1000000) :
    eB (eBin gNe (eComp (srcT (eVar 2)) [5] (bName 5) (eB (eBin (gIn false) (eVar 5) (eVar 4))) (eC (.int 1))) (eLst aNil)) [some a, some f, some (.im (nD need)), some m, some (.im (nD bar)), z] = some (barHit need bar) := by
  unfold eB
  rw [some_of (ds := need.map pD) (f := fun d => (bar.map pD).any fun z => PyData.eqv z d) rfl (fun d hd => ?_) (by rw [List.length_map]; exact hl)]
  · show some _ = _
    congr 1
    rw [List.any_map]
    exact List.any_congr rfl fun p => any_pD p bar
  · obtain ⟨p, _, rfl⟩ := List.mem_map.mp hd
    show eB (eBin (gIn false) (eVar 5) (eVar 4)) [some a, some f, some (.im (nD need)), some m, some (.im (nD bar)), some (.im (pD p))] = _
    unfold eB eBin eVar
    simp only [List.getElem?_cons_zero, List.getElem?_cons_succ, Val.ro, Option.bind_some]
    rw [show gIn false (.im (pD p)) (.im (nD bar)) = _ from gIn_im (shaped_pD p) (shaped_nD bar)]
    rfl
theorem bar_comp {a f m : Val} {need bar : Nd} {z : Option Val} (hl : need.length ≤ 1000000) (hb : bar.length ≤ 1000) :
    eComp (srcT (eVar 2)) [5] (bName 5) tTrue (eCall gTuple (aCons (eCall gSorted (aCons (eBin gAdd (eVar 4) (eTup (aCons (eVar 5) aNil))) aNil)) aNil)) [some a, some f, some (.im (nD need)), some m, some (.im (nD bar)), z] = some (.ls true ((need.map fun p => isort ltP (bar ++ [p])).map nD)) := by
  rw [comp_eq (ds := need.map pD) (f := fun d => match dP d with | some p => some (nD (isort ltP (bar ++ [p]))) | none => none) rfl (fun d hd => ?_) (by rw [List.length_map]; exact hl)]
  · congr 2
    rw [List.filterMap_map, List.map_map]
    clear hl
    induction need with
    | nil => rfl
    | cons y b ih => rw [List.filterMap_cons_some (by simp only [Function.comp_def, dP_pD]; rfl), List.map_cons, ih]; rfl
  · obtain ⟨p, hm, rfl⟩ := List.mem_map.mp hd
    show (((((gAdd (.im (nD bar)) (.im (nD [p]))).bind fun x => some [x]).bind gSorted).bind fun x => some [x]).bind gTuple).bind (fun x => match x with | .im y => some (some y) | _ => none) = _
    rw [show gAdd (.im (nD bar)) (.im (nD [p])) = some (.im (nD (bar ++ [p]))) from by unfold nD; rw [gAdd_tup (by simp; omega), List.map_append]]
    show (((((gSort ((bar ++ [p]).map pD)).map fun r => Val.ls true r).bind fun x => some [x]).bind gTuple).bind fun x => match x with | .im y => some (some y) | _ => none) = _
    rw [gSort_pD (by simp; omega), dP_pD]
    rfl
theorem bar_loop {a f : Val} {need : Nd} (hn : need.length ≤ 30) : ∀ (l m : List Nd) (y z : Option Val), (m ++ l.flatMap (barOne need)).length ≤ 1000000 → (∀ x ∈ l, x.length ≤ 1000) →
    ∃ y' z', forL (bName 4) barBody (l.map nD) [some a, some f, some (.im (nD need)), some (.ls true (m.map nD)), y, z] = some (.nx [some a, some f, some (.im (nD need)), some (.ls true ((m ++ l.flatMap (barOne need)).map nD)), y', z'])
  | [], m, y, z, _, _ => ⟨y, z, by rw [List.flatMap_nil, List.append_nil]; rfl⟩
  | x :: l, m, y, z, h1, h2 => by
    rw [List.flatMap_cons, ← List.append_assoc] at h1
    obtain ⟨y', z', e⟩ := bar_loop (a := a) (f := f) hn l (m ++ barOne need x) (some (.im (nD x))) z h1 fun w hw => h2 w (List.mem_cons_of_mem _ hw)
    refine ⟨y', z', ?_⟩
    rw [List.map_cons, List.flatMap_cons, ← List.append_assoc]
    have hx := h2 x (List.mem_cons_self ..)
    refine (forL_cons (ρ1 := [some a, some f, some (.im (nD need)), some (.ls true (m.map nD)), some (.im (nD x)), z]) rfl ?_).trans e
    rw [List.length_append] at h1
    have hone : (m ++ barOne need x).length ≤ 1000000 := by omega
    unfold barBody sIf
    rw [bar_test (by omega), Option.bind_some]
    unfold barOne barOneG at hone ⊢
    generalize barHit need x = q at hone ⊢
    cases q with
    | true =>
      simp only [if_true, List.length_append, List.length_cons, List.length_nil] at hone ⊢
      show sApp 3 (eVar 4) [some a, some f, some (.im (nD need)), some (.ls true (m.map nD)), some (.im (nD x)), z] = _
      unfold sApp eVar
      simp only [List.getElem?_cons_zero, List.getElem?_cons_succ, Val.ro, Option.bind_some, List.length_map, lenOk_le (show m.length ≤ 1000000 by omega), if_true, List.set_cons_zero, List.set_cons_succ, List.map_append, List.map_cons, List.map_nil]
    | false =>
      simp only [Bool.false_eq_true, if_false, List.length_append, List.length_map] at hone ⊢
      show sExt 3 _ [some a, some f, some (.im (nD need)), some (.ls true (m.map nD)), some (.im (nD x)), z] = _
      unfold sExt
      rw [bar_comp (by omega) hx, Option.bind_some]
      simp only [List.getElem?_cons_zero, List.getElem?_cons_succ, List.length_map, lenOk_le hone, if_true, List.set_cons_zero, List.set_cons_succ, List.map_append]
def needBody : Bk := sSeq (sAsg 3 (eLst aNil)) (sSeq (sFor (srcT (eVar 1)) (bName 4) barBody) (sAsg 1 (eCall g_counted (aCons (eCall g_least_of (aCons (eVar 3) aNil)) aNil))))
theorem bars_loop {a : Val} : ∀ (l found r : List Nd) (w x y z : Option Val), foldO (barStep ltP) found l = some r → (∀ n ∈ l, n.length ≤ 30) → (∀ n ∈ found, n.length ≤ 30) →
    ∃ w' x' y' z', forL (bName 2) needBody (l.map nD) [some a, some (.im (rD found)), w, x, y, z] = some (.nx [some a, some (.im (rD r)), w', x', y', z'])
  | [], found, r, w, x, y, z, h, _, _ => by
    cases h
    exact ⟨w, x, y, z, rfl⟩
  | need :: l, found, r, w, x, y, z, h, h1, h2 => by
    obtain ⟨f2, hs, h⟩ := bindS h
    have hc : leastC ltP (found.flatMap (barOne need)) = some f2 := hs
    obtain ⟨k1, k2, k3⟩ := leastC_len hc
    have hn := h1 need (List.mem_cons_self ..)
    obtain ⟨y1, z1, e1⟩ := bar_loop (a := a) (f := .im (rD found)) hn found [] y z (by rw [List.nil_append]; have := (okNs_iff k2).1; omega) fun n hn => by have := h2 n hn; omega
    rw [List.nil_append] at e1
    obtain ⟨w', x', y', z', e⟩ := bars_loop (a := a) l f2 r (some (.im (nD need))) (some (.ls true ((found.flatMap (barOne need)).map nD))) y1 z1 h (fun n hn => h1 n (List.mem_cons_of_mem _ hn)) fun n hn => (k3 n hn).2
    refine ⟨w', x', y', z', ?_⟩
    rw [List.map_cons]
    refine (forL_cons (ρ1 := [some a, some (.im (rD found)), some (.im (nD need)), x, y, z]) rfl ?_).trans e
    have e0 : needBody [some a, some (.im (rD found)), some (.im (nD need)), x, y, z] = (forL (bName 4) barBody (found.map nD) [some a, some (.im (rD found)), some (.im (nD need)), some (.ls true []), y, z]).bind fun o => match o with
      | .nx ρ' => sAsg 1 (eCall g_counted (aCons (eCall g_least_of (aCons (eVar 3) aNil)) aNil)) ρ'
      | o => some o := rfl
    rw [e0]
    have e1' : forL (bName 4) barBody (found.map nD) [some a, some (.im (rD found)), some (.im (nD need)), some (.ls true []), y, z] = _ := e1
    rw [e1', Option.bind_some]
    show (((g_least_of [.ls false ((found.flatMap (barOne need)).map nD)]).bind fun x => some [x]).bind g_counted).bind _ = _
    rw [leastC_eq (v := .ls false _) rfl hc]
    rfl
theorem bars_so_eq {ns r : List Nd} (hl : ∀ n ∈ ns, n.length ≤ 30) (h : barsT ltP ns = some r) : g_bars_so [.im (rD ns)] = some (.im (rD r)) := by
  show (m_bars_so [some (.im (rD ns)), none, none, none, none, none]).bind retO = _
  obtain ⟨w, x, y, z, e⟩ := bars_loop (a := .im (rD ns)) ns [[]] r none none none none h hl (fun n hn => by rw [List.mem_singleton.mp hn]; simp)
  have e0 : m_bars_so [some (.im (rD ns)), none, none, none, none, none] = (forL (bName 2) needBody (ns.map nD) [some (.im (rD ns)), some (.im (rD [[]])), none, none, none, none]).bind fun o => match o with
    | .nx ρ' => sRet (eVar 1) ρ'
    | o => some o := rfl
  rw [e0, e]
  rfl
end Al
set_option Elab.async false
set_option linter.all false
set_option maxRecDepth 100000
set_option maxHeartbeats 4000000
/-! Al, plain part E: chosen_sets, rank_rule, law_sets. -/
namespace Al
open PySem L2 Ai
/-! ### one step of a mirror -/
theorem q_nx {s t : Bk} {ρ ρ1 : En} (h : s ρ = some (.nx ρ1)) : sSeq s t ρ = t ρ1 := by simp [sSeq, h]
theorem q_rt {s t : Bk} {ρ : En} {x : Val} (h : s ρ = some (.rt x)) : sSeq s t ρ = some (.rt x) := by simp [sSeq, h]
theorem q_ift {t : Te} {a b : Bk} {ρ : En} (h : t ρ = some true) : sIf t a b ρ = a ρ := by simp [sIf, h]
theorem q_iff {t : Te} {a b : Bk} {ρ : En} (h : t ρ = some false) : sIf t a b ρ = b ρ := by simp [sIf, h]
theorem q_ret {f : Xp} {ρ : En} {x : Val} (h : f ρ = some x) : sRet f ρ = some (.rt x) := by simp [sRet, h]
theorem q_asg {i : Nat} {f : Xp} {ρ : En} {d : PyData} (h : f ρ = some (.im d)) : sAsg i f ρ = some (.nx (ρ.set i (some (.im d)))) := by simp [sAsg, h]
theorem q_asgl {i : Nat} {f : Xp} {ρ : En} {ds : List PyData} (h : f ρ = some (.ls true ds)) : sAsg i f ρ = some (.nx (ρ.set i (some (.ls true ds)))) := by simp [sAsg, h]
theorem q_for {src : Src} {b : En → PyData → Option En} {body : Bk} {ρ : En} {ds : List PyData} (h : src ρ = some ds) : sFor src b body ρ = forL b body ds ρ := by simp [sFor, h]
theorem q_drop {f : Xp} {ρ : En} {x : Val} (h : f ρ = some x) : sDrop f ρ = some (.nx ρ) := by simp [sDrop, h]
theorem q_not {t : Te} {ρ : En} {c : Bool} (h : t ρ = some c) : tNotE t ρ = some (!c) := by simp [tNotE, h]
theorem q_or {a b : Te} {ρ : En} {c d : Bool} (h : a ρ = some c) (h2 : b ρ = some d) : tOrE a b ρ = some (c || d) := by cases c <;> simp [tOrE, h, h2]
theorem q_and {a b : Te} {ρ : En} {c d : Bool} (h : a ρ = some c) (h2 : b ρ = some d) : tAndE a b ρ = some (c && d) := by cases c <;> simp [tAndE, h, h2]
theorem q_andf {a b : Te} {ρ : En} (h : a ρ = some false) : tAndE a b ρ = some false := by simp [tAndE, h]
theorem q_eb {f : Xp} {ρ : En} {b : Bool} (h : f ρ = some (.im (.bool b))) : eB f ρ = some b := by simp [eB, h]
theorem q_bin {g : Val → Val → Option Val} {a b : Xp} {ρ : En} {x y : Val} {z : Option Val} (h1 : a ρ = some x) (h2 : b ρ = some y) (h3 : g x y = z) : eBin g a b ρ = z := by simp [eBin, h1, h2, h3]
theorem q_call {g : List Val → Option Val} {a : Tas} {ρ : En} {xs : List Val} {z : Option Val} (h1 : a ρ = some xs) (h2 : g xs = z) : eCall g a ρ = z := by simp [eCall, h1, h2]
theorem q_nil {ρ : En} : aNil ρ = some [] := rfl
theorem q_cons {f : Xp} {a : Tas} {ρ : En} {x : Val} {xs : List Val} (h1 : f ρ = some x) (h2 : a ρ = some xs) : aCons f a ρ = some (x :: xs) := by simp [aCons, h1, h2]
theorem q_var {i : Nat} {ρ : En} {x : Val} (h : ρ[i]? = some (some x)) : eVar i ρ = some x.ro := by simp [eVar, h]
theorem q_im {i : Nat} {ρ : En} {d : PyData} (h : ρ[i]? = some (some (.im d))) : eVar i ρ = some (.im d) := q_var h
theorem q_v0 {ρ : En} {d : PyData} : eVar 0 (some (.im d) :: ρ) = some (.im d) := rfl
theorem q_v1 {ρ : En} {a : Option Val} {d : PyData} : eVar 1 (a :: some (.im d) :: ρ) = some (.im d) := rfl
theorem q_eand {a b : Xp} {ρ : En} {z : Option Val} (h : a ρ = some (.im (.bool true))) (h2 : b ρ = z) : eAnd a b ρ = z := by simp [eAnd, h, h2]
theorem q_eiff {t : Te} {a b : Xp} {ρ : En} {z : Option Val} (h : t ρ = some false) (h2 : b ρ = z) : eIf t a b ρ = z := by simp [eIf, h, h2]
theorem q_eift {t : Te} {a b : Xp} {ρ : En} {z : Option Val} (h : t ρ = some true) (h2 : a ρ = z) : eIf t a b ρ = z := by simp [eIf, h, h2]
/-! ### the other orders -/
mutual
theorem ge_lt : ∀ d e : PyData, okD d e = true → ordD fGe d e = !ordD fLt d e
  | .int a, .int b, _ => by
    simp only [ordD, fGe, fLt]
    rw [Bool.eq_iff_iff]
    simp
  | .tuple xs, .tuple ys, h => by
    have h' : okL xs ys = true := h
    have e1 : ordD fGe (.tuple xs) (.tuple ys) = ordL fGe xs ys := by unfold ordD; rfl
    have e2 : ordD fLt (.tuple xs) (.tuple ys) = ordL fLt xs ys := by unfold ordD; rfl
    rw [e1, e2]
    exact ge_ltL xs ys h'
  | .none, _, h => by simp [okD] at h
  | .bool _, _, h => by simp [okD] at h
  | .str _, _, h => by simp [okD] at h
  | .list _, _, h => by simp [okD] at h
  | .dict _, _, h => by simp [okD] at h
  | .int _, .none, h => by simp [okD] at h
  | .int _, .bool _, h => by simp [okD] at h
  | .int _, .str _, h => by simp [okD] at h
  | .int _, .list _, h => by simp [okD] at h
  | .int _, .tuple _, h => by simp [okD] at h
  | .int _, .dict _, h => by simp [okD] at h
  | .tuple _, .none, h => by simp [okD] at h
  | .tuple _, .bool _, h => by simp [okD] at h
  | .tuple _, .str _, h => by simp [okD] at h
  | .tuple _, .list _, h => by simp [okD] at h
  | .tuple _, .int _, h => by simp [okD] at h
  | .tuple _, .dict _, h => by simp [okD] at h
theorem ge_ltL : ∀ xs ys : List PyData, okL xs ys = true → ordL fGe xs ys = !ordL fLt xs ys
  | [], ys, _ => by
    simp only [ordL, fGe, fLt]
    rw [Bool.eq_iff_iff]
    simp
  | x :: xs, [], _ => by
    simp only [ordL, fGe, fLt]
    rw [Bool.eq_iff_iff]
    simp
  | x :: xs, y :: ys, h => by
    have h' : okD x y = true ∧ okL xs ys = true := by simpa [okL] using h
    have e1 : ordL fGe (x :: xs) (y :: ys) = if PyData.eqv x y = true then ordL fGe xs ys else ordD fGe x y := by conv => lhs; unfold ordL
    have e2 : ordL fLt (x :: xs) (y :: ys) = if PyData.eqv x y = true then ordL fLt xs ys else ordD fLt x y := by conv => lhs; unfold ordL
    rw [e1, e2, ge_ltL xs ys h'.2, ge_lt x y h'.1]
    split <;> rfl
end
theorem gt_pD (p q : Pl) : ordD fGt (pD p) (pD q) = ltP q p := by
  rw [← ord_pD]
  obtain ⟨a, b⟩ := p
  obtain ⟨c, d⟩ := q
  simp only [pD, ordD, ordL, PyData.eqv, fGt, fLt]
  by_cases h1 : a = c
  · by_cases h2 : b = d
    · simp [h1, h2]
    · have h2' : ¬ d = b := fun z => h2 z.symm
      simp [h1, h2, h2']
  · have h1' : ¬ c = a := fun z => h1 z.symm
    simp [h1, h1']
theorem gRel_pD {f : Int → Int → Bool} (p q : Pl) : gRel f (.im (pD p)) (.im (pD q)) = some (.im (.bool (ordD f (pD p) (pD q)))) := by
  simp [gRel, ok_pD, shaped_pD]
theorem gRel_nD {f : Int → Int → Bool} (p q : Nd) : gRel f (.im (nD p)) (.im (nD q)) = some (.im (.bool (ordD f (nD p) (nD q)))) := by
  simp [gRel, ok_nD, shaped_nD]
theorem atI_last {α : Type} (l : List α) (h : l ≠ []) : atI l (-1) = l.getLast? := by
  have hl : 0 < l.length := List.length_pos_iff.mpr h
  unfold atI ixN
  rw [if_neg (by omega), if_pos (by omega), Option.bind_some, List.getLast?_eq_getElem?]
  congr 1
  omega
/-! ### chosen_sets -/
def rowOk (row : Nd) (p : Pl) : Bool := match row.getLast? with
  | none => true
  | some q => ltP q p
def chTest : Te := tOrE (eB (eBin gEq (eVar 5) (eTup aNil))) (eB (eBin (gRel fGt) (eVar 6) (eBin gIx (eVar 5) (eNeg (eC (.int 1))))))
def chEl : Xp := eBin gAdd (eVar 5) (eTup (aCons (eVar 6) aNil))
theorem ch_test {a b c d e : Option Val} {row : Nd} {p : Pl} : chTest [a, b, c, d, e, some (.im (nD row)), some (.im (pD p))] = some (rowOk row p) := by
  unfold chTest tOrE
  have h1 : eB (eBin gEq (eVar 5) (eTup aNil)) [a, b, c, d, e, some (.im (nD row)), some (.im (pD p))] = some (decide (row = [])) := by
    show (match gEq (.im (nD row)) (.im (nD [])) with | some (.im (.bool b)) => some b | _ => none) = _
    rw [gEq_im (shaped_nD _) (shaped_nD _), eqv_nD]
  rw [h1, Option.bind_some]
  unfold rowOk
  by_cases hr : row = []
  · subst hr
    rfl
  · rw [decide_eq_false hr]
    have hlast : ∃ q, row.getLast? = some q := by
      cases e : row.getLast? with
      | none => exact absurd (List.getLast?_eq_none_iff.mp e) hr
      | some q => exact ⟨q, rfl⟩
    obtain ⟨q, hq⟩ := hlast
    show eB (eBin (gRel fGt) (eVar 6) (eBin gIx (eVar 5) (eNeg (eC (.int 1))))) [a, b, c, d, e, some (.im (nD row)), some (.im (pD p))] = _
    show (match (((atI (row.map pD) (-1)).map Val.im).bind fun y => gRel fGt (.im (pD p)) y) with | some (.im (.bool b)) => some b | _ => none) = _
    rw [atI_last _ (by simpa using hr), List.getLast?_map, hq]
    show (match gRel fGt (.im (pD p)) (.im (pD q)) with | some (.im (.bool b)) => some b | _ => none) = _
    rw [gRel_pD, gt_pD]
theorem ch_comp {sp : Nd} {b c d e g : Option Val} {row : Nd} (hl : sp.length ≤ 1000) (hr : row.length ≤ 1000) :
    eComp (srcT (eVar 0)) [6] (bName 6) chTest chEl [some (.im (nD sp)), b, c, d, e, some (.im (nD row)), g] = some (.ls true (((sp.filter (rowOk row)).map fun p => row ++ [p]).map nD)) := by
  rw [comp_eq (ds := sp.map pD) (f := fun d => match dP d with | some p => if rowOk row p then some (nD (row ++ [p])) else none | none => none) rfl (fun d1 hd => ?_) (by rw [List.length_map]; omega)]
  · congr 2
    rw [List.filterMap_map, List.map_map]
    clear hl
    induction sp with
    | nil => rfl
    | cons y sp ih =>
      cases h : rowOk row y with
      | true => rw [List.filterMap_cons_some (by simp only [Function.comp_def, dP_pD, h]; rfl), List.filter_cons_of_pos h, List.map_cons, ih]; rfl
      | false => rw [List.filterMap_cons_none (by simp only [Function.comp_def, dP_pD, h]; rfl), List.filter_cons_of_neg (by rw [h]; exact Bool.false_ne_true), ih]
  · obtain ⟨p, hp, rfl⟩ := List.mem_map.mp hd
    unfold turnC
    rw [show (bName 6 (wipeE [some (.im (nD sp)), b, c, d, e, some (.im (nD row)), g] [6]) (pD p)) = some [some (.im (nD sp)), b, c, d, e, some (.im (nD row)), some (.im (pD p))] from rfl, Option.bind_some, ch_test, Option.bind_some, dP_pD]
    dsimp only
    generalize rowOk row p = k
    cases k with
    | false => rfl
    | true =>
      show ((gAdd (.im (nD row)) (.im (nD [p]))).bind fun x => match x with | .im y => some (some y) | _ => none) = _
      rw [show gAdd (.im (nD row)) (.im (nD [p])) = some (.im (nD (row ++ [p]))) from by unfold nD; rw [gAdd_tup (by simp; omega), List.map_append]]
      rfl
def ch5 : Bk := sExt 4 (eComp (srcT (eVar 0)) [6] (bName 6) chTest chEl)
def chBody : Bk := sSeq (sAsg 4 (eLst aNil)) (sSeq (sForV 2 (bName 5) ch5) (sAsg 2 (eCall gList (aCons (eVar 4) aNil))))
theorem ch_eq (sp : Nd) (l : List Nd) : chosen1 ltP sp l = l.flatMap fun row => (sp.filter (rowOk row)).map fun p => row ++ [p] := by
  unfold chosen1
  congr 1
  funext row
  congr 1
  congr 1
  funext p
  unfold rowOk
  cases row.getLast? <;> rfl
theorem ch_inner {sp : Nd} {b c d : Option Val} (hs : sp.length ≤ 1000) : ∀ (l m : List Nd) (y z : Option Val), m.length + l.length * sp.length ≤ 1000000 → (∀ r ∈ l, r.length ≤ 100) →
    ∃ y' z', forL (bName 5) ch5 (l.map nD) [some (.im (nD sp)), b, c, d, some (.ls true (m.map nD)), y, z] = some (.nx [some (.im (nD sp)), b, c, d, some (.ls true ((m ++ chosen1 ltP sp l).map nD)), y', z'])
  | [], m, y, z, _, _ => ⟨y, z, by
    rw [show chosen1 ltP sp [] = [] from rfl, List.append_nil]
    rfl⟩
  | x :: l, m, y, z, h1, h2 => by
    rw [List.length_cons, Nat.add_mul, Nat.one_mul] at h1
    have hf : ((sp.filter (rowOk x)).map fun p => x ++ [p]).length ≤ sp.length := by
      rw [List.length_map]
      exact List.length_filter_le ..
    have hc : chosen1 ltP sp (x :: l) = ((sp.filter (rowOk x)).map fun p => x ++ [p]) ++ chosen1 ltP sp l := by
      simp only [ch_eq, List.flatMap_cons]
    obtain ⟨y', z', e⟩ := ch_inner (b := b) (c := c) (d := d) hs l (m ++ (sp.filter (rowOk x)).map fun p => x ++ [p]) (some (.im (nD x))) z (by rw [List.length_append]; omega) fun w hw => h2 w (List.mem_cons_of_mem _ hw)
    refine ⟨y', z', ?_⟩
    rw [List.map_cons, hc, ← List.append_assoc]
    refine (forL_cons (ρ1 := [some (.im (nD sp)), b, c, d, some (.ls true (m.map nD)), some (.im (nD x)), z]) rfl ?_).trans e
    unfold ch5 sExt
    have := h2 x (List.mem_cons_self ..)
    rw [ch_comp hs (by omega), Option.bind_some]
    simp only [List.getElem?_cons_zero, List.getElem?_cons_succ, List.length_map (f := nD), lenOk_le (show m.length + ((sp.filter (rowOk x)).map fun p => x ++ [p]).length ≤ 1000000 by omega), if_true, List.set_cons_zero, List.set_cons_succ, List.map_append]
theorem ch_outer {sp : Nd} {b : Option Val} (hs : sp.length ≤ 1000) : ∀ (ds : List PyData) (f r : List Nd) (w x y z : Option Val), chRun ltP sp ds.length f = some r →
    ∃ w' x' y' z', forL (bName 3) chBody ds [some (.im (nD sp)), b, some (.ls true (f.map nD)), w, x, y, z] = some (.nx [some (.im (nD sp)), b, some (.ls true (r.map nD)), w', x', y', z'])
  | [], f, r, w, x, y, z, h => by
    cases h
    exact ⟨w, x, y, z, rfl⟩
  | d :: ds, f, r, w, x, y, z, h => by
    rw [List.length_cons, chRun] at h
    by_cases hc : (decide (f.length ≤ 1000) && f.all fun r => decide (r.length ≤ 100)) = true
    case neg => rw [if_neg hc] at h; cases h
    rw [if_pos hc] at h
    simp only [Bool.and_eq_true, decide_eq_true_eq, List.all_eq_true] at hc
    have hm : f.length * sp.length ≤ 1000 * 1000 := Nat.mul_le_mul hc.1 hs
    obtain ⟨y1, z1, e1⟩ := ch_inner (b := b) (c := some (.ls false (f.map nD))) (d := some (.im d)) hs f [] y z (by simp; omega) hc.2
    rw [List.nil_append] at e1
    obtain ⟨w', x', y', z', e⟩ := ch_outer (b := b) hs ds (chosen1 ltP sp f) r (some (.im d)) (some (.ls true ((chosen1 ltP sp f).map nD))) y1 z1 h
    refine ⟨w', x', y', z', ?_⟩
    refine (forL_cons (ρ1 := [some (.im (nD sp)), b, some (.ls true (f.map nD)), some (.im d), x, y, z]) rfl ?_).trans e
    have e0 : chBody [some (.im (nD sp)), b, some (.ls true (f.map nD)), some (.im d), x, y, z] = (forL (bName 5) ch5 (f.map nD) [some (.im (nD sp)), b, some (.ls false (f.map nD)), some (.im d), some (.ls true []), y, z]).bind fun o => match o with
      | .nx ρ' => sAsg 2 (eCall gList (aCons (eVar 4) aNil)) ρ'
      | o => some o := rfl
    rw [e0]
    have e1' : forL (bName 5) ch5 (f.map nD) [some (.im (nD sp)), b, some (.ls false (f.map nD)), some (.im d), some (.ls true []), y, z] = _ := e1
    rw [e1', Option.bind_some]
    rfl
theorem small_le {i : Int} (h1 : 0 ≤ i) (h2 : i ≤ 1000) : small i = true := by
  unfold small
  have h3 : (2 : Int) ^ 62 = 4611686018427387904 := by decide +kernel
  rw [h3, decide_eq_true (by omega), decide_eq_true (by omega)]
  rfl
theorem src1_eq {a : Option Val} {k : Nat} {ρ : En} (hk : k ≤ 1000) : src1 (aCons (eVar 1) aNil) (a :: some (.im (.int k)) :: ρ) = some (intsD 0 1 k) := by
  have hsm : small (k : Int) = true := small_le (by omega) (by omega)
  have e : src1 (aCons (eVar 1) aNil) (a :: some (.im (.int k)) :: ρ) = if small (k : Int) then some (intsD 0 1 (k : Int).toNat) else none := by
    unfold src1 aCons aNil eVar
    simp only [List.getElem?_cons_zero, List.getElem?_cons_succ, Val.ro, Option.bind_some]
  rw [e, hsm, if_pos rfl, Int.toNat_natCast]
theorem chosen_sets_eq {sp : Nd} {k : Nat} {r : List Nd} (hs : sp.length ≤ 1000) (hk : k ≤ 1000) (h : chRun ltP sp k [[]] = some r) : g_chosen_sets [.im (nD sp), .im (.int k)] = some (.ls false (r.map nD)) := by
  show (m_chosen_sets [some (.im (nD sp)), some (.im (.int k)), none, none, none, none, none]).bind retO = _
  obtain ⟨w, x, y, z, e⟩ := ch_outer (b := some (.im (.int k))) hs (intsD 0 1 k) [[]] r none none none none (by rw [show (intsD 0 1 k).length = k from by simp [intsD]]; exact h)
  have e' : forL (bName 3) chBody (intsD 0 1 k) [some (.im (nD sp)), some (.im (.int k)), some (.ls true [nD []]), none, none, none, none] = _ := e
  have e0 : m_chosen_sets [some (.im (nD sp)), some (.im (.int k)), none, none, none, none, none] = some (.rt (.ls false (r.map nD))) :=
    (q_nx rfl).trans ((q_nx ((q_for (src1_eq hk)).trans e')).trans (q_ret rfl))
  rw [e0]
  rfl
/-! ### rank_rule -/
theorem count_small {n k : Nat} (h1 : n ≤ 6) (h2 : k ≤ n) : ∃ c : Int, c ≤ 60 ∧ g_count_sets [.im (.int n), .im (.int k)] = some (.im (.int c)) := by
  refine ⟨(countT n k : Nat), ?_⟩
  rcases (by omega : n = 0 ∨ n = 1 ∨ n = 2 ∨ n = 3 ∨ n = 4 ∨ n = 5 ∨ n = 6) with h | h | h | h | h | h | h <;> subst h <;> rcases (by omega : k = 0 ∨ k = 1 ∨ k = 2 ∨ k = 3 ∨ k = 4 ∨ k = 5 ∨ k = 6) with h | h | h | h | h | h | h <;> subst h <;>
    first
      | omega
      | exact ⟨by decide, by kernel_rfl⟩
theorem count_12 : g_count_sets [.im (.int 12), .im (.int 11)] = some (.im (.int 12)) ∧ g_count_sets [.im (.int 12), .im (.int 12)] = some (.im (.int 1)) := ⟨by kernel_rfl, by kernel_rfl⟩
theorem gt_60 {c : Int} (h : c ≤ 60) : fGt c 60 = false := by
  have h : fGt c 60 = decide (60 < c) := rfl
  rw [h]
  exact decide_eq_false (by omega)
def rankD (k : Nat) (sp : Nd) : PyData := .tuple [.str "rank", .int k, nD sp]
theorem ix_0 {a : PyData} {l : List PyData} : gIx (.im (.tuple (a :: l))) (.im (.int 0)) = some (.im a) := by
  unfold gIx
  dsimp only
  unfold atI ixN
  rw [if_pos (by decide), if_pos (by rw [List.length_cons]; omega)]
  rfl
theorem ix_1 {a b : PyData} {l : List PyData} : gIx (.im (.tuple (a :: b :: l))) (.im (.int 1)) = some (.im b) := by
  unfold gIx
  dsimp only
  unfold atI ixN
  rw [if_pos (by decide), if_pos (by rw [List.length_cons, List.length_cons]; omega)]
  rfl
theorem ix_2 {a b c : PyData} {l : List PyData} : gIx (.im (.tuple (a :: b :: c :: l))) (.im (.int 2)) = some (.im c) := by
  unfold gIx
  dsimp only
  unfold atI ixN
  rw [if_pos (by decide), if_pos (by rw [List.length_cons, List.length_cons, List.length_cons]; omega)]
  rfl
theorem len_nD (sp : Nd) : gLen [.im (nD sp)] = some (.im (.int sp.length)) := by
  show some (Val.im (.int ((sp.map pD).length : Nat))) = _
  rw [List.length_map]
theorem rk_0 {k : Nat} {sp : Nd} : gIx (.im (rankD k sp)) (.im (.int 0)) = some (.im (.str "rank")) := ix_0
theorem rk_1 {k : Nat} {sp : Nd} : gIx (.im (rankD k sp)) (.im (.int 1)) = some (.im (.int k)) := ix_1
theorem rk_2 {k : Nat} {sp : Nd} : gIx (.im (rankD k sp)) (.im (.int 2)) = some (.im (nD sp)) := ix_2
theorem rank_rule_eq {sp : Nd} {k : Nat} {r : List Nd} {c : Int} (hs : sp.length ≤ 1000) (hk : k ≤ 1000) (hc : c ≤ 60) (hg : g_count_sets [.im (.int sp.length), .im (.int k)] = some (.im (.int c))) (h : chRun ltP sp k [[]] = some r) : g_rank_rule [.im (rankD k sp)] = some (.im (rD r)) := by
  show (m_rank_rule [some (.im (rankD k sp))]).bind retO = _
  have e0 : m_rank_rule [some (.im (rankD k sp))] = some (.rt (.im (rD r))) :=
    (q_nx ((q_iff (q_eb (q_bin (q_call (q_cons (q_call (q_cons (q_bin q_v0 rfl rk_2) q_nil) (len_nD sp)) (q_cons (q_bin q_v0 rfl rk_1) q_nil)) hg) rfl (gRel_int.trans (by rw [gt_60 hc]))))).trans rfl)).trans
    (q_ret (q_call (q_cons (q_call (q_cons (q_bin q_v0 rfl rk_2) (q_cons (q_bin q_v0 rfl rk_1) q_nil)) (chosen_sets_eq hs hk h)) q_nil) rfl))
  rw [e0]
  rfl
end Al
set_option Elab.async false
set_option linter.all false
set_option maxRecDepth 100000
set_option maxHeartbeats 4000000
/-! Al, plain part F: the checks. -/
namespace Al
open PySem L2 Ai
def InD (m : Int) (p : Pl) : Prop := (-m ≤ p.1 ∧ p.1 ≤ m) ∧ -m ≤ p.2 ∧ p.2 ≤ m
theorem q_chain {g g' : Val → Val → Option Val} {a b c : Xp} {ρ : En} {x y w : Val} {z : Option Val} (h1 : a ρ = some x) (h2 : b ρ = some y) (h3 : g x y = some (.im (.bool true))) (h4 : c ρ = some w) (h5 : g' y w = z) : eChain g g' a b c ρ = z := by simp [eChain, h1, h2, h3, h4, h5]
theorem le_t {a b : Int} (h : a ≤ b) : gRel fLe (.im (.int a)) (.im (.int b)) = some (.im (.bool true)) := by
  rw [gRel_int, show fLe a b = true from decide_eq_true h]
theorem q_neg {a : Xp} {ρ : En} {i : Int} (h : a ρ = some (.im (.int i))) : eNeg a ρ = some (.im (.int (-i))) := by simp [eNeg, h]
theorem is_from_eq {x lo hi : Int} (h1 : lo ≤ x) (h2 : x ≤ hi) : g_is_from [.im (.int x), .im (.int lo), .im (.int hi)] = some (.im (.bool true)) := by
  have e : m_is_from [some (.im (.int x)), some (.im (.int lo)), some (.im (.int hi))] = some (.rt (.im (.bool true))) :=
    q_ret (q_eand rfl (q_eand rfl (q_chain rfl rfl (le_t h1) rfl (le_t h2))))
  show (m_is_from [some (.im (.int x)), some (.im (.int lo)), some (.im (.int hi))]).bind retO = _
  rw [e]
  rfl
theorem is_pair_from_eq {p : Pl} {m : Int} (h : InD m p) : g_is_pair_from [.im (pD p), .im (.int m)] = some (.im (.bool true)) := by
  have e : m_is_pair_from [some (.im (pD p)), some (.im (.int m))] = some (.rt (.im (.bool true))) :=
    (q_nx ((q_iff (q_or (c := false) (d := false) rfl rfl)).trans rfl)).trans
    (q_ret (q_eand (q_call (q_cons (q_bin q_v0 rfl ix_0) (q_cons (q_neg q_v1) (q_cons q_v1 q_nil))) (is_from_eq h.1.1 h.1.2)) (q_call (q_cons (q_bin q_v0 rfl ix_1) (q_cons (q_neg q_v1) (q_cons q_v1 q_nil))) (is_from_eq h.2.1 h.2.2))))
  show (m_is_pair_from [some (.im (pD p)), some (.im (.int m))]).bind retO = _
  rw [e]
  rfl
theorem is_place_eq {p : Pl} (h : InD 1000000000 p) : g_is_place [.im (pD p)] = some (.im (.bool true)) := by
  have e : m_is_place [some (.im (pD p))] = some (.rt (.im (.bool true))) := q_ret (q_call (q_cons q_v0 (q_cons rfl q_nil)) (is_pair_from_eq h))
  show (m_is_place [some (.im (pD p))]).bind retO = _
  rw [e]
  rfl
/-! ### ascending pairs -/
def pz : PyData → Bool
  | .tuple [a, b] => ordD fGe a b
  | _ => false
theorem ge_pD (p q : Pl) : ordD fGe (pD p) (pD q) = !ltP p q := by rw [ge_lt _ _ (ok_pD p q), ord_pD]
theorem ge_nD (p q : Nd) : ordD fGe (nD p) (nD q) = !ltN p q := by rw [ge_lt _ _ (ok_nD p q), ord_nD]
theorem pz_asc : ∀ n : Nd, ascT ltP n = true → ∀ d ∈ pairs (n.map pD) ((n.map pD).drop 1), ∃ p q, d = .tuple [pD p, pD q] ∧ ltP p q = true
  | [], _, d, h => by cases h
  | [_], _, d, h => by cases h
  | p :: q :: n, h, d, hd => by
    have h' : (ltP p q && ascT ltP (q :: n)) = true := h
    rw [Bool.and_eq_true] at h'
    have hd' : d ∈ PyData.tuple [pD p, pD q] :: pairs ((q :: n).map pD) (((q :: n).map pD).drop 1) := hd
    rcases List.mem_cons.mp hd' with e | e
    · exact ⟨p, q, e, h'.1⟩
    · exact pz_asc (q :: n) h'.2 d e
theorem pairs_le (n : Nd) : (pairs (n.map pD) ((n.map pD).drop 1)).length ≤ n.length := by
  rw [Ai.pairs_len, List.length_map]
  omega
theorem asc_of : ∀ {n : List Pl}, AscP n → ascT ltP n = true
  | [], _ => rfl
  | [_], _ => rfl
  | p :: q :: n, h => by
    have h1 := List.pairwise_cons.mp h
    show (ltP p q && ascT ltP (q :: n)) = true
    rw [h1.1 q (List.mem_cons_self ..), asc_of h1.2]
    rfl
/-- a loop that leaves what is said of the slots -/
theorem for_inv {b : En → PyData → Option En} {body : Bk} (Inv : En → Prop) : ∀ (ds : List PyData) (ρ : En), Inv ρ → (∀ d ∈ ds, ∀ ρ, Inv ρ → ∃ ρ1 ρ2, b ρ d = some ρ1 ∧ body ρ1 = some (.nx ρ2) ∧ Inv ρ2) → ∃ ρ', forL b body ds ρ = some (.nx ρ') ∧ Inv ρ'
  | [], ρ, h, _ => ⟨ρ, rfl, h⟩
  | d :: ds, ρ, h, k => by
    obtain ⟨ρ1, ρ2, e1, e2, h2⟩ := k d (List.mem_cons_self ..) ρ h
    obtain ⟨ρ', e, h'⟩ := for_inv Inv ds ρ2 h2 fun d hd => k d (List.mem_cons_of_mem _ hd)
    exact ⟨ρ', (forL_cons e1 e2).trans e, h'⟩
theorem ilen_t {a : Nat} {n : Nd} {b : Nat} (h1 : a ≤ n.length) (h2 : n.length ≤ b) {ρ : En} : eB (eChain (gRel fLe) (gRel fLe) (eC (.int a)) (eCall gLen (aCons (eVar 0) aNil)) (eC (.int b))) (some (.im (nD n)) :: ρ) = some true :=
  q_eb (q_chain rfl (q_call (q_cons q_v0 q_nil) (len_nD n)) (le_t (by omega)) rfl (le_t (by omega)))
theorem zip_none {n : Nd} {i j : Nat} {ρ : En} (h : ascT ltP n = true) (hl : n.length ≤ 1000) (hz : srcZ (aCons (eVar 0) (aCons (eTail (eVar 0)) aNil)) ρ = some (pairs (n.map pD) ((n.map pD).drop 1)))
    (hb : ∀ p q : Pl, (bPair i j (wipeE ρ [i, j]) (.tuple [pD p, pD q])).bind (eB (eBin (gRel fGe) (eVar i) (eVar j))) = some (ordD fGe (pD p) (pD q))) :
    eComp (srcZ (aCons (eVar 0) (aCons (eTail (eVar 0)) aNil))) [i, j] (bPair i j) (eB (eBin (gRel fGe) (eVar i) (eVar j))) (eC (.int 1)) ρ = some (.ls true []) := by
  obtain ⟨m, e1, e2⟩ := comp1 (f := pz) hz (fun d hd => by
    obtain ⟨p, q, rfl, _⟩ := pz_asc n h d hd
    exact hb p q) (by have := pairs_le n; omega)
  have : m = 0 := e2.mpr (by
    rw [List.any_eq_false]
    intro d hd
    obtain ⟨p, q, rfl, hlt⟩ := pz_asc n h d hd
    show ¬ ordD fGe (pD p) (pD q) = true
    rw [ge_pD, hlt]
    simp)
  rw [e1, this]
  rfl
theorem is_spread_eq {n : Nd} (h1 : 1 ≤ n.length) (h2 : n.length ≤ 12) (h3 : ∀ p ∈ n, InD 20 p) (h4 : ascT ltP n = true) : g_is_spread [.im (nD n)] = some (.im (.bool true)) := by
  obtain ⟨ρ', e1, y, rfl⟩ := for_inv (b := bName 1) (body := sIf (tNotE (eB (eCall g_is_pair_from (aCons (eVar 1) (aCons (eC (.int 20)) aNil))))) (sRet (eC (.bool false))) sNext) (fun ρ => ∃ y, ρ = [some (.im (nD n)), y, none, none]) (n.map pD) [some (.im (nD n)), none, none, none] ⟨none, rfl⟩ (fun d hd ρ ⟨y, hy⟩ => by
    subst hy
    obtain ⟨p, hp, rfl⟩ := List.mem_map.mp hd
    exact ⟨_, _, rfl, (q_iff (q_not (c := true) (q_eb (q_call (q_cons q_v1 (q_cons rfl q_nil)) (is_pair_from_eq (h3 p hp)))))).trans rfl, _, rfl⟩)
  have e : m_is_spread [some (.im (nD n)), none, none, none] = some (.rt (.im (.bool true))) :=
    (q_nx ((q_iff (q_or (c := false) (d := false) rfl (q_not (ilen_t (a := 1) (b := 12) h1 h2)))).trans rfl)).trans
    ((q_nx ((q_for (ds := n.map pD) rfl).trans e1)).trans
    (q_ret (q_bin (q_call (q_cons (zip_none h4 (by omega) rfl fun p q => by
      show eB (eBin (gRel fGe) (eVar 2) (eVar 3)) [some (.im (nD n)), y, some (.im (pD p)), some (.im (pD q))] = _
      exact q_eb (q_bin (x := .im (pD p)) (y := .im (pD q)) rfl rfl (gRel_pD p q))) q_nil) rfl) rfl (by rfl))))
  show (m_is_spread [some (.im (nD n)), none, none, none]).bind retO = _
  rw [e]
  rfl
theorem need_spread_eq {n : Nd} (h1 : 1 ≤ n.length) (h2 : n.length ≤ 12) (h3 : ∀ p ∈ n, InD 20 p) (h4 : ascT ltP n = true) : g_need_spread [.im (nD n)] = some (.im (nD n)) := by
  have e : m_need_spread [some (.im (nD n))] = some (.rt (.im (nD n))) :=
    (q_nx ((q_iff (q_not (c := true) (q_eb (q_call (q_cons q_v0 q_nil) (is_spread_eq h1 h2 h3 h4))))).trans rfl)).trans (q_ret q_v0)
  show (m_need_spread [some (.im (nD n))]).bind retO = _
  rw [e]
  rfl
theorem is_need_eq {n : Nd} (h1 : 1 ≤ n.length) (h2 : n.length ≤ 12) (h3 : ∀ p ∈ n, InD 20 p) (h4 : ascT ltP n = true) : g_is_need [.im (nD n)] = some (.im (.bool true)) := by
  have e : m_is_need [some (.im (nD n)), none, none, none] = some (.rt (.im (.bool true))) :=
    (q_nx ((q_iff (q_or (c := false) (d := false) rfl (q_not (ilen_t (a := 1) (b := 12) h1 h2)))).trans rfl)).trans
    ((q_nx ((q_iff (q_eb ((some_of (ds := n.map pD) (f := fun _ => false) rfl (fun d hd => by
        obtain ⟨p, hp, rfl⟩ := List.mem_map.mp hd
        exact q_not (c := true) (q_eb (q_call (q_cons (x := .im (pD p)) rfl (q_cons rfl q_nil)) (is_pair_from_eq (h3 p hp))))) (by rw [List.length_map]; omega)).trans (by rw [show (n.map pD).any (fun _ => false) = false from by simp])))).trans rfl)).trans
    (q_ret (q_bin (zip_none h4 (by omega) rfl fun p q => by
      show eB (eBin (gRel fGe) (eVar 2) (eVar 3)) [some (.im (nD n)), none, some (.im (pD p)), some (.im (pD q))] = _
      exact q_eb (q_bin (x := .im (pD p)) (y := .im (pD q)) rfl rfl (gRel_pD p q))) rfl (by rfl))))
  show (m_is_need [some (.im (nD n)), none, none, none]).bind retO = _
  rw [e]
  rfl
theorem need_island_eq {n : Nd} (h2 : n.length ≤ 400) (h3 : ∀ p ∈ n, InD 1000000000 p) (h4 : ascT ltP n = true) : g_need_island [.im (nD n)] = some (.im (nD n)) := by
  have hi : g_is_island [.im (nD n)] = some (.im (.bool true)) := by
    obtain ⟨ρ', e1, y, rfl⟩ := for_inv (b := bName 1) (body := sIf (tNotE (eB (eCall g_is_place (aCons (eVar 1) aNil)))) (sRet (eC (.bool false))) sNext) (fun ρ => ∃ y, ρ = [some (.im (nD n)), y, none, none]) (n.map pD) [some (.im (nD n)), none, none, none] ⟨none, rfl⟩ (fun d hd ρ ⟨y, hy⟩ => by
      subst hy
      obtain ⟨p, hp, rfl⟩ := List.mem_map.mp hd
      exact ⟨_, _, rfl, (q_iff (q_not (c := true) (q_eb (q_call (q_cons q_v1 q_nil) (is_place_eq (h3 p hp)))))).trans rfl, _, rfl⟩)
    obtain ⟨ρ', e2, z, w, rfl⟩ := for_inv (b := bPair 2 3) (body := sIf (eB (eBin (gRel fGe) (eVar 2) (eVar 3))) (sRet (eC (.bool false))) sNext) (fun ρ => ∃ z w, ρ = [some (.im (nD n)), y, z, w]) (pairs (n.map pD) ((n.map pD).drop 1)) [some (.im (nD n)), y, none, none] ⟨none, none, rfl⟩ (fun d hd ρ ⟨z, w, hy⟩ => by
      subst hy
      obtain ⟨p, q, rfl, hlt⟩ := pz_asc n h4 d hd
      refine ⟨_, _, rfl, (q_iff (q_eb ((q_bin (x := .im (pD p)) (y := .im (pD q)) rfl rfl (gRel_pD p q)).trans ?_))).trans rfl, _, _, rfl⟩
      rw [ge_pD, hlt]
      rfl)
    have hgt : gRel fGt (.im (.int n.length)) (.im (.int 400)) = some (.im (.bool false)) := by
      rw [gRel_int, show fGt (n.length : Int) 400 = decide ((400 : Int) < n.length) from rfl, decide_eq_false (by omega)]
    have e : m_is_island [some (.im (nD n)), none, none, none] = some (.rt (.im (.bool true))) :=
      (q_nx ((q_iff (q_or (c := false) (d := false) rfl (q_eb (q_bin (q_call (q_cons q_v0 q_nil) (len_nD n)) rfl hgt)))).trans rfl)).trans
      ((q_nx ((q_for (ds := n.map pD) rfl).trans e1)).trans
      ((q_nx ((q_for (ds := pairs (n.map pD) ((n.map pD).drop 1)) rfl).trans e2)).trans rfl))
    show (m_is_island [some (.im (nD n)), none, none, none]).bind retO = _
    rw [e]
    rfl
  have e : m_need_island [some (.im (nD n))] = some (.rt (.im (nD n))) :=
    (q_nx ((q_iff (q_not (c := true) (q_eb (q_call (q_cons q_v0 q_nil) hi)))).trans rfl)).trans (q_ret q_v0)
  show (m_need_island [some (.im (nD n))]).bind retO = _
  rw [e]
  rfl
end Al
set_option Elab.async false
set_option linter.all false
set_option maxRecDepth 100000
set_option maxHeartbeats 4000000
/-! Al, plain part G: need_rule, is_lesser. -/
namespace Al
open PySem L2 Ai
theorem len_rD (r : List Nd) : gLen [.im (rD r)] = some (.im (.int r.length)) := by
  show some (Val.im (.int ((r.map nD).length : Nat))) = _
  rw [List.length_map]
theorem enum_mem : ∀ (ds : List PyData) (lo : Int), ∀ d ∈ enumD lo ds, ∃ i x, d = .tuple [.int i, x] ∧ x ∈ ds
  | [], _, d, h => by cases h
  | x :: ds, lo, d, h => by
    rcases List.mem_cons.mp (show d ∈ .tuple [.int lo, x] :: enumD (lo + 1) ds from h) with e | e
    · exact ⟨lo, x, e, List.mem_cons_self ..⟩
    · obtain ⟨i, y, e1, e2⟩ := enum_mem ds (lo + 1) d e
      exact ⟨i, y, e1, List.mem_cons_of_mem _ e2⟩
def NeedOk (n : Nd) : Prop := 1 ≤ n.length ∧ n.length ≤ 12 ∧ (∀ p ∈ n, InD 20 p) ∧ ascT ltP n = true
theorem odd_set_eq {r : List Nd} (h1 : 1 ≤ r.length) (h2 : r.length ≤ 60) (h3 : ∀ n ∈ r, NeedOk n) : g_odd_set [.im (rD r)] = some (.im .none) := by
  obtain ⟨ρ', e1, y, z, rfl⟩ := for_inv (b := bPair 1 2) (body := sIf (tNotE (eB (eCall g_is_need (aCons (eVar 2) aNil)))) (sRet (eTup (aCons (eVar 1) aNil))) sNext) (fun ρ => ∃ y z, ρ = [some (.im (rD r)), y, z]) (enumD 0 (r.map nD)) [some (.im (rD r)), none, none] ⟨none, none, rfl⟩ (fun d hd ρ ⟨y, z, hy⟩ => by
    subst hy
    obtain ⟨i, x, rfl, hx⟩ := enum_mem _ _ d hd
    obtain ⟨n, hn, rfl⟩ := List.mem_map.mp hx
    obtain ⟨k1, k2, k3, k4⟩ := h3 n hn
    exact ⟨_, _, rfl, (q_iff (q_not (c := true) (q_eb (q_call (q_cons (x := .im (nD n)) rfl q_nil) (is_need_eq k1 k2 k3 k4))))).trans rfl, _, _, rfl⟩)
  have hl : eB (eChain (gRel fLe) (gRel fLe) (eC (.int 1)) (eCall gLen (aCons (eVar 0) aNil)) (eC (.int 60))) [some (.im (rD r)), none, none] = some true :=
    q_eb (q_chain rfl (q_call (q_cons q_v0 q_nil) (len_rD r)) (le_t (by omega)) rfl (le_t (by omega)))
  have e : m_odd_set [some (.im (rD r)), none, none] = some (.rt (.im .none)) :=
    (q_nx ((q_iff (q_or (c := false) (d := false) rfl (q_not hl))).trans rfl)).trans
    ((q_nx ((q_for (ds := enumD 0 (r.map nD)) rfl).trans e1)).trans rfl)
  show (m_odd_set [some (.im (rD r)), none, none]).bind retO = _
  rw [e]
  rfl
theorem asc_get {β : Type} {l : β → β → Bool} : ∀ {xs : List β} (i : Nat) (a b : β), ascT l xs = true → xs[i]? = some a → xs[i + 1]? = some b → l a b = true
  | [], i, a, b, _, h, _ => by simp at h
  | [_], i, a, b, _, _, h => by simp at h
  | x :: y :: xs, 0, a, b, h, ha, hb => by
    have h' : (l x y && ascT l (y :: xs)) = true := h
    rw [Bool.and_eq_true] at h'
    cases ha
    cases hb
    exact h'.1
  | x :: y :: xs, i + 1, a, b, h, ha, hb => by
    have h' : (l x y && ascT l (y :: xs)) = true := h
    rw [Bool.and_eq_true] at h'
    exact asc_get (xs := y :: xs) i a b h'.2 ha hb
theorem ix_at {ds : List PyData} {i : Nat} {d : PyData} {j : Int} (hj : j = i) (h : ds[i]? = some d) : gIx (.im (.tuple ds)) (.im (.int j)) = some (.im d) := by
  subst hj
  have hl : i < ds.length := (List.getElem?_eq_some_iff.mp h).1
  unfold gIx
  dsimp only
  unfold atI ixN
  rw [if_pos (by omega), if_pos (by omega), Option.bind_some, Int.toNat_natCast, h]
  rfl
theorem gSub_int {a b : Int} : gSub (.im (.int a)) (.im (.int b)) = some (.im (.int (a - b))) := rfl
theorem src2_eq {a b : Xp} {ρ : En} {i j : Int} (h1 : a ρ = some (.im (.int i))) (h2 : b ρ = some (.im (.int j))) (hi : 0 ≤ i ∧ i ≤ 1000) (hj : 0 ≤ j ∧ j ≤ 1000) : src2 (aCons a (aCons b aNil)) ρ = some (intsD i 1 (j - i).toNat) := by
  have e : src2 (aCons a (aCons b aNil)) ρ = if small i && small j then some (intsD i 1 (j - i).toNat) else none := by
    unfold src2
    rw [q_cons h1 (q_cons h2 q_nil)]
  rw [e, small_le hi.1 hi.2, small_le hj.1 hj.2]
  rfl
theorem ints_mem {lo c : Int} {n : Nat} {d : PyData} (h : d ∈ intsD lo c n) : ∃ i : Nat, i < n ∧ d = .int (lo + i * c) := by
  unfold intsD at h
  obtain ⟨i, hi, rfl⟩ := List.mem_map.mp h
  exact ⟨i, List.mem_range.mp hi, rfl⟩
theorem need_rule_eq {r : List Nd} (hr : ruleT ltP r = true) (hd : ∀ n ∈ r, ∀ p ∈ n, InD 20 p) : g_need_rule [.im (rD r)] = some (.im (rD r)) := by
  unfold ruleT at hr
  simp only [Bool.and_eq_true, decide_eq_true_eq, List.all_eq_true] at hr
  obtain ⟨⟨⟨⟨h1, h2⟩, h3⟩, h4⟩, h5⟩ := hr
  have hn : ∀ n ∈ r, NeedOk n := fun n hn => ⟨(h3 n hn).1.1, (h3 n hn).1.2, hd n hn, (h3 n hn).2⟩
  obtain ⟨ρ', e1, y, rfl⟩ := for_inv (b := bName 2) (body := sIf (eB (eBin (gRel fGe) (eBin gIx (eVar 0) (eBin gSub (eVar 2) (eC (.int 1)))) (eBin gIx (eVar 0) (eVar 2)))) sNever sNext) (fun ρ => ∃ y, ρ = [some (.im (rD r)), some (.im .none), y, none, none]) (intsD 1 1 ((r.length : Int) - 1).toNat) [some (.im (rD r)), some (.im .none), none, none, none] ⟨none, rfl⟩ (fun d hd ρ ⟨y, hy⟩ => by
    subst hy
    obtain ⟨i, hi, rfl⟩ := ints_mem hd
    have ha : r[i]? = some r[i] := List.getElem?_eq_getElem (by omega)
    have hb : r[i + 1]? = some r[i + 1] := List.getElem?_eq_getElem (by omega)
    have hlt := asc_get i _ _ h4 ha hb
    refine ⟨_, _, rfl, (q_iff (q_eb ((q_bin (q_bin q_v0 (q_bin (x := .im (.int (1 + i * 1))) rfl rfl gSub_int) (ix_at (ds := r.map nD) (i := i) (d := nD r[i]) (by omega) (by rw [List.getElem?_map, ha]; rfl))) (q_bin q_v0 (y := .im (.int (1 + i * 1))) rfl (ix_at (ds := r.map nD) (i := i + 1) (d := nD r[i + 1]) (by omega) (by rw [List.getElem?_map, hb]; rfl))) (gRel_nD _ _)).trans ?_))).trans rfl, _, rfl⟩
    rw [ge_nD, show ltN r[i] r[i + 1] = true from hlt]
    rfl)
  obtain ⟨ρ', e2, z, w, u, rfl⟩ := for_inv (b := bPair 2 3) (body := sIf (eB (eBin gNe (eComp (srcT (eVar 0)) [4] (bName 4) (tAndE (eB (eBin gNe (eVar 4) (eVar 3))) (eB (eCall g_has_all (aCons (eVar 3) (aCons (eVar 4) aNil))))) (eC (.int 1))) (eLst aNil))) sNever sNext) (fun ρ => ∃ z w u, ρ = [some (.im (rD r)), some (.im .none), z, w, u]) (enumD 0 (r.map nD)) [some (.im (rD r)), some (.im .none), y, none, none] ⟨y, none, none, rfl⟩ (fun d hd ρ ⟨z, w, u, hy⟩ => by
    subst hy
    obtain ⟨i, x, rfl, hx⟩ := enum_mem _ _ d hd
    obtain ⟨n, hn', rfl⟩ := List.mem_map.mp hx
    refine ⟨_, _, rfl, (q_iff (q_eb ((some_of (ds := r.map nD) (f := fun d => match dN d with | some m => !decide (m = n) && hasAll n m | none => false) rfl (fun d hd => ?_) (by rw [List.length_map]; omega)).trans ?_))).trans rfl, _, _, _, rfl⟩
    · obtain ⟨m, hm, rfl⟩ := List.mem_map.mp hd
      rw [dN_nD]
      refine q_and (a := eB (eBin gNe (eVar 4) (eVar 3))) (b := eB (eCall g_has_all (aCons (eVar 3) (aCons (eVar 4) aNil)))) (ρ := [some (.im (rD r)), some (.im .none), some (.im (.int i)), some (.im (nD n)), some (.im (nD m))]) (q_eb ((q_bin (x := .im (nD m)) (y := .im (nD n)) rfl rfl (gNe_im (shaped_nD _) (shaped_nD _))).trans (by rw [eqv_nD]))) (q_eb (q_call (q_cons (x := .im (nD n)) rfl (q_cons (x := .im (nD m)) rfl q_nil)) (has_all_eq n m ?_)))
      have := (hn m hm).2.1
      omega
    · congr 3
      rw [List.any_map, List.any_eq_false]
      intro m hm
      simp only [Function.comp_def, dN_nD]
      have := h5 n hn' m hm
      simp only [Bool.or_eq_true, decide_eq_true_eq, Bool.not_eq_true'] at this
      rcases this with e | e
      · rw [decide_eq_true e]
        simp
      · rw [e]
        simp)
  have e : m_need_rule [some (.im (rD r)), none, none, none, none] = some (.rt (.im (rD r))) :=
    (q_nx (q_asg (q_call (q_cons q_v0 q_nil) (odd_set_eq h1 h2 hn)))).trans
    ((q_nx rfl).trans
    ((q_nx ((q_for (src2_eq rfl (q_call (q_cons q_v0 q_nil) (len_rD r)) ⟨by omega, by omega⟩ ⟨by omega, by omega⟩)).trans e1)).trans
    ((q_nx ((q_for (ds := enumD 0 (r.map nD)) rfl).trans e2)).trans (q_ret q_v0))))
  show (m_need_rule [some (.im (rD r)), none, none, none, none]).bind retO = _
  rw [e]
  rfl
theorem rule_lens {r : List Nd} (hr : ruleT ltP r = true) : r.length ≤ 60 ∧ ∀ n ∈ r, 1 ≤ n.length ∧ n.length ≤ 12 := by
  unfold ruleT at hr
  simp only [Bool.and_eq_true, decide_eq_true_eq, List.all_eq_true] at hr
  exact ⟨hr.1.1.1.2, fun n hn => (hr.1.1.2 n hn).1⟩
theorem is_lesser_eq {a b : List Nd} (ha : ruleT ltP a = true) (hda : ∀ n ∈ a, ∀ p ∈ n, InD 20 p) (hb : ruleT ltP b = true) (hdb : ∀ n ∈ b, ∀ p ∈ n, InD 20 p) (h : lesserT a b = true) : g_is_lesser [.im (rD a), .im (rD b)] = some (.im (.bool true)) := by
  have la := rule_lens ha
  have lb := rule_lens hb
  have hc : eBin gEq (eComp (srcT (eVar 0)) [2] (bName 2) (tNotE (eB (eCall g_holds_one (aCons (eVar 2) (aCons (eVar 1) aNil))))) (eC (.int 1))) (eLst aNil) [some (.im (rD a)), some (.im (rD b)), none] = some (.im (.bool true)) := by
    rw [none_of (ds := a.map nD) (f := fun d => match dN d with | some n => !holdsOne n b | none => false) rfl (fun d hd => ?_) (by rw [List.length_map]; omega)]
    · congr 3
      rw [Bool.not_eq_true', List.any_map, List.any_eq_false]
      intro n hn
      simp only [Function.comp_def, dN_nD]
      unfold lesserT at h
      rw [List.all_eq_true] at h
      rw [h n hn]
      simp
    · obtain ⟨n, hn, rfl⟩ := List.mem_map.mp hd
      rw [dN_nD]
      exact q_not (ρ := [some (.im (rD a)), some (.im (rD b)), some (.im (nD n))]) (q_eb (q_call (q_cons (x := .im (nD n)) rfl (q_cons (x := .im (rD b)) rfl q_nil)) (holds_one_rD (by omega) fun m hm => by have := (lb.2 m hm).2; omega)))
  have e : m_is_lesser [some (.im (rD a)), some (.im (rD b)), none] = some (.rt (.im (.bool true))) :=
    (q_nx (q_drop (q_call (q_cons q_v0 q_nil) (need_rule_eq ha hda)))).trans
    ((q_nx (q_drop (q_call (q_cons q_v1 q_nil) (need_rule_eq hb hdb)))).trans (q_ret hc))
  show (m_is_lesser [some (.im (rD a)), some (.im (rD b)), none]).bind retO = _
  rw [e]
  rfl
end Al
set_option Elab.async false
set_option linter.all false
set_option maxRecDepth 100000
set_option maxHeartbeats 4000000
/-! Al, plain part H: need_term. -/
namespace Al
open PySem L2 Ai
def Sml (d : PyData) (k : Nat) : Prop := d.canLay0 = true ∧ d.depth ≤ k
theorem sml_all {k : Nat} : ∀ {ds : List PyData}, (∀ d ∈ ds, Sml d k) → PyData.canLayAll0 ds = true ∧ PyData.depthAll ds ≤ k
  | [], _ => by simp [PyData.canLayAll0, PyData.depthAll]
  | d :: ds, h => by
    have h1 := h d (List.mem_cons_self ..)
    have h2 := sml_all fun x hx => h x (List.mem_cons_of_mem _ hx)
    simp only [PyData.canLayAll0, PyData.depthAll, h1.1, h2.1, Bool.and_self, true_and]
    have := h1.2
    have := h2.2
    omega
theorem sml_tup {k : Nat} {ds : List PyData} (h : ∀ d ∈ ds, Sml d k) : Sml (.tuple ds) (k + 1) := by
  have h1 := sml_all h
  exact ⟨by simp only [PyData.canLay0, h1.1], by simp only [PyData.depth]; omega⟩
theorem Sml.mono {d : PyData} {k m : Nat} (h : Sml d k) (hk : k ≤ m) : Sml d m := ⟨h.1, Nat.le_trans h.2 hk⟩
theorem sml_int (i : Int) : Sml (.int i) 0 := ⟨by simp [PyData.canLay0], by simp [PyData.depth]⟩
theorem shaped_sml {ds : List PyData} (h : ∀ d ∈ ds, Sml d 12) : SeqAt.shaped (.list ds) = true := by
  have h1 := sml_all h
  unfold SeqAt.shaped
  simp only [PyData.canLay0, h1.1, PyData.depth, Bool.true_and]
  exact decide_eq_true (by omega)
/-! ### terms that pass -/
structure Ok (t : PyData) (ps : List PyData) : Prop where
  form : g_has_form [.im t] = some (.im (.bool true))
  parts : g_parts_of [.im t] = some (.im (.tuple ps))
  sml : Sml t 9
mutual
inductive Gd : Nat → PyData → Nat → Prop
  | mk {h c : Nat} {t : PyData} {ps : List PyData} : Ok t ps → GdL h ps c → Gd (h + 1) t (c + 1)
inductive GdL : Nat → List PyData → Nat → Prop
  | nil {h : Nat} : GdL h [] 0
  | cons {h a b : Nat} {t : PyData} {ts : List PyData} : Gd h t a → GdL h ts b → GdL h (t :: ts) (a + b)
end
theorem Gd.pos {h c : Nat} {t : PyData} (g : Gd h t c) : 1 ≤ h ∧ 1 ≤ c := by
  cases g
  omega
theorem Gd.sml {h c : Nat} {t : PyData} (g : Gd h t c) : Sml t 9 := by
  cases g with
  | mk o _ => exact o.sml
theorem GdL.snoc {h : Nat} {x : PyData} : ∀ {l : List PyData} {c : Nat}, GdL h (l ++ [x]) c → ∃ a b, GdL h l a ∧ Gd h x b ∧ c = a + b
  | [], c, g => by
    cases g with
    | cons g1 g2 =>
      cases g2
      exact ⟨0, _, .nil, g1, by omega⟩
  | y :: l, c, g => by
    cases g with
    | cons g1 g2 =>
      obtain ⟨a, b, k1, k2, k3⟩ := GdL.snoc g2
      exact ⟨_, b, .cons g1 k1, k2, by omega⟩
def Ints (path : List PyData) : Prop := ∀ d ∈ path, ∃ i : Int, d = .int i
inductive StOk : List PyData → Nat → Prop
  | nil : StOk [] 0
  | snoc {s : List PyData} {a h b : Nat} {t : PyData} {path : List PyData} : StOk s a → Gd h t b → path.length + h ≤ 6 → Ints path → StOk (s ++ [.tuple [t, .tuple path]]) (a + b)
theorem StOk.len {s : List PyData} {c : Nat} (h : StOk s c) : s.length ≤ c := by
  induction h with
  | nil => simp
  | snoc _ g _ _ ih =>
    have := g.pos
    rw [List.length_append, List.length_singleton]
    omega
theorem StOk.sml {s : List PyData} {c : Nat} (h : StOk s c) : ∀ d ∈ s, Sml d 12 := by
  induction h with
  | nil => intro d hd; cases hd
  | snoc _ g _ hp ih =>
    intro d hd
    rcases List.mem_append.mp hd with e | e
    · exact ih d e
    · rw [List.mem_singleton.mp e]
      refine (sml_tup (k := 9) fun d hd => ?_).mono (by omega)
      rcases List.mem_cons.mp hd with e | e
      · rw [e]
        exact g.sml
      · rw [List.mem_singleton.mp e]
        refine (sml_tup (k := 0) fun d hd => ?_).mono (by omega)
        obtain ⟨i, rfl⟩ := hp d hd
        exact sml_int i
def ntTest : Te := eB (eBin gNe (eVar 1) (eLst aNil))
def ntPush : Bk := sApp 1 (eTup (aCons (eBin gIx (eVar 5) (eVar 6)) (aCons (eBin gAdd (eVar 4) (eTup (aCons (eVar 6) aNil))) aNil)))
def ntFor : Bk := sFor (src3 (aCons (eBin gSub (eCall gLen (aCons (eVar 5) aNil)) (eC (.int 1))) (aCons (eNeg (eC (.int 1))) (aCons (eNeg (eC (.int 1))) aNil)))) (bName 6) ntPush
def ntBody : Bk := sSeq (sPop 1 3 4) (sSeq (sAsg 2 (eBin gAdd (eVar 2) (eC (.int 1)))) (sSeq (sIf (eB (eBin (gRel fGe) (eCall gLen (aCons (eVar 4) aNil)) (eC (.int 6)))) sNever sNext) (sSeq (sIf (eB (eBin (gRel fGt) (eVar 2) (eC (.int 20)))) sNever sNext) (sSeq (sIf (tNotE (eB (eCall g_has_form (aCons (eVar 3) aNil)))) sNever sNext) (sSeq (sAsg 5 (eCall g_parts_of (aCons (eVar 3) aNil))) ntFor)))))
theorem ints_down (j : Nat) : intsD (((j + 1 : Nat) : Int) - 1) (-1) (j + 1) = .int j :: intsD ((j : Int) - 1) (-1) j := by
  unfold intsD
  rw [List.range_succ_eq_map, List.map_cons, List.map_map]
  congr 1
  · congr 1
    omega
  · refine List.map_congr_left fun i _ => ?_
    simp only [Function.comp_def]
    congr 1
    omega
theorem nt_push {a0 a2 a3 : Option Val} {path ps : List PyData} {h : Nat} (hp : path.length + 1 + h ≤ 6) (hi : Ints path) : ∀ (j : Nat) (s : List PyData) (a c : Nat) (w : Option Val), j ≤ ps.length → StOk s a → GdL h (ps.take j) c → a + c ≤ 1000 →
    ∃ s' w', StOk s' (a + c) ∧ forL (bName 6) ntPush (intsD ((j : Int) - 1) (-1) j) [a0, some (.ls true s), a2, a3, some (.im (.tuple path)), some (.im (.tuple ps)), w] = some (.nx [a0, some (.ls true s'), a2, a3, some (.im (.tuple path)), some (.im (.tuple ps)), w'])
  | 0, s, a, c, w, _, hs, hg, _ => by
    rw [List.take_zero] at hg
    cases hg
    exact ⟨s, w, hs, rfl⟩
  | j + 1, s, a, c, w, hj, hs, hg, hc => by
    have hget : ps[j]? = some ps[j] := List.getElem?_eq_getElem (by omega)
    rw [List.take_add_one, hget, Option.toList_some] at hg
    obtain ⟨c1, c2, g1, g2, rfl⟩ := GdL.snoc hg
    have hs1 : StOk (s ++ [.tuple [ps[j], .tuple (path ++ [.int j])]]) (a + c2) := .snoc hs g2 (by rw [List.length_append, List.length_singleton]; omega) (fun d hd => by
      rcases List.mem_append.mp hd with e | e
      · exact hi d e
      · exact ⟨_, List.mem_singleton.mp e⟩)
    obtain ⟨s', w', k1, k2⟩ := nt_push hp hi j _ (a + c2) c1 (some (.im (.int j))) (by omega) hs1 g1 (by omega)
    refine ⟨s', w', by rw [show a + (c1 + c2) = a + c2 + c1 by omega]; exact k1, ?_⟩
    rw [ints_down]
    refine (forL_cons (ρ1 := [a0, some (.ls true s), a2, a3, some (.im (.tuple path)), some (.im (.tuple ps)), some (.im (.int j))]) rfl ?_).trans k2
    have hsl := hs.len
    have h1 : eTup (aCons (eBin gIx (eVar 5) (eVar 6)) (aCons (eBin gAdd (eVar 4) (eTup (aCons (eVar 6) aNil))) aNil)) [a0, some (.ls true s), a2, a3, some (.im (.tuple path)), some (.im (.tuple ps)), some (.im (.int j))] = some (.im (.tuple [ps[j], .tuple (path ++ [.int j])])) := by
      unfold eTup
      rw [q_cons (q_bin (x := .im (.tuple ps)) (y := .im (.int j)) rfl rfl (ix_at (i := j) rfl hget)) (q_cons (q_bin (x := .im (.tuple path)) (y := .im (.tuple [.int j])) rfl rfl (gAdd_tup (by rw [List.length_singleton]; omega))) q_nil)]
      rfl
    unfold ntPush sApp
    rw [h1, Option.bind_some]
    simp only [List.getElem?_cons_zero, List.getElem?_cons_succ, lenOk_le (show s.length ≤ 1000000 by omega), if_true, List.set_cons_zero, List.set_cons_succ]
theorem w_f {t : Te} {b : Bk} {n : Nat} {ρ : En} (h : t ρ = some false) : whF t b (n + 1) ρ = some (.nx ρ) := by simp [whF, h]
theorem w_t {t : Te} {b : Bk} {n : Nat} {ρ ρ2 : En} (h : t ρ = some true) (h2 : b ρ = some (.nx ρ2)) : whF t b (n + 1) ρ = whF t b n ρ2 := by simp [whF, h, h2]
theorem nt_test {s : List PyData} {a : Option Val} {ρ : En} (h : ∀ d ∈ s, Sml d 12) : ntTest (a :: some (.ls true s) :: ρ) = some (!s.isEmpty) := by
  have s0 : SeqAt.shaped (.list []) = true := shaped_ones 0
  have e : PyData.eqv (.list s) (.list []) = s.isEmpty := by
    cases s with
    | nil => rfl
    | cons d s => simp [PyData.eqv, PyData.eqvAll]
  refine q_eb (q_bin (x := .ls false s) (y := .ls true []) rfl rfl ?_)
  simp [gNe, isD, toD, shaped_sml h, s0, e]
theorem len_tup {ds : List PyData} : gLen [.im (.tuple ds)] = some (.im (.int ds.length)) := rfl
theorem ge_6 {n : Nat} (h : n < 6) : gRel fGe (.im (.int n)) (.im (.int 6)) = some (.im (.bool false)) := by
  rw [gRel_int, show fGe (n : Int) 6 = decide ((6 : Int) ≤ n) from rfl, decide_eq_false (by omega)]
theorem gt_20 {n : Nat} (h : n ≤ 20) : gRel fGt (.im (.int n)) (.im (.int 20)) = some (.im (.bool false)) := by
  rw [gRel_int, show fGt (n : Int) 20 = decide ((20 : Int) < n) from rfl, decide_eq_false (by omega)]
theorem src3_down {n : Nat} {ρ : En} {a : Xp} (h : a ρ = some (.im (.int ((n : Int) - 1)))) (hn : n ≤ 1000) : src3 (aCons a (aCons (eNeg (eC (.int 1))) (aCons (eNeg (eC (.int 1))) aNil))) ρ = some (intsD ((n : Int) - 1) (-1) n) := by
  have e : src3 (aCons a (aCons (eNeg (eC (.int 1))) (aCons (eNeg (eC (.int 1))) aNil))) ρ = if small ((n : Int) - 1) && small (-1) then some (intsD ((n : Int) - 1) (-1) (((n : Int) - 1) - -1).toNat) else none := by
    unfold src3
    rw [q_cons h (q_cons (x := .im (.int (-1))) rfl (q_cons (x := .im (.int (-1))) rfl q_nil))]
    generalize small = f
    rfl
  have hs : ∀ i : Int, -1 ≤ i → i ≤ 1000 → small i = true := fun i h1 h2 => by
    unfold small
    have h3 : (2 : Int) ^ 62 = 4611686018427387904 := by decide +kernel
    rw [h3, decide_eq_true (by omega), decide_eq_true (by omega)]
    rfl
  rw [e, hs _ (by omega) (by omega), hs _ (by omega) (by omega), show (((n : Int) - 1) - -1).toNat = n by omega]
  rfl
theorem nt_loop {a0 : Option Val} : ∀ (fuel : Nat) (s : List PyData) (c many : Nat) (x y z w : Option Val), StOk s c → many + c ≤ 20 → c < fuel →
    ∃ (m' : Nat) (x' y' z' w' : Option Val), whF ntTest ntBody fuel [a0, some (.ls true s), some (.im (.int many)), x, y, z, w] = some (.nx [a0, some (.ls true []), some (.im (.int m')), x', y', z', w'])
  | 0, s, c, many, x, y, z, w, _, _, h => by omega
  | fuel + 1, s, c, many, x, y, z, w, hs, hm, hf => by
    have htest := nt_test (a := a0) (ρ := [some (.im (.int many)), x, y, z, w]) hs.sml
    cases hs with
    | nil => exact ⟨many, x, y, z, w, w_f htest⟩
    | @snoc s a h b t path hs hg hp hi =>
      have hsl := hs.len
      cases hg with
      | @mk h c _ ps ok gl =>
        have hgl : GdL h (ps.take ps.length) c := by
          rw [List.take_length]
          exact gl
        have hpl : ∀ {l : List PyData} {c : Nat}, GdL h l c → l.length ≤ c := by
          intro l
          induction l with
          | nil => intro c _; simp
          | cons y l ih =>
            intro c g
            cases g with
            | cons g1 g2 =>
              have := g1.pos
              have := ih g2
              rw [List.length_cons]
              omega
        have hpsl := hpl gl
        obtain ⟨s', w1, k1, k2⟩ := nt_push (a0 := a0) (a2 := some (.im (.int ((many + 1 : Nat) : Int)))) (a3 := some (.im t)) (path := path) (ps := ps) (by omega) hi ps.length s a c w (Nat.le_refl _) hs hgl (by omega)
        obtain ⟨m', x', y', z', w', e⟩ := nt_loop (a0 := a0) fuel s' (a + c) (many + 1) (some (.im t)) (some (.im (.tuple path))) (some (.im (.tuple ps))) w1 k1 (by omega) (by omega)
        refine ⟨m', x', y', z', w', (w_t (htest.trans (by simp)) ?_).trans e⟩
        have hpop : sPop 1 3 4 [a0, some (.ls true (s ++ [.tuple [t, .tuple path]])), some (.im (.int many)), x, y, z, w] = some (.nx [a0, some (.ls true s), some (.im (.int many)), some (.im t), some (.im (.tuple path)), z, w]) := by
          unfold sPop
          simp only [List.getElem?_cons_zero, List.getElem?_cons_succ, List.length_append, List.length_singleton, Nat.add_sub_cancel, List.getElem?_concat_length, Option.bind_some, List.dropLast_concat, List.set_cons_zero, List.set_cons_succ]
          rfl
        have hfor : ntFor [a0, some (.ls true s), some (.im (.int ((many + 1 : Nat) : Int))), some (.im t), some (.im (.tuple path)), some (.im (.tuple ps)), w] = some (.nx [a0, some (.ls true s'), some (.im (.int ((many + 1 : Nat) : Int))), some (.im t), some (.im (.tuple path)), some (.im (.tuple ps)), w1]) :=
          (q_for (src3_down (n := ps.length) (q_bin (q_call (q_cons (x := .im (.tuple ps)) rfl q_nil) len_tup) rfl gSub_int) (by omega))).trans k2
        refine (q_nx hpop).trans ?_
        refine (q_nx (q_asg (d := .int ((many + 1 : Nat) : Int)) rfl)).trans ?_
        refine (q_nx ((q_iff (q_eb (q_bin (q_call (q_cons (x := .im (.tuple path)) rfl q_nil) len_tup) rfl (ge_6 (by omega))))).trans rfl)).trans ?_
        refine (q_nx ((q_iff (q_eb (q_bin (x := .im (.int ((many + 1 : Nat) : Int))) rfl rfl (gt_20 (by omega))))).trans rfl)).trans ?_
        refine (q_nx ((q_iff (q_not (c := true) (q_eb (q_call (q_cons (x := .im t) rfl q_nil) ok.form)))).trans rfl)).trans ?_
        refine (q_nx (q_asg (q_call (q_cons (x := .im t) rfl q_nil) ok.parts))).trans ?_
        exact hfor
theorem need_term_eq {h c : Nat} {t : PyData} (g : Gd h t c) (hh : h ≤ 6) (hc : c ≤ 20) : g_need_term [.im t] = some (.im t) := by
  have hs : StOk [.tuple [t, .tuple []]] (0 + c) := StOk.snoc (s := []) .nil g (by simp; omega) (fun d hd => by cases hd)
  obtain ⟨m, x, y, z, w, e⟩ := nt_loop (a0 := some (.im t)) 40 _ (0 + c) 0 none none none none hs (by omega) (by omega)
  have e1 : m_need_term [some (.im t), none, none, none, none, none, none] = some (.rt (.im t)) :=
    (q_nx (q_asgl (ds := [.tuple [t, .tuple []]]) rfl)).trans
    ((q_nx (q_asg (d := .int ((0 : Nat) : Int)) rfl)).trans
    ((q_nx e).trans (q_ret q_v0)))
  show (m_need_term [some (.im t), none, none, none, none, none, none]).bind retO = _
  rw [e1]
  rfl
end Al
set_option Elab.async false
set_option linter.all false
set_option maxRecDepth 100000
set_option maxHeartbeats 4000000
/-! Al, plain part I: has_form, parts_of, rule_so, joined_rules, terms_alike. -/
namespace Al
open PySem L2 Ai
def atD (p : Pl) : PyData := .tuple [.str "at", pD p]
def turnD (t : PyData) : PyData := .tuple [.str "turned", t]
def hd (m : Bool) : PyData := if m then .str "most" else .str "least"
def manyD (m : Bool) (ps : List PyData) : PyData := .tuple [hd m, .tuple ps]
theorem at_0 {p : Pl} : gIx (.im (atD p)) (.im (.int 0)) = some (.im (.str "at")) := ix_0
theorem at_1 {p : Pl} : gIx (.im (atD p)) (.im (.int 1)) = some (.im (pD p)) := ix_1
theorem tu_0 {t : PyData} : gIx (.im (turnD t)) (.im (.int 0)) = some (.im (.str "turned")) := ix_0
theorem tu_1 {t : PyData} : gIx (.im (turnD t)) (.im (.int 1)) = some (.im t) := ix_1
theorem ma_0 {m : Bool} {ps : List PyData} : gIx (.im (manyD m ps)) (.im (.int 0)) = some (.im (hd m)) := ix_0
theorem ma_1 {m : Bool} {ps : List PyData} : gIx (.im (manyD m ps)) (.im (.int 1)) = some (.im (.tuple ps)) := ix_1
/-! ### the words -/
theorem w1 : gEq (.im (.str "at")) (.im (.str "at")) = some (.im (.bool true)) := by kernel_rfl
theorem w2 : gEq (.im (.str "rank")) (.im (.str "at")) = some (.im (.bool false)) := by kernel_rfl
theorem w3 : gEq (.im (.str "rank")) (.im (.str "rank")) = some (.im (.bool true)) := by kernel_rfl
theorem w4 : gEq (.im (.str "turned")) (.im (.str "at")) = some (.im (.bool false)) := by kernel_rfl
theorem w5 : gEq (.im (.str "turned")) (.im (.str "rank")) = some (.im (.bool false)) := by kernel_rfl
theorem w6 : gEq (.im (.str "turned")) (.im (.str "then")) = some (.im (.bool false)) := by kernel_rfl
theorem w7 : gEq (.im (.str "turned")) (.im (.str "turned")) = some (.im (.bool true)) := by kernel_rfl
theorem w8 : gEq (.im (.str "rank")) (.im (.str "again")) = some (.im (.bool false)) := by kernel_rfl
theorem w9 (m : Bool) : gEq (.im (hd m)) (.im (.str "at")) = some (.im (.bool false)) := by cases m <;> kernel_rfl
theorem w10 (m : Bool) : gEq (.im (hd m)) (.im (.str "rank")) = some (.im (.bool false)) := by cases m <;> kernel_rfl
theorem w11 (m : Bool) : gEq (.im (hd m)) (.im (.str "most")) = some (.im (.bool m)) := by cases m <;> kernel_rfl
theorem v1 (m : Bool) : gIn false (.im (hd m)) (.im (.tuple [.str "most", .str "least"])) = some (.im (.bool true)) := by cases m <;> kernel_rfl
theorem v2 : gIn false (.im (.str "turned")) (.im (.tuple [.str "most", .str "least"])) = some (.im (.bool false)) := by kernel_rfl
theorem v3 (m : Bool) : gIn false (.im (hd m)) (.im (.tuple [.str "at", .str "rank"])) = some (.im (.bool false)) := by cases m <;> kernel_rfl
theorem v4 : gIn false (.im (.str "turned")) (.im (.tuple [.str "at", .str "rank"])) = some (.im (.bool false)) := by kernel_rfl
theorem v5 : gIn false (.im (.str "at")) (.im (.tuple [.str "at", .str "rank"])) = some (.im (.bool true)) := by kernel_rfl
theorem v6 : gIn false (.im (.str "rank")) (.im (.tuple [.str "at", .str "rank"])) = some (.im (.bool true)) := by kernel_rfl
theorem u1 : gIn true (.im (.int 2)) (.im (.tuple [.int 2, .int 3])) = some (.im (.bool false)) := by kernel_rfl
theorem u2 : gIn true (.im (.int 3)) (.im (.tuple [.int 2, .int 3])) = some (.im (.bool false)) := by kernel_rfl
theorem u3 : gEq (.im (.int 2)) (.im (.int 2)) = some (.im (.bool true)) := by kernel_rfl
theorem u4 : gEq (.im (.int 3)) (.im (.int 2)) = some (.im (.bool false)) := by kernel_rfl
theorem lay_at : (PyData.str "at").canLay0 = true := by decide +kernel
theorem lay_rank : (PyData.str "rank").canLay0 = true := by decide +kernel
theorem lay_turned : (PyData.str "turned").canLay0 = true := by decide +kernel
theorem lay_hd (m : Bool) : (hd m).canLay0 = true := by cases m <;> decide +kernel
/-! ### has_form -/
abbrev hfHead : Xp := eBin gIx (eVar 0) (eC (.int 0))
abbrev hfIs (s : String) : Te := eB (eBin gEq hfHead (eC (.str s)))
abbrev hfMany : Te := eB (eBin (gIn false) hfHead (eTup (aCons (eC (.str "most")) (aCons (eC (.str "least")) aNil))))
abbrev hfEnds : Te := eB (eBin (gIn false) hfHead (eTup (aCons (eC (.str "at")) (aCons (eC (.str "rank")) aNil))))
def hfA : Bk := sIf (tOrE (tNotE (eB (eIsi "tuple" (eVar 0)))) (tOrE (eB (eBin (gIn true) (eCall gLen (aCons (eVar 0) aNil)) (eTup (aCons (eC (.int 2)) (aCons (eC (.int 3)) aNil))))) (tNotE (eB (eIsi "str" hfHead))))) (sRet (eC (.bool false))) sNext
theorem q_isi {T : String} {a : Xp} {ρ : En} {d : PyData} {b : Bool} (h : a ρ = some (.im d)) (h2 : isiD T d = some b) : eIsi T a ρ = some (.im (.bool b)) := by simp [eIsi, h, h2]
theorem hf_2 {s b : PyData} (hs : isiD "str" s = some true) : hfA [some (.im (.tuple [s, b]))] = some (.nx [some (.im (.tuple [s, b]))]) :=
  (q_iff (q_or (c := false) (d := false) rfl (q_or (c := false) (d := false) (q_eb (q_bin (x := .im (.int 2)) rfl rfl u1)) (q_not (q_eb (q_isi (q_bin q_v0 rfl ix_0) hs)))))).trans rfl
theorem hf_3 {s b c : PyData} (hs : isiD "str" s = some true) : hfA [some (.im (.tuple [s, b, c]))] = some (.nx [some (.im (.tuple [s, b, c]))]) :=
  (q_iff (q_or (c := false) (d := false) rfl (q_or (c := false) (d := false) (q_eb (q_bin (x := .im (.int 3)) rfl rfl u2)) (q_not (q_eb (q_isi (q_bin q_v0 rfl ix_0) hs)))))).trans rfl
theorem hf_at {p : Pl} (h : InD 20 p) : g_has_form [.im (atD p)] = some (.im (.bool true)) := by
  have e : m_has_form [some (.im (atD p))] = some (.rt (.im (.bool true))) := by
    refine (q_nx (s := hfA) (hf_2 rfl)).trans ?_
    refine q_rt ((q_ift (q_eb (q_bin (x := .im (.int 2)) rfl rfl u3))).trans ?_)
    refine q_rt ((q_ift (q_eb (q_bin (q_bin q_v0 rfl ix_0) rfl w1))).trans ?_)
    exact q_ret (q_call (q_cons (q_bin q_v0 rfl ix_1) (q_cons rfl q_nil)) (is_pair_from_eq h))
  show (m_has_form [some (.im (atD p))]).bind retO = _
  rw [e]
  rfl
theorem hf_many {m : Bool} {ps : List PyData} (h1 : 1 ≤ ps.length) (h2 : ps.length ≤ 60) : g_has_form [.im (manyD m ps)] = some (.im (.bool true)) := by
  have e : m_has_form [some (.im (manyD m ps))] = some (.rt (.im (.bool true))) := by
    refine (q_nx (s := hfA) (hf_2 (by cases m <;> rfl))).trans ?_
    refine q_rt ((q_ift (q_eb (q_bin (x := .im (.int 2)) rfl rfl u3))).trans ?_)
    refine (q_nx ((q_iff (q_eb (q_bin (q_bin q_v0 rfl ma_0) rfl (w9 m)))).trans rfl)).trans ?_
    refine q_rt ((q_ift (q_eb (q_bin (q_bin q_v0 rfl ma_0) rfl (v1 m)))).trans ?_)
    exact q_ret (q_eand (q_isi (q_bin q_v0 rfl ma_1) rfl) (q_chain rfl (q_call (q_cons (q_bin q_v0 rfl ma_1) q_nil) len_tup) (le_t (by omega)) rfl (le_t (by omega))))
  show (m_has_form [some (.im (manyD m ps))]).bind retO = _
  rw [e]
  rfl
theorem hf_turn {t : PyData} : g_has_form [.im (turnD t)] = some (.im (.bool true)) := by
  have e : m_has_form [some (.im (turnD t))] = some (.rt (.im (.bool true))) := by
    refine (q_nx (s := hfA) (hf_2 rfl)).trans ?_
    refine q_rt ((q_ift (q_eb (q_bin (x := .im (.int 2)) rfl rfl u3))).trans ?_)
    refine (q_nx ((q_iff (q_eb (q_bin (q_bin q_v0 rfl tu_0) rfl w4))).trans rfl)).trans ?_
    refine (q_nx ((q_iff (q_eb (q_bin (q_bin q_v0 rfl tu_0) rfl v2))).trans rfl)).trans ?_
    exact q_ret (q_bin (q_bin q_v0 rfl tu_0) rfl w7)
  show (m_has_form [some (.im (turnD t))]).bind retO = _
  rw [e]
  rfl
structure SpOk (sp : Nd) : Prop where
  lo : 1 ≤ sp.length
  hi : sp.length ≤ 12
  ins : ∀ p ∈ sp, InD 20 p
  asc : ascT ltP sp = true
theorem SpOk.spread {sp : Nd} (h : SpOk sp) : g_is_spread [.im (nD sp)] = some (.im (.bool true)) := is_spread_eq h.lo h.hi h.ins h.asc
theorem hf_rank {sp : Nd} {k : Nat} (h : SpOk sp) (h1 : 1 ≤ k) (h2 : k ≤ sp.length) : g_has_form [.im (rankD k sp)] = some (.im (.bool true)) := by
  have e : m_has_form [some (.im (rankD k sp))] = some (.rt (.im (.bool true))) := by
    refine (q_nx (s := hfA) (hf_3 rfl)).trans ?_
    refine (q_nx ((q_iff (q_eb (q_bin (x := .im (.int 3)) rfl rfl u4))).trans rfl)).trans ?_
    refine (q_nx ((q_iff (q_eb (q_bin (q_bin q_v0 rfl rk_0) rfl w8))).trans rfl)).trans ?_
    refine q_rt ((q_ift (q_eb (q_bin (q_bin q_v0 rfl rk_0) rfl w3))).trans ?_)
    exact q_ret (q_eand (q_call (q_cons (q_bin q_v0 rfl rk_2) q_nil) h.spread) (q_call (q_cons (q_bin q_v0 rfl rk_1) (q_cons rfl (q_cons (q_call (q_cons (q_bin q_v0 rfl rk_2) q_nil) (len_nD sp)) q_nil))) (is_from_eq (by omega) (by omega))))
  show (m_has_form [some (.im (rankD k sp))]).bind retO = _
  rw [e]
  rfl
/-! ### parts_of -/
theorem po_at {p : Pl} : g_parts_of [.im (atD p)] = some (.im (.tuple [])) := by
  have e : m_parts_of [some (.im (atD p))] = some (.rt (.im (.tuple []))) :=
    q_rt ((q_ift (q_eb (q_bin (q_bin q_v0 rfl at_0) rfl v5))).trans rfl)
  show (m_parts_of [some (.im (atD p))]).bind retO = _
  rw [e]
  rfl
theorem po_rank {k : Nat} {sp : Nd} : g_parts_of [.im (rankD k sp)] = some (.im (.tuple [])) := by
  have e : m_parts_of [some (.im (rankD k sp))] = some (.rt (.im (.tuple []))) :=
    q_rt ((q_ift (q_eb (q_bin (q_bin q_v0 rfl rk_0) rfl v6))).trans rfl)
  show (m_parts_of [some (.im (rankD k sp))]).bind retO = _
  rw [e]
  rfl
theorem po_many {m : Bool} {ps : List PyData} : g_parts_of [.im (manyD m ps)] = some (.im (.tuple ps)) := by
  have e : m_parts_of [some (.im (manyD m ps))] = some (.rt (.im (.tuple ps))) := by
    refine (q_nx ((q_iff (q_eb (q_bin (q_bin q_v0 rfl ma_0) rfl (v3 m)))).trans rfl)).trans ?_
    exact q_rt ((q_ift (q_eb (q_bin (q_bin q_v0 rfl ma_0) rfl (v1 m)))).trans (q_ret (q_bin q_v0 rfl ma_1)))
  show (m_parts_of [some (.im (manyD m ps))]).bind retO = _
  rw [e]
  rfl
theorem po_turn {t : PyData} : g_parts_of [.im (turnD t)] = some (.im (.tuple [t])) := by
  have e : m_parts_of [some (.im (turnD t))] = some (.rt (.im (.tuple [t]))) := by
    refine (q_nx ((q_iff (q_eb (q_bin (q_bin q_v0 rfl tu_0) rfl v4))).trans rfl)).trans ?_
    refine (q_nx ((q_iff (q_eb (q_bin (q_bin q_v0 rfl tu_0) rfl v2))).trans rfl)).trans ?_
    refine q_ret (q_eiff (q_eb (q_bin (q_bin q_v0 rfl tu_0) rfl w6)) ?_)
    unfold eTup
    rw [q_cons (q_bin q_v0 rfl tu_1) q_nil]
    rfl
  show (m_parts_of [some (.im (turnD t))]).bind retO = _
  rw [e]
  rfl
/-! ### terms that pass -/
theorem sml_str {s : Str} (h : (PyData.str s).canLay0 = true) : Sml (.str s) 0 := ⟨h, by simp [PyData.depth]⟩
theorem sml_hd (m : Bool) : Sml (hd m) 0 := ⟨lay_hd m, by cases m <;> simp [hd, PyData.depth]⟩
theorem sml_pD (p : Pl) : Sml (pD p) 1 := ⟨lay_pD p, by rw [depth_pD]; exact Nat.le_refl 1⟩
theorem sml_nD (n : Nd) : Sml (nD n) 2 := ⟨lay_nD n, depth_nD n⟩
theorem sml_2 {a b : PyData} {k : Nat} (ha : Sml a k) (hb : Sml b k) : Sml (.tuple [a, b]) (k + 1) := sml_tup fun d hd => by
  rcases List.mem_cons.mp hd with e | e
  · rw [e]
    exact ha
  · rw [List.mem_singleton.mp e]
    exact hb
theorem sml_at (p : Pl) : Sml (atD p) 2 := sml_2 ((sml_str lay_at).mono (by omega)) (sml_pD p)
theorem sml_rank (k : Nat) (sp : Nd) : Sml (rankD k sp) 3 := sml_tup fun d hd => by
  rcases List.mem_cons.mp hd with e | e
  · rw [e]
    exact (sml_str lay_rank).mono (by omega)
  · rcases List.mem_cons.mp e with e | e
    · rw [e]
      exact (sml_int _).mono (by omega)
    · rw [List.mem_singleton.mp e]
      exact sml_nD sp
theorem sml_many {m : Bool} {ps : List PyData} {k : Nat} (h : ∀ d ∈ ps, Sml d k) : Sml (manyD m ps) (k + 2) := sml_2 ((sml_hd m).mono (by omega)) (sml_tup h)
theorem gd_at {p : Pl} (h : InD 20 p) : Gd 1 (atD p) 1 := .mk (h := 0) (c := 0) ⟨hf_at h, po_at, (sml_at p).mono (by omega)⟩ .nil
theorem gd_rank {sp : Nd} {k : Nat} (h : SpOk sp) (h1 : 1 ≤ k) (h2 : k ≤ sp.length) : Gd 1 (rankD k sp) 1 := .mk (h := 0) (c := 0) ⟨hf_rank h h1 h2, po_rank, (sml_rank k sp).mono (by omega)⟩ .nil
theorem gd_turn {sp : Nd} {k : Nat} (h : SpOk sp) (h1 : 1 ≤ k) (h2 : k ≤ sp.length) : Gd 2 (turnD (rankD k sp)) 2 :=
  .mk (h := 1) (c := 1) ⟨hf_turn, po_turn, (sml_2 ((sml_str lay_turned).mono (by omega)) (sml_rank k sp)).mono (by omega)⟩ (.cons (gd_rank h h1 h2) .nil)
theorem gdl_map {α : Type} {f : α → PyData} {h c : Nat} : ∀ (l : List α), (∀ x ∈ l, Gd h (f x) c) → GdL h (l.map f) (l.length * c)
  | [], _ => by
    rw [List.length_nil, Nat.zero_mul]
    exact .nil
  | x :: l, k => by
    rw [List.length_cons, Nat.add_mul, Nat.one_mul, Nat.add_comm]
    exact .cons (k x (List.mem_cons_self ..)) (gdl_map l fun y hy => k y (List.mem_cons_of_mem _ hy))
theorem gd_ats {m : Bool} {n : Nd} (h1 : 1 ≤ n.length) (h2 : n.length ≤ 60) (h : ∀ p ∈ n, InD 20 p) : Gd 2 (manyD m (n.map atD)) (n.length * 1 + 1) :=
  .mk ⟨hf_many (by rw [List.length_map]; exact h1) (by rw [List.length_map]; exact h2), po_many, (sml_many (k := 2) fun d hd => by
    obtain ⟨p, _, rfl⟩ := List.mem_map.mp hd
    exact sml_at p).mono (by omega)⟩ (gdl_map n fun p hp => gd_at (h p hp))
theorem gd_all {ns : List Nd} {k : Nat} (h1 : 1 ≤ ns.length) (h2 : ns.length ≤ 60) (h3 : 1 ≤ k) (h4 : k ≤ 60) (h : ∀ n ∈ ns, n.length = k ∧ ∀ p ∈ n, InD 20 p) : Gd 3 (manyD true (ns.map fun n => manyD false (n.map atD))) (ns.length * (k * 1 + 1) + 1) :=
  .mk ⟨hf_many (by rw [List.length_map]; exact h1) (by rw [List.length_map]; exact h2), po_many, (sml_many (k := 4) fun d hd => by
    obtain ⟨n, _, rfl⟩ := List.mem_map.mp hd
    exact sml_many fun d hd => by
      obtain ⟨p, _, rfl⟩ := List.mem_map.mp hd
      exact sml_at p).mono (by omega)⟩ (gdl_map (f := fun n : Nd => manyD false (n.map atD)) ns fun n hn => by
        have := h n hn
        rw [← this.1]
        exact gd_ats (by omega) (by omega) this.2)
end Al
set_option Elab.async false
set_option linter.all false
set_option maxRecDepth 100000
set_option maxHeartbeats 4000000
/-! Al, plain part J: rule_so, joined_rules, term_rule, terms_alike, grown, eaten. -/
namespace Al
open PySem L2 Ai
/-- what is asked of a rule that is joined -/
def RlOk (r : List Nd) : Prop := r.length ≤ 60 ∧ ∀ n ∈ r, n.length ≤ 30
theorem rl_at (p : Pl) : RlOk [[p]] := ⟨by simp, fun n hn => by rw [List.mem_singleton.mp hn]; simp⟩
theorem RlOk.of {ns r : List Nd} (h : leastC ltP ns = some r) : RlOk r := by
  obtain ⟨h1, _, h3⟩ := leastC_len h
  exact ⟨h1, fun n hn => (h3 n hn).2⟩
def opT (m : Bool) (a b : List Nd) : Option (List Nd) := if m then eitherT ltP a b else bothT ltP a b
theorem opT_ok {m : Bool} {a b r : List Nd} (h : opT m a b = some r) : RlOk r := by
  unfold opT at h
  cases m with
  | true => exact RlOk.of (ns := a ++ b) h
  | false => exact RlOk.of (ns := a.flatMap fun x => b.map fun y => joinN ltP x y) h
def jBody (g : List Val → Option Val) : Bk := sSeq (sAsg 3 (eCall g (aCons (eVar 2) aNil))) (sAsg 1 (eIf (eB (eBin gEq (eBin gIx (eVar 0) (eC (.int 0))) (eC (.str "most")))) (eCall g_either_so (aCons (eVar 1) (aCons (eVar 3) aNil))) (eCall g_both_so (aCons (eVar 1) (aCons (eVar 3) aNil)))))
def jAll (g : List Val → Option Val) : Bk := sSeq (sAsg 1 (eCall g (aCons (eBin gIx (eBin gIx (eVar 0) (eC (.int 1))) (eC (.int 0))) aNil))) (sSeq (sFor (srcT (eTail (eBin gIx (eVar 0) (eC (.int 1))))) (bName 2) (jBody g)) (sRet (eVar 1)))
theorem op_call {m : Bool} {t : PyData} {a b r : List Nd} {x : Option Val} (h0 : gIx (.im t) (.im (.int 0)) = some (.im (hd m))) (ha : RlOk a) (hb : RlOk b) (h : opT m a b = some r) :
    eIf (eB (eBin gEq (eBin gIx (eVar 0) (eC (.int 0))) (eC (.str "most")))) (eCall g_either_so (aCons (eVar 1) (aCons (eVar 3) aNil))) (eCall g_both_so (aCons (eVar 1) (aCons (eVar 3) aNil))) [some (.im t), some (.im (rD a)), x, some (.im (rD b))] = some (.im (rD r)) := by
  have hw := w11 m
  have ha1 := ha.1
  have hb1 := hb.1
  cases m with
  | true => exact q_eift (q_eb (q_bin (q_bin q_v0 rfl h0) rfl hw)) (q_call (q_cons (x := .im (rD a)) rfl (q_cons (x := .im (rD b)) rfl q_nil)) (either_so_eq (by omega) h))
  | false => exact q_eiff (q_eb (q_bin (q_bin q_v0 rfl h0) rfl hw)) (q_call (q_cons (x := .im (rD a)) rfl (q_cons (x := .im (rD b)) rfl q_nil)) (both_so_eq (by omega) (by omega) (fun x hx y hy => by
      have := ha.2 x hx
      have := hb.2 y hy
      omega) h))
section
variable {α : Type} {g : List Val → Option Val} {f : α → PyData} {h : α → Option (List Nd)} {m : Bool} {t : PyData}
theorem j_loop (h0 : gIx (.im t) (.im (.int 0)) = some (.im (hd m))) : ∀ (l : List α) (found r : List Nd) (x y : Option Val), (∀ a ∈ l, ∀ c, h a = some c → RlOk c ∧ g [.im (f a)] = some (.im (rD c))) → RlOk found → foldO (fun found a => (h a).bind fun c => opT m found c) found l = some r →
    ∃ x' y', forL (bName 2) (jBody g) (l.map f) [some (.im t), some (.im (rD found)), x, y] = some (.nx [some (.im t), some (.im (rD r)), x', y'])
  | [], found, r, x, y, _, _, e => by
    cases e
    exact ⟨x, y, rfl⟩
  | a :: l, found, r, x, y, hg, hf, e => by
    obtain ⟨f2, e1, e2⟩ := bindS e
    obtain ⟨c, hc, e1⟩ := bindS e1
    obtain ⟨k1, k2⟩ := hg a (List.mem_cons_self ..) c hc
    obtain ⟨x', y', k⟩ := j_loop h0 l f2 r (some (.im (f a))) (some (.im (rD c))) (fun b hb => hg b (List.mem_cons_of_mem _ hb)) (opT_ok e1) e2
    refine ⟨x', y', ?_⟩
    rw [List.map_cons]
    refine (forL_cons (ρ1 := [some (.im t), some (.im (rD found)), some (.im (f a)), y]) rfl ?_).trans k
    refine (q_nx (q_asg (q_call (q_cons (x := .im (f a)) rfl q_nil) k2))).trans ?_
    exact q_asg (op_call h0 hf k1 e1)
theorem j_all (q : α) (l : List α) (b r : List Nd) (h0 : gIx (.im t) (.im (.int 0)) = some (.im (hd m))) (h1 : gIx (.im t) (.im (.int 1)) = some (.im (.tuple ((q :: l).map f)))) (hg : ∀ a ∈ q :: l, ∀ c, h a = some c → RlOk c ∧ g [.im (f a)] = some (.im (rD c)))
    (hb : h q = some b) (e : foldO (fun found a => (h a).bind fun c => opT m found c) b l = some r) : jAll g [some (.im t), none, none, none] = some (.rt (.im (rD r))) := by
  obtain ⟨k1, k2⟩ := hg q (List.mem_cons_self ..) b hb
  obtain ⟨x, y, k⟩ := j_loop (t := t) h0 l b r none none (fun a ha => hg a (List.mem_cons_of_mem _ ha)) k1 e
  refine (q_nx (q_asg (q_call (q_cons (q_bin (q_bin q_v0 rfl h1) rfl ix_0) q_nil) k2))).trans ?_
  refine (q_nx ((q_for (ds := l.map f) ?_).trans k)).trans (q_ret rfl)
  have ht : eTail (eBin gIx (eVar 0) (eC (.int 1))) [some (.im t), some (.im (rD b)), none, none] = some (.im (.tuple (l.map f))) := by
    unfold eTail
    rw [show eBin gIx (eVar 0) (eC (.int 1)) [some (.im t), some (.im (rD b)), none, none] = _ from q_bin q_v0 rfl h1]
    rfl
  show srcT (eTail (eBin gIx (eVar 0) (eC (.int 1)))) [some (.im t), some (.im (rD b)), none, none] = _
  unfold srcT
  rw [ht]
end
/-! ### rule_so -/
theorem rs_at {p : Pl} {x : Option Val} {T : Bk} : sSeq (sIf (hfIs "at") (sRet (eTup (aCons (eTup (aCons (eBin gIx (eVar 0) (eC (.int 1))) aNil)) aNil))) sNext) T [some (.im (atD p)), x] = some (.rt (.im (rD [[p]]))) := by
  refine q_rt ((q_ift (q_eb (q_bin (q_bin q_v0 rfl at_0) rfl w1))).trans (q_ret ?_))
  have h : eTup (aCons (eBin gIx (eVar 0) (eC (.int 1))) aNil) [some (.im (atD p)), x] = some (.im (.tuple [pD p])) := by
    unfold eTup
    rw [q_cons (q_bin q_v0 rfl at_1) q_nil]
    rfl
  rw [show eTup (aCons (eTup (aCons (eBin gIx (eVar 0) (eC (.int 1))) aNil)) aNil) [some (.im (atD p)), x] = (aCons (eTup (aCons (eBin gIx (eVar 0) (eC (.int 1))) aNil)) aNil [some (.im (atD p)), x]).bind fun xs => (imsOf xs).bind fun ds => if lenOk ds.length then some (.im (.tuple ds)) else none from rfl, q_cons h q_nil]
  rfl
theorem rs_rank {k : Nat} {sp : Nd} {r : List Nd} {x : Option Val} {A : Xp} {T : Bk} (h : g_rank_rule [.im (rankD k sp)] = some (.im (rD r))) : sSeq (sIf (hfIs "at") (sRet A) sNext) (sSeq (sIf (hfIs "rank") (sRet (eCall g_rank_rule (aCons (eVar 0) aNil))) sNext) T) [some (.im (rankD k sp)), x] = some (.rt (.im (rD r))) := by
  refine (q_nx ((q_iff (q_eb (q_bin (q_bin q_v0 rfl rk_0) rfl w2))).trans rfl)).trans ?_
  exact q_rt ((q_ift (q_eb (q_bin (q_bin q_v0 rfl rk_0) rfl w3))).trans (q_ret (q_call (q_cons q_v0 q_nil) h)))
theorem rs_many {m : Bool} {ps : List PyData} {z : Val} {x : Option Val} {A B : Xp} {g : List Val → Option Val} {T : Bk} (h : g [.im (manyD m ps)] = some z) : sSeq (sIf (hfIs "at") (sRet A) sNext) (sSeq (sIf (hfIs "rank") (sRet B) sNext) (sSeq (sIf hfMany (sRet (eCall g (aCons (eVar 0) aNil))) sNext) T)) [some (.im (manyD m ps)), x] = some (.rt z) := by
  refine (q_nx ((q_iff (q_eb (q_bin (q_bin q_v0 rfl ma_0) rfl (w9 m)))).trans rfl)).trans ?_
  refine (q_nx ((q_iff (q_eb (q_bin (q_bin q_v0 rfl ma_0) rfl (w10 m)))).trans rfl)).trans ?_
  exact q_rt ((q_ift (q_eb (q_bin (q_bin q_v0 rfl ma_0) rfl (v1 m)))).trans (q_ret (q_call (q_cons q_v0 q_nil) h)))
theorem rs_turn {t : PyData} {z w : Val} {x : Option Val} {A B C : Xp} {g : List Val → Option Val} {D T : Bk} (h : g [.im t] = some w) (h2 : g_bars_so [w] = some z) : sSeq (sIf (hfIs "at") (sRet A) sNext) (sSeq (sIf (hfIs "rank") (sRet B) sNext) (sSeq (sIf hfMany (sRet C) sNext) (sSeq (sIf (hfIs "then") D sNext) (sSeq (sIf (hfIs "turned") (sRet (eCall g_bars_so (aCons (eCall g (aCons (eBin gIx (eVar 0) (eC (.int 1))) aNil)) aNil))) sNext) T)))) [some (.im (turnD t)), x] = some (.rt z) := by
  refine (q_nx ((q_iff (q_eb (q_bin (q_bin q_v0 rfl tu_0) rfl w4))).trans rfl)).trans ?_
  refine (q_nx ((q_iff (q_eb (q_bin (q_bin q_v0 rfl tu_0) rfl w5))).trans rfl)).trans ?_
  refine (q_nx ((q_iff (q_eb (q_bin (q_bin q_v0 rfl tu_0) rfl v2))).trans rfl)).trans ?_
  refine (q_nx ((q_iff (q_eb (q_bin (q_bin q_v0 rfl tu_0) rfl w6))).trans rfl)).trans ?_
  exact q_rt ((q_ift (q_eb (q_bin (q_bin q_v0 rfl tu_0) rfl w7))).trans (q_ret (q_call (q_cons (q_call (q_cons (q_bin q_v0 rfl tu_1) q_nil) h) q_nil) h2)))
theorem rs0_at {p : Pl} : g_rule_so0 [.im (atD p)] = some (.im (rD [[p]])) := by
  show (m_rule_so0 [some (.im (atD p)), none]).bind retO = _
  rw [show m_rule_so0 [some (.im (atD p)), none] = _ from rs_at]
  rfl
theorem rs1_at {p : Pl} : g_rule_so1 [.im (atD p)] = some (.im (rD [[p]])) := by
  show (m_rule_so1 [some (.im (atD p)), none]).bind retO = _
  rw [show m_rule_so1 [some (.im (atD p)), none] = _ from rs_at]
  rfl
section
variable {k : Nat} {sp : Nd} {r : List Nd} (h : g_rank_rule [.im (rankD k sp)] = some (.im (rD r)))
include h
theorem rs0_rank : g_rule_so0 [.im (rankD k sp)] = some (.im (rD r)) := by
  show (m_rule_so0 [some (.im (rankD k sp)), none]).bind retO = _
  rw [show m_rule_so0 [some (.im (rankD k sp)), none] = _ from rs_rank h]
  rfl
theorem rs1_rank : g_rule_so1 [.im (rankD k sp)] = some (.im (rD r)) := by
  show (m_rule_so1 [some (.im (rankD k sp)), none]).bind retO = _
  rw [show m_rule_so1 [some (.im (rankD k sp)), none] = _ from rs_rank h]
  rfl
theorem rs2_rank : g_rule_so2 [.im (rankD k sp)] = some (.im (rD r)) := by
  show (m_rule_so2 [some (.im (rankD k sp)), none]).bind retO = _
  rw [show m_rule_so2 [some (.im (rankD k sp)), none] = _ from rs_rank h]
  rfl
theorem rs2_turn {q : List Nd} (hl : ∀ n ∈ r, n.length ≤ 30) (hb : barsT ltP r = some q) : g_rule_so2 [.im (turnD (rankD k sp))] = some (.im (rD q)) := by
  show (m_rule_so2 [some (.im (turnD (rankD k sp))), none]).bind retO = _
  rw [show m_rule_so2 [some (.im (turnD (rankD k sp))), none] = _ from rs_turn (rs1_rank h) (bars_so_eq hl hb)]
  rfl
end
/-- most of at, least of at -/
def atsT (m : Bool) (n : Nd) : Option (List Nd) := if m then grownT ltP n else eatenT ltP n
theorem ats_fold {m : Bool} {q : Pl} {l : List Pl} {r : List Nd} (h : atsT m (q :: l) = some r) : foldO (fun found a => ((fun p : Pl => some [[p]]) a).bind fun c => opT m found c) [[q]] l = some r := by
  cases m <;> exact h
theorem jr0_ats {m : Bool} {n : Nd} {r : List Nd} (h : atsT m n = some r) : g_joined_rules0 [.im (manyD m (n.map atD))] = some (.im (rD r)) := by
  cases n with
  | nil => cases m <;> cases h
  | cons q l =>
    show (m_joined_rules0 [some (.im (manyD m ((q :: l).map atD))), none, none, none]).bind retO = _
    rw [show m_joined_rules0 [some (.im (manyD m ((q :: l).map atD))), none, none, none] = _ from j_all (g := g_rule_so0) (f := atD) (h := fun p => some [[p]]) (m := m) q l [[q]] r ma_0 ma_1 (fun a _ c hc => by
      cases hc
      exact ⟨rl_at a, rs0_at⟩) rfl (ats_fold h)]
    rfl
theorem jr1_ats {m : Bool} {n : Nd} {r : List Nd} (h : atsT m n = some r) : g_joined_rules1 [.im (manyD m (n.map atD))] = some (.im (rD r)) := by
  cases n with
  | nil => cases m <;> cases h
  | cons q l =>
    show (m_joined_rules1 [some (.im (manyD m ((q :: l).map atD))), none, none, none]).bind retO = _
    rw [show m_joined_rules1 [some (.im (manyD m ((q :: l).map atD))), none, none, none] = _ from j_all (g := g_rule_so1) (f := atD) (h := fun p => some [[p]]) (m := m) q l [[q]] r ma_0 ma_1 (fun a _ c hc => by
      cases hc
      exact ⟨rl_at a, rs1_at⟩) rfl (ats_fold h)]
    rfl
theorem rs1_ats {m : Bool} {n : Nd} {r : List Nd} (h : atsT m n = some r) : g_rule_so1 [.im (manyD m (n.map atD))] = some (.im (rD r)) := by
  show (m_rule_so1 [some (.im (manyD m (n.map atD))), none]).bind retO = _
  rw [show m_rule_so1 [some (.im (manyD m (n.map atD))), none] = _ from rs_many (jr0_ats h)]
  rfl
theorem rs2_ats {m : Bool} {n : Nd} {r : List Nd} (h : atsT m n = some r) : g_rule_so2 [.im (manyD m (n.map atD))] = some (.im (rD r)) := by
  show (m_rule_so2 [some (.im (manyD m (n.map atD))), none]).bind retO = _
  rw [show m_rule_so2 [some (.im (manyD m (n.map atD))), none] = _ from rs_many (jr1_ats h)]
  rfl
theorem fold_ok {m : Bool} : ∀ (l : List Pl) (b r : List Nd), RlOk b → foldO (fun found p => opT m found [[p]]) b l = some r → RlOk r
  | [], b, r, hb, h => by
    cases h
    exact hb
  | p :: l, b, r, hb, h => by
    obtain ⟨c, h1, h2⟩ := bindS h
    exact fold_ok l c r (opT_ok h1) h2
theorem eaten_ok {n : Nd} {r : List Nd} (h : eatenT ltP n = some r) : RlOk r := by
  cases n with
  | nil => cases h
  | cons q l => exact fold_ok (m := false) l [[q]] r (rl_at q) h
theorem rs2_all {ns : List Nd} {r : List Nd} (h : allT ltP ns = some r) : g_rule_so2 [.im (manyD true (ns.map fun n => manyD false (n.map atD)))] = some (.im (rD r)) := by
  cases ns with
  | nil => cases h
  | cons q l =>
    obtain ⟨b, hb, h⟩ := bindS h
    have hj : g_joined_rules1 [.im (manyD true ((q :: l).map fun n => manyD false (n.map atD)))] = some (.im (rD r)) := by
      show (m_joined_rules1 [some (.im (manyD true ((q :: l).map fun n => manyD false (n.map atD)))), none, none, none]).bind retO = _
      rw [show m_joined_rules1 [some (.im (manyD true ((q :: l).map fun n => manyD false (n.map atD)))), none, none, none] = _ from j_all (g := g_rule_so1) (f := fun n : Nd => manyD false (n.map atD)) (h := eatenT ltP) (m := true) q l b r ma_0 ma_1 (fun a _ c hc => ⟨eaten_ok hc, rs1_ats (m := false) hc⟩) hb h]
      rfl
    show (m_rule_so2 [some (.im (manyD true ((q :: l).map fun n => manyD false (n.map atD)))), none]).bind retO = _
    rw [show m_rule_so2 [some (.im (manyD true ((q :: l).map fun n => manyD false (n.map atD)))), none] = _ from rs_many hj]
    rfl
/-! ### term_rule, terms_alike, check_again, grown, eaten -/
theorem term_rule_eq {k : Nat} {sp : Nd} {r : List Nd} (h : g_rank_rule [.im (rankD k sp)] = some (.im (rD r))) (hs : SpOk sp) (h1 : 1 ≤ k) (h2 : k ≤ sp.length) : g_term_rule [.im (rankD k sp)] = some (.im (rD r)) := by
  have e : m_term_rule [some (.im (rankD k sp))] = some (.rt (.im (rD r))) :=
    q_ret (q_call (q_cons (q_call (q_cons q_v0 q_nil) (need_term_eq (gd_rank hs h1 h2) (by omega) (by omega))) q_nil) (rs0_rank h))
  show (m_term_rule [some (.im (rankD k sp))]).bind retO = _
  rw [e]
  rfl
theorem terms_alike_eq {a b : PyData} {ha hb ca cb : Nat} {r : List Nd} (ga : Gd ha a ca) (gb : Gd hb b cb) (h1 : ha ≤ 6) (h2 : ca ≤ 20) (h3 : hb ≤ 6) (h4 : cb ≤ 20) (ra : g_rule_so2 [.im a] = some (.im (rD r))) (rb : g_rule_so2 [.im b] = some (.im (rD r))) : g_terms_alike [.im a, .im b] = some (.im (.bool true)) := by
  have e : m_terms_alike [some (.im a), some (.im b), none] = some (.rt (.im (.bool true))) := by
    refine (q_nx (q_drop (q_call (q_cons q_v0 q_nil) (need_term_eq ga h1 h2)))).trans ?_
    refine (q_nx (q_drop (q_call (q_cons q_v1 q_nil) (need_term_eq gb h3 h4)))).trans ?_
    refine (q_nx (q_asg (q_call (q_cons q_v0 q_nil) ra))).trans ?_
    refine q_ret ((q_bin (x := .im (rD r)) rfl (q_call (q_cons q_v1 q_nil) rb) (gEq_im (shaped_rD r) (shaped_rD r))).trans ?_)
    rw [eqv_rD]
    simp
  show (m_terms_alike [some (.im a), some (.im b), none]).bind retO = _
  rw [e]
  rfl
theorem check_again_eq {k : Nat} {sp : Nd} : g_check_again [.im (rankD k sp)] = some (.im .none) := by
  have e : m_check_again [some (.im (rankD k sp)), none] = some (.nx [some (.im (rankD k sp)), none]) := by
    refine (q_nx ((q_iff (q_andf (q_eb (q_bin (q_bin q_v0 rfl rk_0) rfl w8)))).trans rfl)).trans ?_
    refine (q_for (ds := []) ?_).trans rfl
    show srcT (eCall g_parts_of (aCons (eVar 0) aNil)) [some (.im (rankD k sp)), none] = _
    unfold srcT
    rw [show eCall g_parts_of (aCons (eVar 0) aNil) [some (.im (rankD k sp)), none] = some (.im (.tuple [])) from q_call (q_cons q_v0 q_nil) po_rank]
  show (m_check_again [some (.im (rankD k sp)), none]).bind retO = _
  rw [e]
  rfl
theorem q_tup {a : Tas} {ρ : En} {xs : List Val} {ds : List PyData} (h : a ρ = some xs) (h2 : imsOf xs = some ds) (h3 : ds.length ≤ 1000000) : eTup a ρ = some (.im (.tuple ds)) := by
  unfold eTup
  rw [h, Option.bind_some, h2, Option.bind_some, lenOk_le h3, if_pos rfl]
theorem ats_comp {n : Nd} (h : SpOk n) : eComp (srcT (eCall g_need_spread (aCons (eVar 0) aNil))) [1] (bName 1) tTrue (eTup (aCons (eC (.str "at")) (aCons (eVar 1) aNil))) [some (.im (nD n)), none] = some (.ls true (n.map atD)) := by
  have hl := h.hi
  rw [comp_eq (ds := n.map pD) (f := fun d => some (.tuple [.str "at", d])) ?_ (fun d hd => ?_) (by rw [List.length_map]; omega)]
  · congr 2
    rw [List.filterMap_map]
    clear h hl
    induction n with
    | nil => rfl
    | cons y n ih => rw [List.filterMap_cons_some (by rfl), List.map_cons, ih]; rfl
  · unfold srcT
    rw [show eCall g_need_spread (aCons (eVar 0) aNil) [some (.im (nD n)), none] = some (.im (nD n)) from q_call (q_cons q_v0 q_nil) (need_spread_eq h.lo h.hi h.ins h.asc)]
    rfl
  · rfl
theorem grown_eq {n : Nd} (h : SpOk n) : g_grown [.im (nD n)] = some (.im (manyD true (n.map atD))) := by
  have e : m_grown [some (.im (nD n)), none] = some (.rt (.im (manyD true (n.map atD)))) := by
    exact q_ret (q_tup (q_cons (f := eC (.str "most")) (x := .im (.str "most")) rfl (q_cons (x := .im (.tuple (n.map atD))) (q_call (g := gTuple) (q_cons (ats_comp h) q_nil) rfl) q_nil)) (by rfl) (by simp))
  show (m_grown [some (.im (nD n)), none]).bind retO = _
  rw [e]
  rfl
theorem eaten_eq {n : Nd} (h : SpOk n) : g_eaten [.im (nD n)] = some (.im (manyD false (n.map atD))) := by
  have e : m_eaten [some (.im (nD n)), none] = some (.rt (.im (manyD false (n.map atD)))) := by
    exact q_ret (q_tup (q_cons (f := eC (.str "least")) (x := .im (.str "least")) rfl (q_cons (x := .im (.tuple (n.map atD))) (q_call (g := gTuple) (q_cons (ats_comp h) q_nil) rfl) q_nil)) (by rfl) (by simp))
  show (m_eaten [some (.im (nD n)), none]).bind retO = _
  rw [e]
  rfl
end Al
set_option Elab.async false
set_option linter.all false
set_option maxRecDepth 100000
set_option maxHeartbeats 4000000
/-! Al, plain part K: law_subsets, law_sets, the counts of marks. -/
namespace Al
open PySem L2 Ai
/-! ### law_subsets, law_sets -/
def subBody : Bk := sAsg 1 (eBin gAdd (eVar 1) (eComp (srcL (eVar 1)) [3] (bName 3) tTrue (eBin gAdd (eVar 3) (eTup (aCons (eVar 2) aNil)))))
theorem sub_comp {a : Option Val} {f : List Nd} {t : Pl} {z : Option Val} (hl : f.length ≤ 1000) (hf : ∀ r ∈ f, r.length ≤ 100) : eComp (srcL (eVar 1)) [3] (bName 3) tTrue (eBin gAdd (eVar 3) (eTup (aCons (eVar 2) aNil))) [a, some (.ls true (f.map nD)), some (.im (pD t)), z] = some (.ls true ((f.map fun row => row ++ [t]).map nD)) := by
  rw [comp_eq (ds := f.map nD) (f := fun d => match dN d with | some r => some (nD (r ++ [t])) | none => none) rfl (fun d hd => ?_) (by rw [List.length_map]; omega)]
  · congr 2
    rw [List.filterMap_map, List.map_map]
    clear hl hf
    induction f with
    | nil => rfl
    | cons y f ih => rw [List.filterMap_cons_some (by simp only [Function.comp_def, dN_nD]; rfl), List.map_cons, ih]; rfl
  · obtain ⟨r, hr, rfl⟩ := List.mem_map.mp hd
    have := hf r hr
    show ((gAdd (.im (nD r)) (.im (nD [t]))).bind fun x => match x with | .im y => some (some y) | _ => none) = _
    rw [dN_nD, show gAdd (.im (nD r)) (.im (nD [t])) = some (.im (nD (r ++ [t]))) from by unfold nD; rw [gAdd_tup (by simp; omega), List.map_append]]
    rfl
theorem gAdd_ls {a b : List PyData} {x y : Bool} (h : a.length + b.length ≤ 1000000) : gAdd (.ls x a) (.ls y b) = some (.ls true (a ++ b)) := by
  simp [gAdd, gI, gCatT, gCatL, lenOk_le h]
theorem sub_loop {a : Option Val} : ∀ (l : Nd) (f : List Nd) (y z : Option Val), f.length * 2 ^ l.length ≤ 1000 → (∀ r ∈ f, r.length + l.length ≤ 100) →
    ∃ y' z', forL (bName 2) subBody (l.map pD) [a, some (.ls true (f.map nD)), y, z] = some (.nx [a, some (.ls true ((l.foldl (fun f t => f ++ f.map fun row => row ++ [t]) f).map nD)), y', z'])
  | [], f, y, z, _, _ => ⟨y, z, rfl⟩
  | t :: l, f, y, z, h1, h2 => by
    rw [List.length_cons, Nat.pow_succ] at h1
    have hp : 1 ≤ 2 ^ l.length := Nat.one_le_two_pow
    have h3 : f.length * 2 ^ l.length * 2 ≤ 1000 := by rw [Nat.mul_assoc]; exact h1
    have h4 : f.length * 1 ≤ f.length * 2 ^ l.length := Nat.mul_le_mul_left _ hp
    obtain ⟨y', z', e⟩ := sub_loop (a := a) l (f ++ f.map fun row => row ++ [t]) (some (.im (pD t))) z (by
      rw [List.length_append, List.length_map, Nat.add_mul]
      omega) (fun r hr => by
      rcases List.mem_append.mp hr with e | e
      · have := h2 r e
        rw [List.length_cons] at this
        omega
      · obtain ⟨q, hq, rfl⟩ := List.mem_map.mp e
        have := h2 q hq
        rw [List.length_cons] at this
        rw [List.length_append, List.length_singleton]
        omega)
    refine ⟨y', z', ?_⟩
    rw [List.map_cons]
    refine (forL_cons (ρ1 := [a, some (.ls true (f.map nD)), some (.im (pD t)), z]) rfl ?_).trans e
    refine q_asgl (q_bin (x := .ls false (f.map nD)) rfl (sub_comp (by omega) fun r hr => by have := h2 r hr; omega) ?_)
    rw [gAdd_ls (by simp only [List.length_map]; omega), List.map_append]
theorem law_subsets_eq {sp : Nd} (h : sp.length ≤ 6) : g_law_subsets [.im (nD sp)] = some (.ls false ((subsT sp).map nD)) := by
  have hp : 2 ^ sp.length ≤ 2 ^ 6 := Nat.pow_le_pow_right (by omega) h
  obtain ⟨y, z, e⟩ := sub_loop (a := some (.im (nD sp))) sp [[]] none none (by simp; omega) (fun r hr => by rw [List.mem_singleton.mp hr]; simp; omega)
  have e1 : m_law_subsets [some (.im (nD sp)), none, none, none] = some (.rt (.ls false ((subsT sp).map nD))) :=
    (q_nx (q_asgl (ds := [nD []]) rfl)).trans ((q_nx ((q_for (ds := sp.map pD) rfl).trans e)).trans (q_ret rfl))
  show (m_law_subsets [some (.im (nD sp)), none, none, none]).bind retO = _
  rw [e1]
  rfl
theorem gEq_int {a b : Nat} : gEq (.im (.int a)) (.im (.int b)) = some (.im (.bool (decide (a = b)))) := by
  have h1 : ∀ i : Int, SeqAt.shaped (.int i) = true := fun i => rfl
  rw [gEq_im (h1 _) (h1 _)]
  congr 3
  show ((a : Int) == (b : Int)) = _
  rw [Bool.eq_iff_iff]
  simp
  omega
theorem subs_len {sp : Nd} : (subsT sp).length = 2 ^ sp.length ∧ ∀ r ∈ subsT sp, r.length ≤ sp.length := by
  have key : ∀ (l : Nd) (f : List Nd) (k : Nat), (∀ r ∈ f, r.length ≤ k) → (l.foldl (fun f t => f ++ f.map fun row => row ++ [t]) f).length = f.length * 2 ^ l.length ∧ ∀ r ∈ l.foldl (fun f t => f ++ f.map fun row => row ++ [t]) f, r.length ≤ k + l.length := by
    intro l
    induction l with
    | nil => intro f k h; exact ⟨by simp, by simpa using h⟩
    | cons t l ih =>
      intro f k h
      obtain ⟨h1, h2⟩ := ih (f ++ f.map fun row => row ++ [t]) (k + 1) (fun r hr => by
        rcases List.mem_append.mp hr with e | e
        · have := h r e
          omega
        · obtain ⟨q, hq, rfl⟩ := List.mem_map.mp e
          have := h q hq
          rw [List.length_append, List.length_singleton]
          omega)
      refine ⟨?_, fun r hr => ?_⟩
      · rw [List.foldl_cons, h1, List.length_append, List.length_map, List.length_cons, Nat.pow_succ, Nat.add_mul, Nat.mul_comm (2 ^ l.length) 2, ← Nat.mul_assoc, Nat.mul_comm f.length 2, Nat.mul_assoc, Nat.two_mul]
      · have := h2 r hr
        rw [List.length_cons]
        omega
  have := key sp [[]] 0 (fun r hr => by rw [List.mem_singleton.mp hr]; simp)
  refine ⟨by rw [subsT, this.1]; simp, fun r hr => by have := this.2 r hr; omega⟩
theorem law_sets_eq {sp : Nd} {k : Nat} (h : sp.length ≤ 6) (hk : 1 ≤ k) : g_law_sets [.im (nD sp), .im (.int k)] = some (.im (rD (setsT ltP sp k))) := by
  have hp : 2 ^ sp.length ≤ 2 ^ 6 := Nat.pow_le_pow_right (by omega) h
  obtain ⟨hl, hr⟩ := subs_len (sp := sp)
  have hc : eComp (srcL (eCall g_law_subsets (aCons (eVar 0) aNil))) [2] (bName 2) (eB (eBin gEq (eCall gLen (aCons (eVar 2) aNil)) (eVar 1))) (eVar 2) [some (.im (nD sp)), some (.im (.int k)), none] = some (.ls true (((subsT sp).filter fun r => decide (r.length = k)).map nD)) := by
    rw [comp_eq (ds := (subsT sp).map nD) (f := fun d => match dN d with | some r => if r.length = k then some (nD r) else none | none => none) ?_ (fun d hd => ?_) (by rw [List.length_map]; omega)]
    · congr 2
      rw [List.filterMap_map]
      generalize subsT sp = f
      induction f with
      | nil => rfl
      | cons y f ih =>
        by_cases hy : y.length = k
        · rw [List.filterMap_cons_some (by simp only [Function.comp_def, dN_nD, if_pos hy]; rfl), List.filter_cons_of_pos (p := fun r : Nd => decide (r.length = k)) (decide_eq_true hy), List.map_cons, ih]
        · rw [List.filterMap_cons_none (by simp only [Function.comp_def, dN_nD, if_neg hy]), List.filter_cons_of_neg (p := fun r : Nd => decide (r.length = k)) (by rw [decide_eq_false hy]; exact Bool.false_ne_true), ih]
    · unfold srcL
      rw [show eCall g_law_subsets (aCons (eVar 0) aNil) [some (.im (nD sp)), some (.im (.int k)), none] = some (.ls false ((subsT sp).map nD)) from q_call (q_cons q_v0 q_nil) (law_subsets_eq h)]
    · obtain ⟨r, hr', rfl⟩ := List.mem_map.mp hd
      unfold turnC
      rw [show (bName 2 (wipeE [some (.im (nD sp)), some (.im (.int k)), none] [2]) (nD r)) = some [some (.im (nD sp)), some (.im (.int k)), some (.im (nD r))] from rfl, Option.bind_some, show eB (eBin gEq (eCall gLen (aCons (eVar 2) aNil)) (eVar 1)) [some (.im (nD sp)), some (.im (.int k)), some (.im (nD r))] = some (decide (r.length = k)) from q_eb (q_bin (q_call (q_cons (x := .im (nD r)) rfl q_nil) (len_nD r)) q_v1 gEq_int), Option.bind_some, dN_nD]
      dsimp only
      by_cases hy : r.length = k
      · rw [decide_eq_true hy, if_pos hy]
        rfl
      · rw [decide_eq_false hy, if_neg hy]
  have hne : ∀ n ∈ (subsT sp).filter (fun r => decide (r.length = k)), 0 < n.length := fun n hn => by
    have := (List.mem_filter.mp hn).2
    rw [decide_eq_true_eq] at this
    omega
  have hll : ((subsT sp).filter fun r => decide (r.length = k)).length ≤ 1000000 := Nat.le_trans (List.length_filter_le _ _) (by omega)
  have hs : gSorted [.ls true (((subsT sp).filter fun r => decide (r.length = k)).map nD)] = some (.ls true ((setsT ltP sp k).map nD)) := by
    show (gSort (((subsT sp).filter fun r => decide (r.length = k)).map nD)).map (Val.ls true) = _
    rw [gSort_nD hne hll]
    rfl
  have e1 : m_law_sets [some (.im (nD sp)), some (.im (.int k)), none] = some (.rt (.im (rD (setsT ltP sp k)))) :=
    q_ret (q_call (q_cons (q_call (q_cons hc q_nil) hs) q_nil) rfl)
  show (m_law_sets [some (.im (nD sp)), some (.im (.int k)), none]).bind retO = _
  rw [e1]
  rfl
end Al
set_option Elab.async false
set_option linter.all false
set_option maxRecDepth 100000
set_option maxHeartbeats 4000000
/-! Al, plain part L: term_stepped and law_counted_marks count alike. -/
namespace Al
open PySem L2 Ai
/-! ### counts -/
def getN (kv : KV) (p : Pl) : Int := match getP kv p with
  | some (.int n) => n
  | _ => 0
def IntKv (kv : KV) : Prop := (∀ q ∈ kv, ∃ n : Int, q.2 = .int n) ∧ (kv.map (·.1)).Nodup
def bump (kv : KV) (p : Pl) : KV := putP kv p (.int (getN kv p + 1))
theorem getP_int {kv : KV} {p : Pl} {d : PyData} (h : IntKv kv) (e : getP kv p = some d) : ∃ n : Int, d = .int n := by
  unfold getP at e
  obtain ⟨q, hq, rfl⟩ := mapS e
  exact h.1 q (List.mem_of_find?_eq_some hq)
theorem cntN_eq {kv : KV} (h : IntKv kv) (p : Pl) : cntN kv p = some (getN kv p) := by
  unfold cntN getN
  cases e : getP kv p with
  | none => rfl
  | some d =>
    obtain ⟨n, rfl⟩ := getP_int h e
    rfl
theorem any_key (kv : KV) (p : Pl) : (kv.any fun q => decide (q.1 = p)) = true ↔ p ∈ kv.map (·.1) := by
  simp only [List.any_eq_true, decide_eq_true_eq, List.mem_map]
theorem put_keys (kv : KV) (p : Pl) (d : PyData) : (putP kv p d).map (·.1) = if p ∈ kv.map (·.1) then kv.map (·.1) else kv.map (·.1) ++ [p] := by
  unfold putP
  by_cases h : p ∈ kv.map (·.1)
  · rw [if_pos ((any_key kv p).mpr h), if_pos h, List.map_map]
    refine List.map_congr_left fun q _ => ?_
    simp only [Function.comp_def]
    split <;> rfl
  · rw [if_neg (fun z => h ((any_key kv p).mp z)), if_neg h, List.map_append]
    rfl
theorem bump_ok {kv : KV} (h : IntKv kv) (p : Pl) : IntKv (bump kv p) ∧ (bump kv p).length ≤ kv.length + 1 := by
  refine ⟨⟨fun q hq => ?_, ?_⟩, ?_⟩
  · unfold bump putP at hq
    split at hq
    · obtain ⟨q', hq', rfl⟩ := List.mem_map.mp hq
      split
      · exact ⟨_, rfl⟩
      · exact h.1 q' hq'
    · rcases List.mem_append.mp hq with e | e
      · exact h.1 q e
      · rw [List.mem_singleton.mp e]
        exact ⟨_, rfl⟩
  · unfold bump
    rw [put_keys]
    split
    · exact h.2
    · rename_i hn
      rw [List.nodup_append]
      refine ⟨h.2, by simp, fun a ha b hb => ?_⟩
      rw [List.mem_singleton.mp hb]
      exact fun z => hn (z ▸ ha)
  · unfold bump putP
    split
    · rw [List.length_map]
      omega
    · rw [List.length_append, List.length_singleton]
      exact Nat.le_refl _
def sb (m p : Pl) : Pl := (m.1 - p.1, m.2 - p.2)
def bump1 (sp : Nd) (kv : KV) (m : Pl) : KV := sp.foldl (fun kv p => bump kv (sb m p)) kv
def bumpAll (marks sp : Nd) : KV := marks.foldl (bump1 sp) []
theorem bump1_ok {m : Pl} : ∀ {sp : Nd} {kv : KV}, IntKv kv → IntKv (bump1 sp kv m) ∧ (bump1 sp kv m).length ≤ kv.length + sp.length
  | [], kv, h => ⟨h, Nat.le_refl _⟩
  | p :: sp, kv, h => by
    obtain ⟨h1, h2⟩ := bump_ok h (sb m p)
    obtain ⟨h3, h4⟩ := bump1_ok (m := m) (sp := sp) h1
    refine ⟨h3, ?_⟩
    rw [List.length_cons]
    have h4' : (bump1 (p :: sp) kv m).length ≤ (bump kv (sb m p)).length + sp.length := h4
    omega
theorem bumps_ok {sp : Nd} : ∀ {ms : Nd} {kv : KV}, IntKv kv → IntKv (ms.foldl (bump1 sp) kv) ∧ (ms.foldl (bump1 sp) kv).length ≤ kv.length + ms.length * sp.length
  | [], kv, h => ⟨h, by simp⟩
  | m :: ms, kv, h => by
    obtain ⟨h1, h2⟩ := bump1_ok (m := m) (sp := sp) h
    obtain ⟨h3, h4⟩ := bumps_ok (sp := sp) (ms := ms) h1
    refine ⟨h3, ?_⟩
    rw [List.length_cons, Nat.add_mul, Nat.one_mul]
    have h4' : ((m :: ms).foldl (bump1 sp) kv).length ≤ (bump1 sp kv m).length + ms.length * sp.length := h4
    omega
theorem int_nil : IntKv [] := ⟨fun q hq => (by cases hq), by simp⟩
theorem all_ok (marks sp : Nd) : IntKv (bumpAll marks sp) ∧ (bumpAll marks sp).length ≤ marks.length * sp.length := by
  obtain ⟨h1, h2⟩ := bumps_ok (sp := sp) (ms := marks) int_nil
  rw [List.length_nil, Nat.zero_add] at h2
  exact ⟨h1, h2⟩
def heldBy (kv : KV) (k : Nat) : List Pl := (kv.map (·.1)).filter fun p => decide ((k : Int) ≤ getN kv p)
theorem taken_off_eq {m p : Pl} : g_taken_off [.im (pD m), .im (pD p)] = some (.im (pD (sb m p))) := rfl
theorem forD_cons {b : En → PyData → Option En} {s : Bd} {d : PyData} {ds : List PyData} {ρ ρ1 ρ2 : En} {kv kv2 : KV} (h1 : b ρ d = some ρ1) (h2 : s ρ1 kv = some (ρ2, kv2)) : forD b s (d :: ds) ρ kv = forD b s ds ρ2 kv2 := by
  simp [forD, h1, h2]
/-! ### in term_stepped -/
def rpIn : Bd := bSeq (bAsg 5 (eCall g_taken_off (aCons (eVar 3) (aCons (eVar 4) aNil)))) (bCnt (eVar 5) (eVar 5))
def rpOut : Bd := bFor (srcT (eBin gIx (eVar 0) (eC (.int 2)))) (bName 4) rpIn
theorem cnt_eq {fk : Xp} {ρ : En} {p : Pl} {kv : KV} (h : fk ρ = some (.im (pD p))) (hk : IntKv kv) (hl : kv.length ≤ 1000000) : bCnt fk fk ρ kv = some (ρ, bump kv p) := by
  unfold bCnt
  rw [h]
  simp only [Option.bind_some, dP_pD, cntN_eq hk, lenOk_le hl, if_true]
  rfl
theorem rp_in {a b : Option Val} {m : Pl} {w : Option Val} : ∀ (l : Nd) (kv : KV) (x y : Option Val), IntKv kv → kv.length + l.length ≤ 1000000 →
    ∃ x' y', forD (bName 4) rpIn (l.map pD) [a, b, none, some (.im (pD m)), x, y, w] kv = some ([a, b, none, some (.im (pD m)), x', y', w], bump1 l kv m)
  | [], kv, x, y, _, _ => ⟨x, y, rfl⟩
  | p :: l, kv, x, y, h1, h2 => by
    rw [List.length_cons] at h2
    obtain ⟨k1, k2⟩ := bump_ok h1 (sb m p)
    obtain ⟨x', y', e⟩ := rp_in (a := a) (b := b) (m := m) (w := w) l (bump kv (sb m p)) (some (.im (pD p))) (some (.im (pD (sb m p)))) k1 (by omega)
    refine ⟨x', y', ?_⟩
    rw [List.map_cons]
    refine (forD_cons (ρ1 := [a, b, none, some (.im (pD m)), some (.im (pD p)), y, w]) (ρ2 := [a, b, none, some (.im (pD m)), some (.im (pD p)), some (.im (pD (sb m p))), w]) (kv2 := bump kv (sb m p)) rfl ?_).trans e
    have e1 : rpIn [a, b, none, some (.im (pD m)), some (.im (pD p)), y, w] kv = bCnt (eVar 5) (eVar 5) [a, b, none, some (.im (pD m)), some (.im (pD p)), some (.im (pD (sb m p))), w] kv := rfl
    rw [e1]
    exact cnt_eq rfl h1 (by omega)
theorem rp_out {k : Nat} {sp : Nd} {b : Option Val} {w : Option Val} : ∀ (l : Nd) (kv : KV) (x y z : Option Val), IntKv kv → kv.length + l.length * sp.length ≤ 1000000 →
    ∃ x' y' z', forD (bName 3) rpOut (l.map pD) [some (.im (rankD k sp)), b, none, x, y, z, w] kv = some ([some (.im (rankD k sp)), b, none, x', y', z', w], l.foldl (bump1 sp) kv)
  | [], kv, x, y, z, _, _ => ⟨x, y, z, rfl⟩
  | m :: l, kv, x, y, z, h1, h2 => by
    rw [List.length_cons, Nat.add_mul, Nat.one_mul] at h2
    obtain ⟨k1, k2⟩ := bump1_ok (m := m) (sp := sp) h1
    obtain ⟨y1, z1, e1⟩ := rp_in (a := some (.im (rankD k sp))) (b := b) (m := m) (w := w) sp kv y z h1 (by omega)
    obtain ⟨x', y', z', e⟩   := rp_out (k := k) (sp := sp) (b := b) (w := w) l (bump1 sp kv m) (some (.im (pD m))) y1 z1 k1 (by omega)
    refine ⟨x', y', z', ?_⟩
    rw [List.map_cons]
    refine (forD_cons (ρ1 := [some (.im (rankD k sp)), b, none, some (.im (pD m)), y, z, w]) (ρ2 := [some (.im (rankD k sp)), b, none, some (.im (pD m)), y1, z1, w]) (kv2 := bump1 sp kv m) rfl ?_).trans e
    unfold rpOut bFor srcT
    rw [show eBin gIx (eVar 0) (eC (.int 2)) [some (.im (rankD k sp)), b, none, some (.im (pD m)), y, z, w] = some (.im (nD sp)) from q_bin q_v0 rfl rk_2]
    exact e1
theorem q_build {c : Nat} {s : Bd} {t : Bk} {ρ : En} {r : En × KV} (h : c < ρ.length) (h2 : s (ρ.set c none) [] = some r) : sBuild c s t ρ = t (r.1.set c (some (.dc r.2))) := by simp [sBuild, h, h2]
/-! ### table_of -/
def trues (l : List Pl) : KV := l.map fun p => (p, .bool true)
theorem trues_keys (l : List Pl) : (trues l).map (·.1) = l := by
  unfold trues
  rw [List.map_map]
  exact List.map_id l
theorem tab_loop {a : Option Val} : ∀ (l : List Pl) (kv : KV) (x : Option Val), (kv.map (·.1) ++ l).Nodup → kv.length + l.length ≤ 1000000 →
    ∃ x', forD (bName 2) (bPut (eVar 2) (eC (.bool true))) (l.map pD) [a, none, x] kv = some ([a, none, x'], kv ++ trues l)
  | [], kv, x, _, _ => ⟨x, by rw [show trues [] = [] from rfl, List.append_nil]; rfl⟩
  | p :: l, kv, x, h1, h2 => by
    rw [List.length_cons] at h2
    have hp : p ∉ kv.map (·.1) := fun z => by
      rw [List.nodup_append] at h1
      exact h1.2.2 p z p (List.mem_cons_self ..) rfl
    have hput : putP kv p (.bool true) = kv ++ [(p, .bool true)] := by
      unfold putP
      rw [if_neg (fun z => hp ((any_key kv p).mp z))]
    obtain ⟨x', e⟩ := tab_loop (a := a) l (kv ++ [(p, .bool true)]) (some (.im (pD p))) (by rw [List.map_append, List.append_assoc]; exact h1) (by rw [List.length_append, List.length_singleton]; omega)
    refine ⟨x', ?_⟩
    have et : trues (p :: l) = [(p, .bool true)] ++ trues l := rfl
    rw [List.map_cons, et, ← List.append_assoc]
    refine (forD_cons (ρ1 := [a, none, some (.im (pD p))]) (ρ2 := [a, none, some (.im (pD p))]) (kv2 := kv ++ [(p, .bool true)]) rfl ?_).trans e
    unfold bPut
    show ((dP (pD p)).bind fun q => if lenOk kv.length then some ([a, none, some (.im (pD p))], putP kv q (.bool true)) else none) = _
    rw [dP_pD, Option.bind_some, lenOk_le (by omega), if_pos rfl, hput]
theorem table_of_eq {v : Val} {l : List Pl} (hv : srcVT 0 [some v.ro, none, none] = some (l.map pD)) (h : l.Nodup) (hl : l.length ≤ 1000000) : g_table_of [v] = some (.dc (trues l)) := by
  obtain ⟨x, e⟩ := tab_loop (a := some v.ro) l [] none (by simpa using h) (by simpa using hl)
  have e1 : m_table_of [some v.ro, none, none] = some (.rt (.dc (trues l))) := by
    refine (q_build (c := 1) (s := bFor (srcVT 0) (bName 2) (bPut (eVar 2) (eC (.bool true)))) (r := ([some v.ro, none, x], [] ++ trues l)) (by simp) ?_).trans rfl
    show (srcVT 0 [some v.ro, none, none]).bind _ = _
    rw [hv]
    exact e
  show (m_table_of [some v.ro, none, none]).bind retO = _
  rw [e1]
  rfl
/-! ### what both tell -/
theorem get_key {kv : KV} (h : IntKv kv) {p : Pl} (hp : p ∈ kv.map (·.1)) : getP kv p = some (.int (getN kv p)) := by
  have hs : ∃ d, getP kv p = some d := by
    unfold getP
    cases e : kv.find? fun q => decide (q.1 = p) with
    | none =>
      rw [List.find?_eq_none] at e
      obtain ⟨q, hq, hqp⟩ := List.mem_map.mp hp
      exact absurd (decide_eq_true hqp) (e q hq)
    | some q => exact ⟨_, rfl⟩
  obtain ⟨d, e⟩ := hs
  obtain ⟨n, rfl⟩ := getP_int h e
  unfold getN
  rw [e]
theorem held_fm {kv : KV} {k : Nat} (l : List Pl) : (l.map pD).filterMap (fun d => match dP d with | some p => if (k : Int) ≤ getN kv p then some (pD p) else none | none => none) = (l.filter fun p => decide ((k : Int) ≤ getN kv p)).map pD := by
  rw [List.filterMap_map]
  induction l with
  | nil => rfl
  | cons y l ih =>
    by_cases hy : (k : Int) ≤ getN kv y
    · rw [List.filterMap_cons_some (by simp only [Function.comp_def, dP_pD, if_pos hy]; rfl), List.filter_cons_of_pos (p := fun p : Pl => decide ((k : Int) ≤ getN kv p)) (decide_eq_true hy), List.map_cons, ih]
    · rw [List.filterMap_cons_none (by simp only [Function.comp_def, dP_pD, if_neg hy]), List.filter_cons_of_neg (p := fun p : Pl => decide ((k : Int) ≤ getN kv p)) (by rw [decide_eq_false hy]; exact Bool.false_ne_true), ih]
theorem held_comp {src : Src} {i c : Nat} {w : Nat} {ρ : En} {kv : KV} {k : Nat} (hk : IntKv kv) (hl : kv.length ≤ 1000000) (hs : src ρ = some ((kv.map (·.1)).map pD)) (h : ∀ p : Pl, ∃ ρ', bName i (wipeE ρ [i]) (pD p) = some ρ' ∧ eVar c ρ' = some (.dc kv) ∧ eVar i ρ' = some (.im (pD p)) ∧ eVar w ρ' = some (.im (.int k))) :
    eComp src [i] (bName i) (eB (eBin (gRel fGe) (eDix (eVar c) (eVar i)) (eVar w))) (eVar i) ρ = some (.ls true ((heldBy kv k).map pD)) := by
  rw [comp_eq (f := fun d => match dP d with | some p => if (k : Int) ≤ getN kv p then some (pD p) else none | none => none) hs (fun d hd => ?_) (by rw [List.length_map, List.length_map]; exact hl), held_fm]
  · rfl
  · obtain ⟨p, hp, rfl⟩ := List.mem_map.mp hd
    obtain ⟨ρ', e1, e2, e3, e4⟩ := h p
    have e5 : eDix (eVar c) (eVar i) ρ' = some (.im (.int (getN kv p))) := by
      unfold eDix
      rw [e2, e3]
      simp only [Option.bind_some, dP_pD, get_key hk hp]
      rfl
    unfold turnC
    rw [e1, Option.bind_some, show eB (eBin (gRel fGe) (eDix (eVar c) (eVar i)) (eVar w)) ρ' = some (decide ((k : Int) ≤ getN kv p)) from q_eb (q_bin e5 e4 (gRel_int.trans rfl)), Option.bind_some, dP_pD]
    dsimp only
    by_cases hy : (k : Int) ≤ getN kv p
    · rw [decide_eq_true hy, if_pos hy]
      dsimp only
      rw [e3]
      rfl
    · rw [decide_eq_false hy, if_neg hy]
theorem held_ok {kv : KV} (h : IntKv kv) (k : Nat) : (heldBy kv k).Nodup ∧ (heldBy kv k).length ≤ kv.length := by
  refine ⟨h.2.filter _, ?_⟩
  have := List.length_filter_le (fun p => decide ((k : Int) ≤ getN kv p)) (kv.map (·.1))
  rw [List.length_map] at this
  exact this
theorem ranked_eq {k : Nat} {sp marks : Nd} (hl : marks.length * sp.length ≤ 400) : g_ranked_picture [.im (rankD k sp), .pc false (trues marks)] = some (.pc false (trues (heldBy (bumpAll marks sp) k))) := by
  obtain ⟨x, y, z, e⟩ := rp_out (k := k) (sp := sp) (b := some (.pc false (trues marks))) (w := none) marks [] none none none int_nil (by simp; omega)
  obtain ⟨hk, hkl⟩ := all_ok marks sp
  obtain ⟨hn, hnl⟩ := held_ok hk k
  have hkl' : (bumpAll marks sp).length ≤ 400 := Nat.le_trans hkl hl
  have e1 : m_ranked_picture [some (.im (rankD k sp)), some (.pc false (trues marks)), none, none, none, none, none] = some (.rt (.pc false (trues (heldBy (bumpAll marks sp) k)))) := by
    refine (q_build (c := 2) (s := bFor (srcK (eBin gPx (eVar 1) (eC (.int 1)))) (bName 3) rpOut) (r := ([some (.im (rankD k sp)), some (.pc false (trues marks)), none, x, y, z, none], bumpAll marks sp)) (by simp) ?_).trans ?_
    · have hs : srcK (eBin gPx (eVar 1) (eC (.int 1))) [some (.im (rankD k sp)), some (.pc false (trues marks)), none, none, none, none, none] = some (marks.map pD) := by
        show some ((trues marks).map fun q => pD q.1) = _
        conv => rhs; rw [← trues_keys marks, List.map_map]
        rfl
      show (srcK (eBin gPx (eVar 1) (eC (.int 1))) [some (.im (rankD k sp)), some (.pc false (trues marks)), none, none, none, none, none]).bind _ = _
      rw [hs]
      exact e
    · refine (q_nx (q_asg (d := .int k) (q_eiff rfl (q_bin rfl rfl rk_1)))).trans ?_
      have hc := held_comp (src := srcK (eVar 2)) (i := 5) (c := 2) (w := 6) (ρ := [some (.im (rankD k sp)), some (.pc false (trues marks)), some (.dc (bumpAll marks sp)), x, y, z, some (.im (.int k))]) (kv := bumpAll marks sp) (k := k) hk (by omega) (by
        show some ((bumpAll marks sp).map fun q => pD q.1) = _
        rw [List.map_map]
        rfl) (fun p => ⟨_, rfl, rfl, rfl, rfl⟩)
      have ht := table_of_eq (v := .ls true ((heldBy (bumpAll marks sp) k).map pD)) (l := heldBy (bumpAll marks sp) k) rfl hn (by omega)
      refine q_ret ?_
      have ha : aCons (eBin gPx (eVar 1) (eC (.int 0))) (aCons (eCall g_table_of (aCons (eComp (srcK (eVar 2)) [5] (bName 5) (eB (eBin (gRel fGe) (eDix (eVar 2) (eVar 5)) (eVar 6))) (eVar 5)) aNil)) aNil) [some (.im (rankD k sp)), some (.pc false (trues marks)), some (.dc (bumpAll marks sp)), x, y, z, some (.im (.int k))] = some [.im (.bool false), .dc (trues (heldBy (bumpAll marks sp) k))] :=
        q_cons rfl (q_cons (q_call (q_cons hc q_nil) ht) q_nil)
      show ePic _ [some (.im (rankD k sp)), some (.pc false (trues marks)), some (.dc (bumpAll marks sp)), x, y, z, some (.im (.int k))] = _
      unfold ePic
      rw [ha]
  show (m_ranked_picture [some (.im (rankD k sp)), some (.pc false (trues marks)), none, none, none, none, none]).bind retO = _
  rw [e1]
  rfl
theorem check_odd_eq {kv : KV} (h : kv.length ≤ 400) : g_check_odd [.pc false kv] = some (.pc false kv) := by
  have hgt : gRel fGt (.im (.int kv.length)) (.im (.int 400)) = some (.im (.bool false)) := by
    rw [gRel_int, show fGt (kv.length : Int) 400 = decide ((400 : Int) < kv.length) from rfl, decide_eq_false (by omega)]
  have e1 : m_check_odd [some (.pc false kv)] = some (.rt (.pc false kv)) :=
    (q_nx ((q_iff (q_eb (q_bin (x := .im (.int kv.length)) rfl rfl hgt))).trans rfl)).trans rfl
  show (m_check_odd [some (.pc false kv)]).bind retO = _
  rw [e1]
  rfl
/-- what both tell -/
def toldMarks (marks sp : Nd) (k : Nat) : Nd := isort ltP (heldBy (bumpAll marks sp) k)
theorem term_stepped_eq {k : Nat} {sp marks : Nd} (hs : SpOk sp) (h1 : 1 ≤ k) (h2 : k ≤ sp.length) (hl : marks.length * sp.length ≤ 400) (hm : marks.length ≤ 400) (hi : ∀ p ∈ marks, InD 1000000000 p) (ha : AscP marks) (hn : marks.Nodup) : g_term_stepped [.im (rankD k sp), .im (nD marks)] = some (.im (nD (toldMarks marks sp k))) := by
  obtain ⟨hk, hkl⟩ := all_ok marks sp
  obtain ⟨hhn, hnl⟩ := held_ok hk k
  have hkl' : (bumpAll marks sp).length ≤ 400 := Nat.le_trans hkl hl
  have hp : g_picture_behind [.im (rankD k sp), .pc false (trues marks)] = some (.pc false (trues (heldBy (bumpAll marks sp) k))) := by
    have hlt : (trues (heldBy (bumpAll marks sp) k)).length ≤ 400 := by
      unfold trues
      rw [List.length_map]
      exact Nat.le_trans hnl hkl'
    have e1 : m_picture_behind [some (.im (rankD k sp)), some (.pc false (trues marks)), none, none, none] = some (.rt (.pc false (trues (heldBy (bumpAll marks sp) k)))) := by
      refine (q_nx ((q_iff (q_eb (q_bin (q_bin q_v0 rfl rk_0) rfl w2))).trans rfl)).trans ?_
      exact q_rt ((q_ift (q_eb (q_bin (q_bin q_v0 rfl rk_0) rfl w3))).trans (q_ret (q_call (q_cons (q_call (q_cons q_v0 (q_cons (x := .pc false (trues marks)) rfl q_nil)) (ranked_eq hl)) q_nil) (check_odd_eq hlt))))
    show (m_picture_behind [some (.im (rankD k sp)), some (.pc false (trues marks)), none, none, none]).bind retO = _
    rw [e1]
    rfl
  have ht := table_of_eq (v := .im (nD marks)) (l := marks) rfl hn (by omega)
  have hpic : ePic (aCons (eC (.bool false)) (aCons (eCall g_table_of (aCons (eVar 1) aNil)) aNil)) [some (.im (rankD k sp)), some (.im (nD marks))] = some (.pc false (trues marks)) := by
    unfold ePic
    rw [q_cons (x := .im (.bool false)) rfl (q_cons (q_call (q_cons q_v1 q_nil) ht) q_nil)]
  have hsd : gSortD [.dc (trues (heldBy (bumpAll marks sp) k))] = some (.ls true ((toldMarks marks sp k).map pD)) := by
    show some (Val.ls true ((isort ltP ((trues (heldBy (bumpAll marks sp) k)).map (·.1))).map pD)) = _
    rw [trues_keys]
    rfl
  have e1 : m_term_stepped [some (.im (rankD k sp)), some (.im (nD marks))] = some (.rt (.im (nD (toldMarks marks sp k)))) := by
    refine (q_nx (q_drop (q_call (q_cons q_v0 q_nil) (need_term_eq (gd_rank hs h1 h2) (by omega) (by omega))))).trans ?_
    refine (q_nx (q_drop (q_call (q_cons q_v1 q_nil) (need_island_eq hm hi (asc_of ha))))).trans ?_
    refine (q_nx (q_drop (q_call (q_cons q_v0 q_nil) check_again_eq))).trans ?_
    exact q_ret (q_call (q_cons (q_call (q_cons (q_bin (q_call (q_cons q_v0 (q_cons hpic q_nil)) hp) rfl rfl) q_nil) hsd) q_nil) rfl)
  show (m_term_stepped [some (.im (rankD k sp)), some (.im (nD marks))]).bind retO = _
  rw [e1]
  rfl
/-! ### law_counted_marks -/
def cmIn : Bd := bCnt (eTup (aCons (eBin gSub (eVar 4) (eVar 6)) (aCons (eBin gSub (eVar 5) (eVar 7)) aNil))) (eTup (aCons (eBin gSub (eVar 4) (eVar 6)) (aCons (eBin gSub (eVar 5) (eVar 7)) aNil)))
def cmOut : Bd := bFor (srcT (eVar 0)) (bPair 6 7) cmIn
theorem cm_in {a b c : Option Val} {m : Pl} {w : Option Val} : ∀ (l : Nd) (kv : KV) (x y : Option Val), IntKv kv → kv.length + l.length ≤ 1000000 →
    ∃ x' y', forD (bPair 6 7) cmIn (l.map pD) [a, b, c, none, some (.im (.int m.1)), some (.im (.int m.2)), x, y, w] kv = some ([a, b, c, none, some (.im (.int m.1)), some (.im (.int m.2)), x', y', w], bump1 l kv m)
  | [], kv, x, y, _, _ => ⟨x, y, rfl⟩
  | p :: l, kv, x, y, h1, h2 => by
    rw [List.length_cons] at h2
    obtain ⟨k1, k2⟩ := bump_ok h1 (sb m p)
    obtain ⟨x', y', e⟩ := cm_in (a := a) (b := b) (c := c) (m := m) (w := w) l (bump kv (sb m p)) (some (.im (.int p.1))) (some (.im (.int p.2))) k1 (by omega)
    refine ⟨x', y', ?_⟩
    rw [List.map_cons]
    refine (forD_cons (ρ1 := [a, b, c, none, some (.im (.int m.1)), some (.im (.int m.2)), some (.im (.int p.1)), some (.im (.int p.2)), w]) (ρ2 := [a, b, c, none, some (.im (.int m.1)), some (.im (.int m.2)), some (.im (.int p.1)), some (.im (.int p.2)), w]) (kv2 := bump kv (sb m p)) rfl ?_).trans e
    exact cnt_eq rfl h1 (by omega)
theorem cm_out {sp : Nd} {b c : Option Val} {w : Option Val} : ∀ (l : Nd) (kv : KV) (x y z u : Option Val), IntKv kv → kv.length + l.length * sp.length ≤ 1000000 →
    ∃ x' y' z' u', forD (bPair 4 5) cmOut (l.map pD) [some (.im (nD sp)), b, c, none, x, y, z, u, w] kv = some ([some (.im (nD sp)), b, c, none, x', y', z', u', w], l.foldl (bump1 sp) kv)
  | [], kv, x, y, z, u, _, _ => ⟨x, y, z, u, rfl⟩
  | m :: l, kv, x, y, z, u, h1, h2 => by
    rw [List.length_cons, Nat.add_mul, Nat.one_mul] at h2
    obtain ⟨k1, k2⟩ := bump1_ok (m := m) (sp := sp) h1
    obtain ⟨z1, u1, e1⟩ := cm_in (a := some (.im (nD sp))) (b := b) (c := c) (m := m) (w := w) sp kv z u h1 (by omega)
    obtain ⟨x', y', z', u', e⟩ := cm_out (sp := sp) (b := b) (c := c) (w := w) l (bump1 sp kv m) (some (.im (.int m.1))) (some (.im (.int m.2))) z1 u1 k1 (by omega)
    refine ⟨x', y', z', u', ?_⟩
    rw [List.map_cons]
    refine (forD_cons (ρ1 := [some (.im (nD sp)), b, c, none, some (.im (.int m.1)), some (.im (.int m.2)), z, u, w]) (ρ2 := [some (.im (nD sp)), b, c, none, some (.im (.int m.1)), some (.im (.int m.2)), z1, u1, w]) (kv2 := bump1 sp kv m) rfl ?_).trans e
    exact e1
theorem counted_marks_eq {k : Nat} {sp marks : Nd} (hl : marks.length * sp.length ≤ 400) : g_law_counted_marks [.im (nD sp), .im (.int k), .im (nD marks)] = some (.im (nD (toldMarks marks sp k))) := by
  obtain ⟨x, y, z, u, e⟩ := cm_out (sp := sp) (b := some (.im (.int k))) (c := some (.im (nD marks))) (w := none) marks [] none none none none int_nil (by simp; omega)
  obtain ⟨hk, hkl⟩ := all_ok marks sp
  obtain ⟨hn, hnl⟩ := held_ok hk k
  have hkl' : (bumpAll marks sp).length ≤ 400 := Nat.le_trans hkl hl
  have e1 : m_law_counted_marks [some (.im (nD sp)), some (.im (.int k)), some (.im (nD marks)), none, none, none, none, none, none] = some (.rt (.im (nD (toldMarks marks sp k)))) := by
    refine (q_build (c := 3) (ρ := [some (.im (nD sp)), some (.im (.int k)), some (.im (nD marks)), none, none, none, none, none, none]) (s := bFor (srcT (eVar 2)) (bPair 4 5) cmOut) (r := ([some (.im (nD sp)), some (.im (.int k)), some (.im (nD marks)), none, x, y, z, u, none], bumpAll marks sp)) (by simp) e).trans ?_
    have hc := held_comp (src := srcN (eCall gListD (aCons (eVar 3) aNil))) (i := 8) (c := 3) (w := 1) (ρ := [some (.im (nD sp)), some (.im (.int k)), some (.im (nD marks)), some (.dc (bumpAll marks sp)), x, y, z, u, none]) (kv := bumpAll marks sp) (k := k) hk (by omega) (by
      show some ((bumpAll marks sp).map fun q => pD q.1) = _
      rw [List.map_map]
      rfl) (fun p => ⟨_, rfl, rfl, rfl, rfl⟩)
    have hs : gSorted [.ls true ((heldBy (bumpAll marks sp) k).map pD)] = some (.ls true ((toldMarks marks sp k).map pD)) := by
      show (gSort ((heldBy (bumpAll marks sp) k).map pD)).map (Val.ls true) = _
      rw [gSort_pD (by omega)]
      rfl
    exact q_ret (q_call (q_cons (q_call (q_cons hc q_nil) hs) q_nil) rfl)
  show (m_law_counted_marks [some (.im (nD sp)), some (.im (.int k)), some (.im (nD marks)), none, none, none, none, none, none]).bind retO = _
  rw [e1]
  rfl
end Al
set_option Elab.async false
set_option linter.all false
set_option maxRecDepth 100000
set_option maxHeartbeats 4000000
/-! Al, plain part M: what is shown is short. -/
namespace Al
open PySem L2 Ai
def Shw (d : PyData) (B : Nat) : Prop := d.showable = true ∧ d.shown.length ≤ B
theorem shw_int {i : Int} (h1 : -99 ≤ i) (h2 : i ≤ 99) : Shw (.int i) 4 := by
  have key : ∀ n : Fin 199, ((PyData.int ((n.val : Int) - 99)).showable && decide ((PyData.int ((n.val : Int) - 99)).shown.length ≤ 4)) = true := by decide +kernel
  have := key ⟨(i + 99).toNat, by omega⟩
  rw [show (((i + 99).toNat : Nat) : Int) - 99 = i by omega] at this
  simp only [Bool.and_eq_true, decide_eq_true_eq] at this
  exact this
theorem tuple_len (ts : List Str) : (tupleText ts).length ≤ piled ts + 4 := by
  have inner : (Str.join ", " ts).length ≤ piled ts := by
    cases ts with
    | nil => exact Nat.zero_le _
    | cons t ts =>
      have := join_length_add (t :: ts) (by simp)
      omega
  have last : (((if ts.length == 1 then ",)" else ")" : String)) : Str).length ≤ 2 := by split <;> decide
  have first : (("(" : String) : Str).length = 1 := by decide
  unfold tupleText
  simp only [strLen_append]
  omega
theorem from_len : ∀ (ts : List Str) (k : Nat) (acc : Str), (textFrom k acc ts).length ≤ acc.length + piled ts
  | [], _, acc => Nat.le_add_right _ _
  | t :: ts, k, acc => by
    refine Nat.le_trans (from_len ts (k + 1) _) ?_
    have gap : (((if k > 0 then ", " else "" : String)) : Str).length ≤ 2 := by split <;> decide
    simp only [strLen_append, piled_cons]
    omega
theorem list_len (ts : List Str) : (listText ts).length ≤ piled ts + 4 := by
  have body := from_len ts 0 "["
  have ends : (("[" : String) : Str).length = 1 ∧ (("]" : String) : Str).length = 1 := by decide
  unfold listText
  simp only [strLen_append]
  omega
theorem shw_all {B : Nat} : ∀ {ds : List PyData}, (∀ d ∈ ds, Shw d B) → PyData.showableAll ds = true ∧ piled (PyData.shownAll ds) ≤ ds.length * (B + 2)
  | [], _ => ⟨by simp [PyData.showableAll], by simp [PyData.shownAll, piled]⟩
  | d :: ds, h => by
    have h1 := h d (List.mem_cons_self ..)
    obtain ⟨h2, h3⟩ := shw_all fun x hx => h x (List.mem_cons_of_mem _ hx)
    refine ⟨by simp only [PyData.showableAll, h1.1, h2, Bool.and_self], ?_⟩
    have := h1.2
    simp only [PyData.shownAll, piled_cons, List.length_cons, Nat.add_mul, Nat.one_mul] at h3 ⊢
    omega
theorem shw_tup {B n : Nat} {ds : List PyData} (h : ∀ d ∈ ds, Shw d B) (hl : ds.length ≤ n) : Shw (.tuple ds) (n * (B + 2) + 4) := by
  obtain ⟨h2, h3⟩ := shw_all h
  refine ⟨by simp only [PyData.showable, h2], ?_⟩
  have e : (PyData.tuple ds).shown = tupleText (PyData.shownAll ds) := by simp only [PyData.shown]
  have h4 := tuple_len (PyData.shownAll ds)
  have h5 : ds.length * (B + 2) ≤ n * (B + 2) := Nat.mul_le_mul_right _ hl
  rw [e]
  omega
theorem shw_list {B n : Nat} {ds : List PyData} (h : ∀ d ∈ ds, Shw d B) (hl : ds.length ≤ n) : Shw (.list ds) (n * (B + 2) + 4) := by
  obtain ⟨h2, h3⟩ := shw_all h
  refine ⟨by simp only [PyData.showable, h2], ?_⟩
  have e : (PyData.list ds).shown = listText (PyData.shownAll ds) := by simp only [PyData.shown]
  have h4 := list_len (PyData.shownAll ds)
  have h5 : ds.length * (B + 2) ≤ n * (B + 2) := Nat.mul_le_mul_right _ hl
  rw [e]
  omega
theorem Shw.mono {d : PyData} {B C : Nat} (h : Shw d B) (hc : B ≤ C) : Shw d C := ⟨h.1, Nat.le_trans h.2 hc⟩
theorem shw_pD {p : Pl} (h : InD 99 p) : Shw (pD p) 16 := shw_tup (n := 2) (B := 4) (fun d hd => by
  rcases List.mem_cons.mp hd with e | e
  · rw [e]
    exact shw_int h.1.1 h.1.2
  · rw [List.mem_singleton.mp e]
    exact shw_int h.2.1 h.2.2) (by simp)
theorem shw_nD {n : Nd} (h : ∀ p ∈ n, InD 99 p) (hl : n.length ≤ 400) : Shw (nD n) 7204 := shw_tup (n := 400) (B := 16) (fun d hd => by
  obtain ⟨p, hp, rfl⟩ := List.mem_map.mp hd
  exact shw_pD (h p hp)) (by rw [List.length_map]; exact hl)
theorem shw_rD {r : List Nd} (h : ∀ n ∈ r, ∀ p ∈ n, InD 99 p) (hl : ∀ n ∈ r, n.length ≤ 400) (hr : r.length ≤ 60) : Shw (rD r) 432364 := shw_tup (n := 60) (B := 7204) (fun d hd => by
  obtain ⟨n, hn, rfl⟩ := List.mem_map.mp hd
  exact shw_nD (h n hn) (hl n hn)) (by rw [List.length_map]; exact hr)
theorem sml_rD (r : List Nd) : Sml (rD r) 3 := sml_tup fun d hd => by
  obtain ⟨n, _, rfl⟩ := List.mem_map.mp hd
  exact sml_nD n
theorem okShow_two {r : List Nd} {n : Nd} (h : ∀ n ∈ r, ∀ p ∈ n, InD 99 p) (hl : ∀ n ∈ r, n.length ≤ 400) (hr : r.length ≤ 60) (h2 : ∀ p ∈ n, InD 99 p) (hl2 : n.length ≤ 400) : okShow [rD r, nD n] = true := by
  have hs : Shw (.list [rD r, nD n]) (2 * (432364 + 2) + 4) := shw_list (n := 2) (B := 432364) (fun d hd => by
    rcases List.mem_cons.mp hd with e | e
    · rw [e]
      exact shw_rD h hl hr
    · rw [List.mem_singleton.mp e]
      exact (shw_nD h2 hl2).mono (by omega)) (by simp)
  have hm : ∀ d ∈ [rD r, nD n], Sml d 3 := fun d hd => by
    rcases List.mem_cons.mp hd with e | e
    · rw [e]
      exact sml_rD r
    · rw [List.mem_singleton.mp e]
      exact (sml_nD n).mono (by omega)
  have ha := sml_all hm
  unfold okShow
  have h5 : (PyData.list [rD r, nD n]).hasDict = false := PyData.hasDict_of_canLay _ (by simp only [PyData.canLay0, ha.1])
  have h6 : (PyData.list [rD r, nD n]).depth ≤ 64 := by
    simp only [PyData.depth]
    omega
  rw [hs.1, h5, decide_eq_true h6, decide_eq_true (Nat.le_trans hs.2 (by omega))]
  rfl
theorem law_like_eq {ds : List PyData} (h : okShow ds = true) : g_law_like [.ls true ds, .ls true ds] = some (.im (.bool true)) := by
  have e : eLike (aCons (eVar 0) aNil) (aCons (eVar 1) aNil) [some (.ls false ds), some (.ls false ds)] = some (.im (.bool true)) := by
    unfold eLike
    rw [q_cons (x := .ls false ds) rfl q_nil, q_cons (x := .ls false ds) rfl q_nil]
    dsimp only
    rw [h]
    simp
  have e1 : m_law_like [some (.ls false ds), some (.ls false ds)] = some (.rt (.im (.bool true))) := q_ret e
  show (m_law_like [some (.ls false ds), some (.ls false ds)]).bind retO = _
  rw [e1]
  rfl
end Al
set_option Elab.async false
set_option linter.all false
set_option maxRecDepth 100000
set_option maxHeartbeats 4000000
/-! Al, plain part N: the plain law. -/
namespace Al
open PySem L2 Ai
theorem asc_nodup {n : List Pl} (h : AscP n) : n.Nodup := h.imp fun {a b} hab e => by
  rw [e, swoP.refl] at hab
  cases hab
theorem chosen_mem {sp : Nd} : ∀ (k : Nat), ∀ r ∈ chosenT ltP sp k, r.length = k ∧ ∀ p ∈ r, p ∈ sp
  | 0, r, h => by
    rw [List.mem_singleton.mp h]
    exact ⟨rfl, fun p hp => by cases hp⟩
  | k + 1, r, h => by
    have h' : r ∈ chosen1 ltP sp (chosenT ltP sp k) := h
    rw [ch_eq] at h'
    obtain ⟨q, hq, h'⟩ := List.mem_flatMap.mp h'
    obtain ⟨p, hp, rfl⟩ := List.mem_map.mp h'
    obtain ⟨k1, k2⟩ := chosen_mem k q hq
    refine ⟨by rw [List.length_append, k1, List.length_singleton], fun x hx => ?_⟩
    rcases List.mem_append.mp hx with e | e
    · exact k2 x e
    · rw [List.mem_singleton.mp e]
      exact (List.mem_filter.mp hp).1
structure RkOk (sp : Nd) (k : Nat) : Prop where
  sets : setsT ltP sp k = chosenT ltP sp k
  run : chRun ltP sp k [[]] = some (chosenT ltP sp k)
  okN : okNs (chosenT ltP sp k) = true
  few : (chosenT ltP sp k).length ≤ 20
  rows : ∀ r ∈ chosenT ltP sp k, r.length ≤ 6
  bars : barsT ltP (chosenT ltP sp k) = some (chosenT ltP sp (sp.length + 1 - k))
  rule : ruleT ltP (chosenT ltP sp k) = true
  less : 1 < k → lesserT (chosenT ltP sp k) (chosenT ltP sp (k - 1)) = true
  all : (chosenT ltP sp k).length * (k + 1) + 1 ≤ 20 → allT ltP (chosenT ltP sp k) = some (chosenT ltP sp k)
theorem RkOk.of {sp : Nd} {k : Nat} (h : rankOk ltP sp k = true) : RkOk sp k := by
  unfold rankOk at h
  simp only [Bool.and_eq_true, Bool.or_eq_true, decide_eq_true_eq, List.all_eq_true] at h
  obtain ⟨⟨⟨⟨⟨⟨⟨⟨h1, h2⟩, h3⟩, h4⟩, h5⟩, h6⟩, h7⟩, h8⟩, h9⟩ := h
  refine ⟨h1, h2, h3, h4, h5, h6, h7, fun hk => ?_, fun hk => ?_⟩
  · rcases h8 with e | e
    · omega
    · exact e
  · rcases h9 with e | e
    · omega
    · exact e
structure Sp (sp : Nd) : Prop where
  asc : AscP sp
  lo : 1 ≤ sp.length
  hi : sp.length ≤ 6
  ins : Within2 2 sp
theorem Sp.ok {sp : Nd} (h : Sp sp) : SpOk sp := ⟨h.lo, by have := h.hi; omega, fun p hp => by
  have := h.ins p hp
  exact ⟨⟨by omega, by omega⟩, by omega, by omega⟩, asc_of h.asc⟩
theorem Sp.all {sp : Nd} (h : Sp sp) : (∀ k, 1 ≤ k → k ≤ sp.length → RkOk sp k) ∧ grownT ltP sp = some (chosenT ltP sp 1) ∧ eatenT ltP sp = some (chosenT ltP sp sp.length) := by
  have key := spots_ok swoP.refl swoP.asym sp h.asc h.lo h.hi
  unfold spotsOk at key
  simp only [Bool.and_eq_true, decide_eq_true_eq, List.all_eq_true, List.mem_range] at key
  refine ⟨fun k h1 h2 => ?_, key.1.2, key.2⟩
  have := key.1.1 (k - 1) (by omega)
  rw [show k - 1 + 1 = k by omega] at this
  exact RkOk.of this
theorem Sp.rk {sp : Nd} (h : Sp sp) {k : Nat} (h1 : 1 ≤ k) (h2 : k ≤ sp.length) : g_rank_rule [.im (rankD k sp)] = some (.im (rD (chosenT ltP sp k))) := by
  have hh := h.hi
  obtain ⟨c, hc, hg⟩ := count_small (n := sp.length) (k := k) hh h2
  exact rank_rule_eq (by omega) (by omega) hc hg (h.all.1 k h1 h2).run
theorem Sp.ins20 {sp : Nd} (h : Sp sp) {k : Nat} : ∀ n ∈ chosenT ltP sp k, ∀ p ∈ n, InD 20 p := fun n hn p hp => h.ok.ins p ((chosen_mem k n hn).2 p hp)
/-! ### what the marks tell lies near -/
theorem bump_keys {kv : KV} {p q : Pl} (h : q ∈ (bump kv p).map (·.1)) : q ∈ kv.map (·.1) ∨ q = p := by
  unfold bump at h
  rw [put_keys] at h
  split at h
  · exact .inl h
  · rcases List.mem_append.mp h with e | e
    · exact .inl e
    · exact .inr (List.mem_singleton.mp e)
theorem bump1_keys {m : Pl} {Q : Pl → Prop} : ∀ (sp : Nd) (kv : KV), (∀ q ∈ kv.map (·.1), Q q) → (∀ p ∈ sp, Q (sb m p)) → ∀ q ∈ (bump1 sp kv m).map (·.1), Q q
  | [], kv, h, _ => h
  | p :: sp, kv, h, h2 => bump1_keys (m := m) sp (bump kv (sb m p)) (fun q hq => by
    rcases bump_keys hq with e | e
    · exact h q e
    · rw [e]
      exact h2 p (List.mem_cons_self ..)) fun p hp => h2 p (List.mem_cons_of_mem _ hp)
theorem bumps_keys {sp : Nd} {Q : Pl → Prop} : ∀ (ms : Nd) (kv : KV), (∀ q ∈ kv.map (·.1), Q q) → (∀ m ∈ ms, ∀ p ∈ sp, Q (sb m p)) → ∀ q ∈ (ms.foldl (bump1 sp) kv).map (·.1), Q q
  | [], kv, h, _ => h
  | m :: ms, kv, h, h2 => bumps_keys ms (bump1 sp kv m) (bump1_keys sp kv h (h2 m (List.mem_cons_self ..))) fun m hm => h2 m (List.mem_cons_of_mem _ hm)
theorem told_near {sp marks : Nd} (h : Within2 2 sp) (hm : Within2 3 marks) {k : Nat} : ∀ p ∈ toldMarks marks sp k, InD 99 p := fun p hp => by
  have h1 := isort_mem.mp hp
  have h2 := (List.mem_filter.mp h1).1
  refine bumps_keys (Q := InD 99) marks [] (fun q hq => by cases hq) (fun m hm' p hp' => ?_) p h2
  have a := h p hp'
  have b := hm m hm'
  have ha := a.1
  have hb := b.1
  unfold InD sb
  dsimp only
  omega
theorem told_few {sp marks : Nd} {k : Nat} (hl : marks.length * sp.length ≤ 400) : (toldMarks marks sp k).length ≤ 400 := by
  obtain ⟨h1, h2⟩ := all_ok marks sp
  obtain ⟨_, h3⟩ := held_ok h1 k
  unfold toldMarks
  rw [(isort_perm _).length_eq]
  omega
theorem isB_tt : gIsB true (.im (.bool true)) (.im (.bool true)) = some (.im (.bool false)) := rfl
/-! ### law_right -/
def lrBody : Bk := sSeq (sAsg 4 (eTup (aCons (eC (.str "rank")) (aCons (eVar 3) (aCons (eVar 0) aNil))))) (sSeq (sAsg 5 (eCall g_law_sets (aCons (eVar 0) (aCons (eVar 3) aNil)))) (sSeq (sIf (tNotE (eB (eCall g_law_like (aCons (eLst (aCons (eCall g_term_rule (aCons (eVar 4) aNil)) (aCons (eCall g_term_stepped (aCons (eVar 4) (aCons (eVar 1) aNil))) aNil))) (aCons (eLst (aCons (eVar 5) (aCons (eCall g_law_counted_marks (aCons (eVar 0) (aCons (eVar 3) (aCons (eVar 1) aNil)))) aNil))) aNil))))) (sRet (eC (.bool false))) sNext) (sSeq (sIf (eB (eBin (gIsB true) (eCall g_terms_alike (aCons (eTup (aCons (eC (.str "turned")) (aCons (eVar 4) aNil))) (aCons (eTup (aCons (eC (.str "rank")) (aCons (eBin gSub (eBin gAdd (eVar 2) (eC (.int 1))) (eVar 3)) (aCons (eVar 0) aNil)))) aNil))) (eC (.bool true)))) (sRet (eC (.bool false))) sNext) (sIf (tAndE (eB (eBin (gRel fGt) (eVar 3) (eC (.int 1)))) (eB (eBin (gIsB true) (eCall g_is_lesser (aCons (eVar 5) (aCons (eCall g_term_rule (aCons (eTup (aCons (eC (.str "rank")) (aCons (eBin gSub (eVar 3) (eC (.int 1))) (aCons (eVar 0) aNil)))) aNil)) aNil))) (eC (.bool true))))) (sRet (eC (.bool false))) sNext))))
theorem q_lst {a : Tas} {ρ : En} {xs : List Val} {ds : List PyData} (h : a ρ = some xs) (h2 : imsOf xs = some ds) (h3 : ds.length ≤ 1000000) : eLst a ρ = some (.ls true ds) := by
  unfold eLst
  rw [h, Option.bind_some, h2, Option.bind_some, lenOk_le h3, if_pos rfl]
theorem q_rank {a b : Xp} {ρ : En} {k : Nat} {sp : Nd} {i : Int} (hi : i = k) (h1 : a ρ = some (.im (.int i))) (h2 : b ρ = some (.im (nD sp))) : eTup (aCons (eC (.str "rank")) (aCons a (aCons b aNil))) ρ = some (.im (rankD k sp)) := by
  subst hi
  exact q_tup (q_cons (f := eC (.str "rank")) (x := .im (.str "rank")) rfl (q_cons h1 (q_cons h2 q_nil))) (by rfl) (by simp)
theorem lr_body {sp marks : Nd} (h : Sp sp) (ha : AscP marks) (hm : marks.length ≤ 10) (hw : Within2 3 marks) {k : Nat} (h1 : 1 ≤ k) (h2 : k ≤ sp.length) {x y z : Option Val} :
    lrBody [some (.im (nD sp)), some (.im (nD marks)), some (.im (.int sp.length)), some (.im (.int k)), x, y, z] = some (.nx [some (.im (nD sp)), some (.im (nD marks)), some (.im (.int sp.length)), some (.im (.int k)), some (.im (rankD k sp)), some (.im (rD (chosenT ltP sp k))), z]) := by
  have hk := h.all.1 k h1 h2
  have hhi := h.hi
  have hml : marks.length * sp.length ≤ 10 * 6 := Nat.mul_le_mul hm hhi
  refine (q_nx (q_asg (q_rank (k := k) (sp := sp) (i := k) rfl rfl rfl))).trans ?_
  have hsets : g_law_sets [.im (nD sp), .im (.int k)] = some (.im (rD (chosenT ltP sp k))) := by rw [law_sets_eq hhi h1, hk.sets]
  refine (q_nx (q_asg (q_call (q_cons (x := .im (nD sp)) rfl (q_cons (x := .im (.int k)) rfl q_nil)) hsets))).trans ?_
  have hst := term_stepped_eq h.ok h1 h2 (by omega) (by omega) (fun p hp => by have := hw p hp; exact ⟨⟨by omega, by omega⟩, by omega, by omega⟩) ha (asc_nodup ha)
  have hcm := counted_marks_eq (k := k) (sp := sp) (marks := marks) (by omega)
  have htr := term_rule_eq (h.rk h1 h2) h.ok h1 h2
  have hshow : okShow [rD (chosenT ltP sp k), nD (toldMarks marks sp k)] = true := okShow_two (fun n hn p hp => by
    have := h.ins20 n hn p hp
    unfold InD at this ⊢
    omega) (fun n hn => by have := hk.rows n hn; omega) (by have := hk.few; omega) (told_near h.ins hw) (told_few (by omega))
  refine (q_nx ((q_iff (q_not (c := true) (q_eb (q_call (q_cons
    (q_lst (ds := [rD (chosenT ltP sp k), nD (toldMarks marks sp k)]) (q_cons (q_call (q_cons (x := .im (rankD k sp)) rfl q_nil) htr) (q_cons (q_call (q_cons (x := .im (rankD k sp)) rfl (q_cons (x := .im (nD marks)) rfl q_nil)) hst) q_nil)) rfl (by simp)) (q_cons
    (q_lst (ds := [rD (chosenT ltP sp k), nD (toldMarks marks sp k)]) (q_cons (x := .im (rD (chosenT ltP sp k))) rfl (q_cons (q_call (q_cons (x := .im (nD sp)) rfl (q_cons (x := .im (.int k)) rfl (q_cons (x := .im (nD marks)) rfl q_nil))) hcm) q_nil)) rfl (by simp)) q_nil))
    (law_like_eq hshow))))).trans rfl)).trans ?_
  have hal : g_terms_alike [.im (turnD (rankD k sp)), .im (rankD (sp.length + 1 - k) sp)] = some (.im (.bool true)) :=
    terms_alike_eq (gd_turn h.ok h1 h2) (gd_rank h.ok (by omega) (by omega)) (by omega) (by omega) (by omega) (by omega) (rs2_turn (h.rk h1 h2) (fun n hn => by have := hk.rows n hn; omega) hk.bars) (rs2_rank (h.rk (by omega) (by omega)))
  refine (q_nx ((q_iff (q_eb (q_bin (q_call (q_cons
    (q_tup (ds := [.str "turned", rankD k sp]) (q_cons (x := .im (.str "turned")) rfl (q_cons (x := .im (rankD k sp)) rfl q_nil)) (by rfl) (by simp)) (q_cons
    (q_rank (k := sp.length + 1 - k) (sp := sp) (i := (sp.length : Int) + 1 - k) (by omega) rfl rfl) q_nil)) hal) rfl isB_tt))).trans rfl)).trans ?_
  by_cases hk1 : 1 < k
  · have hk0 := h.all.1 (k - 1) (by omega) (by omega)
    have htr0 := term_rule_eq (h.rk (k := k - 1) (by omega) (by omega)) h.ok (by omega) (by omega)
    have hle := is_lesser_eq hk.rule h.ins20 hk0.rule h.ins20 (hk.less hk1)
    have hgt : gRel fGt (.im (.int k)) (.im (.int 1)) = some (.im (.bool true)) := by
      rw [gRel_int, show fGt (k : Int) 1 = decide ((1 : Int) < k) from rfl, decide_eq_true (by omega)]
    exact (q_iff (q_and (c := true) (d := false) (q_eb (q_bin (x := .im (.int k)) rfl rfl hgt)) (q_eb (q_bin (q_call (q_cons (x := .im (rD (chosenT ltP sp k))) rfl (q_cons (q_call (q_cons (q_rank (k := k - 1) (sp := sp) (i := (k : Int) - 1) (by omega) rfl rfl) q_nil) htr0) q_nil)) hle) rfl isB_tt)))).trans rfl
  · have hgt : gRel fGt (.im (.int k)) (.im (.int 1)) = some (.im (.bool false)) := by
      rw [gRel_int, show fGt (k : Int) 1 = decide ((1 : Int) < k) from rfl, decide_eq_false (by omega)]
    exact (q_iff (q_andf (q_eb (q_bin (x := .im (.int k)) rfl rfl hgt)))).trans rfl
theorem law_right_eq {sp marks : Nd} (h : Sp sp) (ha : AscP marks) (hm : marks.length ≤ 10) (hw : Within2 3 marks) : g_law_right [.im (nD sp), .im (nD marks)] = some (.im (.bool true)) := by
  have hhi := h.hi
  have hlo := h.lo
  obtain ⟨ρ', e1, x, y, z, rfl⟩ := for_inv (b := bName 3) (body := lrBody) (fun ρ => ∃ x y z, ρ = [some (.im (nD sp)), some (.im (nD marks)), some (.im (.int sp.length)), x, y, z, none]) (intsD 1 1 (((sp.length : Int) + 1) - 1).toNat) [some (.im (nD sp)), some (.im (nD marks)), some (.im (.int sp.length)), none, none, none, none] ⟨none, none, none, rfl⟩ (fun d hd ρ ⟨x, y, z, hy⟩ => by
    subst hy
    obtain ⟨i, hi, rfl⟩ := ints_mem hd
    have hb := lr_body h ha hm hw (k := i + 1) (by omega) (by omega) (x := y) (y := z) (z := none)
    refine ⟨_, _, ?_, hb, _, _, _, rfl⟩
    show some [some (.im (nD sp)), some (.im (nD marks)), some (.im (.int sp.length)), some (.im (.int (1 + (i : Int) * 1))), y, z, none] = _
    rw [show (1 + (i : Int) * 1) = ((i + 1 : Nat) : Int) by omega])
  have hend1 : g_terms_alike [.im (rankD 1 sp), .im (manyD true (sp.map atD))] = some (.im (.bool true)) :=
    terms_alike_eq (gd_rank h.ok (by omega) (by omega)) (gd_ats hlo (by omega) h.ok.ins) (by omega) (by omega) (by omega) (by omega) (rs2_rank (h.rk (by omega) (by omega))) (rs2_ats (m := true) h.all.2.1)
  have hend2 : g_terms_alike [.im (rankD sp.length sp), .im (manyD false (sp.map atD))] = some (.im (.bool true)) :=
    terms_alike_eq (gd_rank h.ok hlo (Nat.le_refl _)) (gd_ats hlo (by omega) h.ok.ins) (by omega) (by omega) (by omega) (by omega) (rs2_rank (h.rk hlo (Nat.le_refl _))) (rs2_ats (m := false) h.all.2.2)
  have hlike : g_law_like [.ls false [.bool true, .bool true], .ls true [.bool true, .bool true]] = some (.im (.bool true)) := by kernel_rfl
  have e : m_law_right [some (.im (nD sp)), some (.im (nD marks)), none, none, none, none, none] = some (.rt (.im (.bool true))) := by
    refine (q_nx (q_asg (q_call (q_cons q_v0 q_nil) (len_nD sp)))).trans ?_
    refine (q_nx ((q_for (src2_eq (i := 1) (j := (sp.length : Int) + 1) rfl rfl ⟨by omega, by omega⟩ ⟨by omega, by omega⟩)).trans e1)).trans ?_
    refine (q_nx (q_asgl (q_lst (ds := [.bool true, .bool true]) (q_cons (q_call (q_cons (q_rank (k := 1) (sp := sp) (i := 1) rfl rfl rfl) (q_cons (q_call (q_cons (x := .im (nD sp)) rfl q_nil) (grown_eq h.ok)) q_nil)) hend1) (q_cons (q_call (q_cons (q_rank (k := sp.length) (sp := sp) (i := sp.length) rfl rfl rfl) (q_cons (q_call (q_cons (x := .im (nD sp)) rfl q_nil) (eaten_eq h.ok)) q_nil)) hend2) q_nil)) rfl (by simp)))).trans ?_
    exact q_ret (q_call (q_cons (x := .ls false [.bool true, .bool true]) rfl (q_cons (x := .ls true [.bool true, .bool true]) rfl q_nil)) hlike)
  show (m_law_right [some (.im (nD sp)), some (.im (nD marks)), none, none, none, none, none]).bind retO = _
  rw [e]
  rfl
end Al
set_option Elab.async false
set_option linter.all false
set_option maxRecDepth 100000
set_option maxHeartbeats 4000000
/-! Al, plain part O: the rest of law_as_all, law_twelve. -/
namespace Al
open PySem L2 Ai
/-! ### law_as_all -/
theorem row_comp {a b c d e f : Option Val} {n : Nd} (hl : n.length ≤ 1000) : eComp (srcT (eVar 6)) [5] (bName 5) tTrue (eTup (aCons (eC (.str "at")) (aCons (eVar 5) aNil))) [a, b, c, d, e, f, some (.im (nD n))] = some (.ls true (n.map atD)) := by
  rw [comp_eq (ds := n.map pD) (f := fun d => some (.tuple [.str "at", d])) rfl (fun d hd => rfl) (by rw [List.length_map]; omega)]
  congr 2
  rw [List.filterMap_map]
  clear hl
  induction n with
  | nil => rfl
  | cons y n ih => rw [List.filterMap_cons_some (by rfl), List.map_cons, ih]; rfl
theorem parts_comp {a b c e f g : Option Val} {r : List Nd} (hl : r.length ≤ 1000) (hr : ∀ n ∈ r, n.length ≤ 1000) :
    eComp (srcT (eVar 3)) [6] (bName 6) tTrue (eTup (aCons (eC (.str "least")) (aCons (eCall gTuple (aCons (eComp (srcT (eVar 6)) [5] (bName 5) tTrue (eTup (aCons (eC (.str "at")) (aCons (eVar 5) aNil)))) aNil)) aNil))) [a, b, c, some (.im (rD r)), e, f, g] = some (.ls true (r.map fun n => manyD false (n.map atD))) := by
  rw [comp_eq (ds := r.map nD) (f := fun d => match dN d with | some n => some (manyD false (n.map atD)) | none => none) rfl (fun d hd => ?_) (by rw [List.length_map]; omega)]
  · congr 2
    rw [List.filterMap_map]
    clear hl hr
    induction r with
    | nil => rfl
    | cons y r ih => rw [List.filterMap_cons_some (by simp only [Function.comp_def, dN_nD]; rfl), List.map_cons, ih]
  · obtain ⟨n, hn, rfl⟩ := List.mem_map.mp hd
    unfold turnC
    rw [show (bName 6 (wipeE [a, b, c, some (.im (rD r)), e, f, g] [6]) (nD n)) = some [a, b, c, some (.im (rD r)), e, f, some (.im (nD n))] from rfl, Option.bind_some, dN_nD]
    show (eTup (aCons (eC (.str "least")) (aCons (eCall gTuple (aCons (eComp (srcT (eVar 6)) [5] (bName 5) tTrue (eTup (aCons (eC (.str "at")) (aCons (eVar 5) aNil)))) aNil)) aNil)) [a, b, c, some (.im (rD r)), e, f, some (.im (nD n))]).bind _ = _
    rw [q_tup (ds := [.str "least", .tuple (n.map atD)]) (q_cons (f := eC (.str "least")) (x := .im (.str "least")) rfl (q_cons (q_call (g := gTuple) (z := some (.im (.tuple (n.map atD)))) (q_cons (row_comp (hr n hn)) q_nil) rfl) q_nil)) (by rfl) (by simp)]
    rfl
theorem mul_ok {a b : Int} (h1 : 0 ≤ a) (h2 : a ≤ 1000) : cMul a b = true := by
  unfold cMul
  have h3 : (2 : Int) ^ 64 = 18446744073709551616 := by decide +kernel
  rw [h3, decide_eq_true (by omega), decide_eq_true (by omega)]
  rfl
theorem mul_nat {a b : Nat} (h : a ≤ 1000) : gMul (.im (.int a)) (.im (.int b)) = some (.im (.int ((a * b : Nat) : Int))) := by
  have hc : cMul (a : Int) (b : Int) = true := mul_ok (by omega) (by omega)
  show (if cMul (a : Int) (b : Int) then some (Val.im (.int ((a : Int) * (b : Int)))) else none) = _
  rw [hc, if_pos rfl, Int.natCast_mul]
theorem add_nat {a : Nat} : gAdd (.im (.int a)) (.im (.int 1)) = some (.im (.int ((a + 1 : Nat) : Int))) := rfl
theorem isB_t : gIsB false (.im (.bool true)) (.im (.bool true)) = some (.im (.bool true)) := rfl
theorem as_all_core {sp : Nd} {k : Nat} {r : List Nd} {ps : List PyData} (hr : r.length ≤ 1000) (hn : ∀ n ∈ r, n.length ≤ 1000) (hp : ps = r.map fun n => manyD false (n.map atD)) (hsets : g_law_sets [.im (nD sp), .im (.int k)] = some (.im (rD r)))
    (hal : r.length * (k + 1) + 1 ≤ 20 → g_terms_alike [.im (manyD true ps), .im (rankD k sp)] = some (.im (.bool true))) : m_rest_as_all [none, some (.im (nD sp)), some (.im (.int k)), none, none, none, none] = some (.rt (.im (.bool true))) := by
  have hparts : eCall gTuple (aCons (eComp (srcT (eVar 3)) [6] (bName 6) tTrue (eTup (aCons (eC (.str "least")) (aCons (eCall gTuple (aCons (eComp (srcT (eVar 6)) [5] (bName 5) tTrue (eTup (aCons (eC (.str "at")) (aCons (eVar 5) aNil)))) aNil)) aNil)))) aNil) [none, some (.im (nD sp)), some (.im (.int k)), some (.im (rD r)), none, none, none] = some (.im (.tuple ps)) := by
    subst hp
    exact q_call (q_cons (parts_comp hr hn) q_nil) rfl
  have hnum : eBin gAdd (eBin gMul (eCall gLen (aCons (eVar 3) aNil)) (eBin gAdd (eVar 2) (eC (.int 1)))) (eC (.int 1)) [none, some (.im (nD sp)), some (.im (.int k)), some (.im (rD r)), some (.im (.tuple ps)), none, none] = some (.im (.int ((r.length * (k + 1) + 1 : Nat) : Int))) :=
    q_bin (q_bin (q_call (q_cons (x := .im (rD r)) rfl q_nil) (len_rD r)) (q_bin (x := .im (.int k)) (y := .im (.int 1)) rfl rfl add_nat) (mul_nat hr)) (y := .im (.int 1)) rfl add_nat
  clear hp
  refine (q_nx (q_asg (q_call (q_cons (x := .im (nD sp)) rfl (q_cons (x := .im (.int k)) rfl q_nil)) hsets))).trans ?_
  refine (q_nx (q_asg hparts)).trans ?_
  by_cases hb : r.length * (k + 1) + 1 ≤ 20
  · have h1 := gt_20 hb
    have h2 := hal hb
    generalize r.length * (k + 1) + 1 = m at hnum h1
    refine (q_nx (ρ1 := [none, some (.im (nD sp)), some (.im (.int k)), some (.im (rD r)), some (.im (.tuple ps)), none, none]) ((q_iff (q_eb (q_bin hnum (y := .im (.int 20)) rfl h1))).trans rfl)).trans ?_
    refine q_ret (q_bin (x := .im (.bool true)) (y := .im (.bool true)) (q_call (xs := [.im (manyD true ps), .im (rankD k sp)]) (q_cons (q_tup (ds := [.str "most", .tuple ps]) (q_cons (x := .im (.str "most")) rfl (q_cons (x := .im (.tuple ps)) rfl q_nil)) ?_ (by simp)) (q_cons (q_rank (k := k) (sp := sp) (i := k) rfl rfl rfl) q_nil)) h2) rfl isB_t)
    rfl
  · have hgt : gRel fGt (.im (.int ((r.length * (k + 1) + 1 : Nat) : Int))) (.im (.int 20)) = some (.im (.bool true)) := by
      rw [gRel_int, show fGt (((r.length * (k + 1) + 1 : Nat) : Int)) 20 = decide ((20 : Int) < ((r.length * (k + 1) + 1 : Nat) : Int)) from rfl, decide_eq_true (by omega)]
    generalize r.length * (k + 1) + 1 = m at hnum hgt
    exact q_rt (x := .im (.bool true)) ((q_ift (q_eb (q_bin hnum (y := .im (.int 20)) rfl hgt))).trans rfl)
theorem as_all_eq {sp : Nd} (h : Sp sp) {k : Nat} (h1 : 1 ≤ k) (h2 : k ≤ sp.length) : m_rest_as_all [none, some (.im (nD sp)), some (.im (.int k)), none, none, none, none] = some (.rt (.im (.bool true))) := by
  have hk := h.all.1 k h1 h2
  have hhi := h.hi
  have hsets : g_law_sets [.im (nD sp), .im (.int k)] = some (.im (rD (chosenT ltP sp k))) := by rw [law_sets_eq hhi h1, hk.sets]
  have hfew := hk.few
  have hne : 1 ≤ (chosenT ltP sp k).length := by
    have := hk.rule
    unfold ruleT at this
    simp only [Bool.and_eq_true, decide_eq_true_eq] at this
    exact this.1.1.1.1
  exact as_all_core (by omega) (fun n hn => by have := hk.rows n hn; omega) rfl hsets fun hb =>
    terms_alike_eq (gd_all (k := k) hne (by omega) h1 (by omega) fun n hn => ⟨(chosen_mem k n hn).1, h.ins20 n hn⟩) (gd_rank h.ok h1 h2) (by omega) (by rw [Nat.mul_one]; exact hb) (by omega) (by omega) (rs2_all (hk.all hb)) (rs2_rank (h.rk h1 h2))
theorem plain_law : PlainLaw where
  right := fun spots marks h1 h2 h3 h4 h5 h6 h7 => law_right_eq ⟨h1, h2, h3, h4⟩ h5 h6 h7
  asall := fun spots h1 h2 h3 h4 k hk => by
    unfold envAA
    rw [show (1 + (k : Int)) = ((k + 1 : Nat) : Int) by omega]
    exact as_all_eq ⟨h1, h2, h3, h4⟩ (by omega) (by omega)
/-! ### law_twelve -/
def ltG (a b : Fin 12) : Bool := decide (a.val < b.val)
def fins12 : List (Fin 12) := List.ofFn fun i => i
def row11 : List (List (Fin 12)) := (fins12.reverse).map fun i => fins12.filter fun j => !decide (j = i)
theorem e1 : chRun ltG fins12 1 [[]] = some (fins12.map fun i => [i]) := by decide +kernel
theorem e11 : chRun ltG fins12 11 [[]] = some row11 := by decide +kernel
theorem e11l : row11.length = 12 := by decide +kernel
theorem e12 : chosen1 ltG fins12 row11 = [fins12] := by decide +kernel
theorem e12s : (decide (row11.length ≤ 1000) && row11.all fun r => decide (r.length ≤ 100)) = true := by decide +kernel
theorem chRun_succ {α : Type} [DecidableEq α] {lt : α → α → Bool} {ps : List α} : ∀ (k : Nat) (f r : List (List α)), chRun lt ps k f = some r → (decide (r.length ≤ 1000) && r.all fun r => decide (r.length ≤ 100)) = true → chRun lt ps (k + 1) f = some (chosen1 lt ps r)
  | 0, f, r, h, hc => by
    cases h
    rw [chRun, if_pos hc]
    rfl
  | k + 1, f, r, h, hc => by
    rw [chRun] at h ⊢
    by_cases hf : (decide (f.length ≤ 1000) && f.all fun r => decide (r.length ≤ 100)) = true
    · rw [if_pos hf] at h ⊢
      exact chRun_succ k _ r h hc
    · rw [if_neg hf] at h
      cases h
def ph (i : Fin 12) : Pl := (0, (i.val : Int))
theorem ph_emb : Emb ltG SrtO.lexB ph where
  lt := fun a b => by
    unfold ph ltG SrtO.lexB
    simp
  inj := fun a b h => by
    have := congrArg Prod.snd h
    simp only [ph] at this
    exact Fin.ext (by omega)
def sp12 : Nd := fins12.map ph
theorem sp12_D : nD sp12 = row12 := by kernel_rfl
theorem sp12_ok : SpOk sp12 := ⟨by decide +kernel, by decide +kernel, by
  intro p hp
  obtain ⟨i, _, rfl⟩ := List.mem_map.mp hp
  have := i.2
  unfold ph
  exact ⟨⟨by dsimp only; omega, by dsimp only; omega⟩, by dsimp only; omega, by dsimp only; omega⟩, by decide +kernel⟩
theorem run12 {k : Nat} {r : List (List (Fin 12))} (h : chRun ltG fins12 k [[]] = some r) : chRun ltP sp12 k [[]] = some (r.map (List.map ph)) := by
  have e := chRun_map ph_emb fins12 k [[]]
  rw [h] at e
  exact e
theorem told12 {k : Nat} {r : List (List (Fin 12))} {c : Int} (h : chRun ltG fins12 k [[]] = some r) (hc : c ≤ 60) (hg : g_count_sets [.im (.int 12), .im (.int k)] = some (.im (.int c))) (h1 : 1 ≤ k) (h2 : k ≤ 12) : Told k r.length := by
  have hl : sp12.length = 12 := by decide +kernel
  have hr := rank_rule_eq (sp := sp12) (k := k) (c := c) (by omega) (by omega) hc (by rw [hl]; exact hg) (run12 h)
  have ht := term_rule_eq hr sp12_ok h1 (by omega)
  refine ⟨(r.map (List.map ph)).map nD, ?_, by simp⟩
  have e : rk12 k = rankD k sp12 := by
    unfold rk12 rankD
    rw [sp12_D]
  rw [e, ht]
  rfl
theorem c12_1 : g_count_sets [.im (.int 12), .im (.int ((1 : Nat) : Int))] = some (.im (.int 12)) := by kernel_rfl
theorem c12_11 : g_count_sets [.im (.int 12), .im (.int ((11 : Nat) : Int))] = some (.im (.int 12)) := by kernel_rfl
theorem c12_12 : g_count_sets [.im (.int 12), .im (.int ((12 : Nat) : Int))] = some (.im (.int 1)) := by kernel_rfl
theorem twelve : Tw where
  t1 := told12 e1 (by decide) c12_1 (by decide) (by decide)
  t11 := by
    have := told12 e11 (by decide) c12_11 (by decide) (by decide)
    rw [e11l] at this
    exact this
  t12 := by
    have e := chRun_succ 11 [[]] row11 e11 e12s
    rw [e12] at e
    exact told12 e (by decide) c12_12 (by decide) (by decide)
end Al
set_option Elab.async false
set_option linter.all false
theorem PySem.Challenge.cw_allislands_k16_whole_ranks_holds : PySem.Challenge.rw_allislands_k16_whole_ranks.Holds := by
  exact Al.law_holds Al.plain_law Al.twelve
